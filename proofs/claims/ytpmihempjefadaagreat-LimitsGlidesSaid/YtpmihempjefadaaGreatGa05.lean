/- Rules, arithmetic and contracts: part 6. No conditions but those that each theorem names. -/
import Derived.Test.YtpmihempjefadaaGreatGa04
set_option linter.all false
namespace Go.Sky
variable{xs x p q a b s u y v z:List Int}{ls:List (List Int)}{f m i K:Nat}{c d r:Int}{t:Rat}
theorem Ydb{F:Nat}(o:Tr xs)(l:xs≠[])(j:eok F (gA (Yk xs) (Zy (Yk xs))) (gB (Yk xs) (Zy (Yk xs)))):∃g:List Int,∀x,Zb xs x=Zb (sqf F xs) x*Zb g x:=by
 obtain⟨f1,f2,f3,f4,f5,f6⟩:=Pn F o l j;have h:∃k:Int,∀i,cf xs i=k*cf (Yk xs) i:=by
  unfold Yk Lo;split
  .refine⟨-Yj xs,λi=>?_⟩;rw [Xf,<-Kd xs i];grind
  .refine⟨Yj xs,λi=>?_⟩;rw [<-Kd xs i];grind
 obtain⟨k,h⟩:=h;refine⟨(Od F (Yk xs) (Zy (Yk xs))).map λa=>k*a,λx=>?_⟩;have n:Zb (Yk xs) x=Zb (sqf F xs) x*Zb (Od F (Yk xs) (Zy (Yk xs))) x:=by
  have:=Ho 1 0 (Yk xs) (sqf F xs) (Od F (Yk xs) (Zy (Yk xs))) [] (λt=>by have e:=Ld (sqf F xs) (Od F (Yk xs) (Zy (Yk xs))) t;rw [<-f4]at e;rw [e];omega) x
  push_cast at this;grind
 have e:Zb xs x=Zb ((Yk xs).map λa=>k*a) x:=Qq x _ _ λi=>by rw [Xa];exact h i
 rw [e,Ze,Ze,n];grind
theorem Ycl{x:Rat}{f:List Int->Int}(h:∀p∈ls,Ix (Zb p x)=f p):Bn (ls.map Zb) x=chg (ls.map f):=by unfold Bn;rw [mW];exact aP chg (mE λp e=>h p e)
def Ye3{F:Nat}{X Y:Int}(e:0<Y):cnt F xs X Y=Bn ((Bo F xs).map Zb) ((X:Rat)/(Y:Rat)):=
 (Ycl λp _=>(Zk9 e p).symm).symm
theorem Zti(t:Int):∀p:List Int,Zb p (t:Rat)=((ev1 p t:Int):Rat)
 | []=>rfl
 | c::p=>by have h:=Zti t p;rw [show Zb (c::p) (t:Rat)=(c:Rat)+(t:Rat)*Zb p (t:Rat)from rfl,show ev1 (c::p) t=c+t*ev1 p t from rfl,h];push_cast;rfl
theorem Zr7(h:∀x:Rat,Zb p x=0)(i:Nat):cf p i=0:=by
 by_cases j:cf p i=0
 .exact j
 .exfalso;have:=Zm5 p.length p ((List.range p.length).map λn:Nat=>(n:Int)) rfl ⟨i,j⟩ (by
   refine List.Pairwise.map _ (λa b g=>?_) List.nodup_range;intro e;exact g (by exact_mod_cast e)) (λt l=>by
   have k:=Zti t p;rw [h]at k;exact_mod_cast k.symm)
  simp at this
theorem Nf(h:∀x:Rat,Zb p x=Zb q x)(i:Nat):cf p i=cf q i:=by have e:=Zr7 (p:=Oq p (q.map λa=>(-1)*a)) (λx=>by rw [Yh,Ze,h x];push_cast;grind) i;rw [Nh,Xa]at e;omega
def Oj(p:List Int)(x:Rat):Zb (tzl p) x=Zb p x:=Qq x _ _ λi=>Nj p i
theorem Zx(p q:List Int)(x:Rat):Zb (Yy p q) x=Zb p x*Zb q x:=by rw [<-Zi];exact Qq x _ _ λi=>by rw [Ld,Iv,PS.mul_c];rfl
theorem Qh(c:Int)(x:Rat):Zb [c] x=(c:Rat):=by show(c:Rat)+x*0=c;grind
def ld:List Int->List Int
 | []=>[]
 | _::p=>Oq p (0::ld p)
theorem Zcn(c:Int)(p:List Int)(x:Rat):Zb (ld (c::p)) x=Zb p x+x*Zb (ld p) x:=by rw [show ld (c::p)=Oq p (0::ld p)from rfl,Yh];show Zb p x+(((0:Int):Rat)+x*Zb (ld p) x)=_;push_cast;grind
theorem Zdh:∀(p:List Int) (i:Nat),cf (ld p) i=cf p (i+1)*((i:Int)+1)
 | [],i=>by rw [Dc,show ld []=[]from rfl,Dc,dD]
 | c::p,0=>by rw [show ld (c::p)=Oq p (0::ld p)from rfl,Nh];show cf p 0+0=cf p 0*_;simp
 | c::p,i+1=>by have h:=Zdh p i;rw [show ld (c::p)=Oq p (0::ld p)from rfl,Nh];show cf p (i+1)+cf (ld p) i=cf p (i+1)*_;rw [h];push_cast;grind
theorem Ma(p:List Int)(x:Rat):Zb (Zy p) x=Zb (ld p) x:=Qq x _ _ λi=>by rw [Mw,Zdh]
theorem Gg (p:List Int)(q:List Int)(h:∀x,Zb p x=Zb q x)(x:Rat):Zb (ld p) x=Zb (ld q) x:=Qq x _ _ λi=>by rw [Zdh,Zdh,Nf h]
theorem Ydi(p q:List Int)(x:Rat):Zb (ld (Oq p q)) x=Zb (ld p) x+Zb (ld q) x:=by rw [<-Yh];exact Qq x _ _ λi=>by rw [Zdh,Nh,Nh,Zdh,Zdh];grind
theorem El(c:Int)(p:List Int)(x:Rat):Zb (ld (p.map λa=>c*a)) x=(c:Rat)*Zb (ld p) x:=by rw [<-Ze];exact Qq x _ _ λi=>by rw [Zdh,Xa,Xa,Zdh];grind
theorem Gv(x:Rat):∀p q:List Int,Zb (ld (lmul p q)) x=Zb (ld p) x*Zb q x+Zb p x*Zb (ld q) x
 | [],q=>by show(0:Rat)=0*Zb q x+0*Zb (ld q) x;grind
 | c::p,q=>by have h:=Gv x p q;rw [show lmul (c::p) q=Oq (q.map λa=>c*a) (0::lmul p q)from rfl,Ydi,El,Zcn,Zcn,h,Zi,show Zb (c::p) x=(c:Rat)+x*Zb p x from rfl];grind
def Ed(g a:List Int):Prop:=∃(k:Int) (s:List Int),k≠0/\∀x:Rat,(k:Rat)*Zb a x=Zb s x*Zb g x
theorem Ed.refl(a:List Int):Ed a a:=⟨1,[1],O3,λx=>by rw [Qh]⟩
theorem Ed.nil(g:List Int):Ed g []:=⟨1,[],O3,λx=>by show(((1:Int)):Rat)*0=0*Zb g x;grind⟩
theorem Ed.trans{c:List Int} : Ed a b->Ed b c->Ed a c:=λ⟨k,s,j,h⟩ ⟨m,u,l,e⟩=>
 ⟨k*m,lmul u s,bA j l,λx=>by have n:=h x;have g:=e x;rw [Zi];push_cast;have:(k:Rat)*m*Zb c x=k*(m*Zb c x):=O4;rw [this,g];grind⟩
theorem Ed.congr{g:List Int}(h:Ed g a)(e:∀x,Zb a x=Zb b x):Ed g b:=by obtain⟨k,s,j,h⟩:=h;exact⟨k,s,j,λx=>by rw [<-e x];exact h x⟩
theorem Ed.congr_l{g j:List Int}(h:Ed g a)(e:∀x,Zb g x=Zb j x):Ed j a:=by obtain⟨k,s,l,h⟩:=h;exact⟨k,s,l,λx=>by rw [<-e x];exact h x⟩
theorem Ed.sim{g:List Int}(h:Ed g a)(e:Sim a b):Ed g b:=by
 obtain⟨k,s,o,h⟩:=h;obtain⟨m,n,B,w,e⟩:=e;refine⟨k*n,s.map λc=>m*c,bA o w,λx=>?_⟩;have j:Zb (a.map λc=>m*c) x=Zb (b.map λc=>n*c) x:=Qq x _ _ λi=>by rw [Xa,Xa,e]
 rw [Ze,Ze]at j;rw [Ze];have:=h x;push_cast;have l:(k:Rat)*n*Zb b x=k*(n*Zb b x):=O4;rw [l,<-j];grind
theorem Ed.lin{g c:List Int}(w:Ed g a)(B:Ed g b)(s:List Int)(L:Int)(o:L≠0)(h:∀x,(L:Rat)*Zb c x=Zb s x*Zb a x+Zb b x):Ed g c:=by obtain⟨k,u,D,j⟩:=w;obtain⟨m,v,F,l⟩:=B;refine⟨L*(k*m),Oq ((lmul s u).map λc=>m*c) (v.map λc=>k*c),bA o (bA D F),λx=>?_⟩;have j:=j x;have l:=l x;have h:=h x;rw [Yh,Ze,Ze,Zi];push_cast;have e:(L:Rat)*(k*m)*Zb c x=k*m*(L*Zb c x):=O4;rw [e,h];have n:(k:Rat)*m*(Zb s x*Zb a x+Zb b x)=m*Zb s x*(k*Zb a x)+k*(m*Zb b x):=O4;rw [n,j,l];grind
theorem Zqv{g:List Int}{k:Int}(M:k≠0)(I:Tr g)(H:Tr a)(G:a≠[])(h:∀x:Rat,(k:Rat)*Zb a x=Zb s x*Zb g x):g≠[]/\tzl s≠[]/\(tzl s).length+g.length<=a.length+1:=by
 have o:∀i,k*cf a i=(ps (tzl s)*ps g).c i:=λi=>by have j:=Nf (p:=a.map λc=>k*c) (q:=lmul (tzl s) g) (λx=>by rw [Ze,Zi,Oj];exact h x) i;rw [Xa,Iv]at j;rw [j,PS.mul_c];rfl
 have F:∀i,k*cf a i=0->cf a i=0:=λi hi=>(eQ.1 hi).resolve_left M;have l:=H.mem G;have j:tzl s≠[]:=λe=>l (F _ (by rw [o,e,Ns (λt=>Zv (aZ _))]));have n:g≠[]:=λe=>l (F _ (by rw [o,e,PS.mul_comm',Ns (λt=>Zv (aZ _))]));refine⟨n,j,?_⟩;have N:=aD.2 j;have P:=aD.2 n;have B:=Fv g (p:=tzl s) (a:=(tzl s).length-1) (b:=g.length-1) (λi hi=>Zv O) (λi hi=>Zv O);rw [<-o]at B;have w:=bA ((Qd s).mem j) (I.mem n);rcases bJ ((tzl s).length-1+(g.length-1)) a.length with D|D
 .omega
 .rw [Zv D,dK]at B;exact absurd B.symm w
theorem Ed.len{g:List Int}(h:Ed g a)(o:Tr g)(n:Tr a)(l:a≠[]):g≠[]/\g.length<=a.length:=by obtain⟨k,s,w,h⟩:=h;obtain⟨e,j,B⟩:=Zqv w o n l h;have:=aD.2 j;exact⟨e,O⟩
theorem Ed.same{g:List Int}(h:Ed g a)(D:Tr g)(w:Tr a)(o:a≠[])(H:g.length=a.length):Ed a g:=by
 obtain⟨k,s,F,h⟩:=h;obtain⟨G,j,n⟩:=Zqv F D w o h;have e:=aD.2 j
 match hs:tzl s,e,n with
 | [c],_,_=>
  have B:c≠0:=by have:=(Qd s).mem j;rw [hs]at this;exact this
  refine⟨c,[k],B,λx=>?_⟩;have l:=h x;rw [<-Oj s,hs,Qh]at l;rw [Qh];exact l.symm
 | c::d::r,_,h9=>simp at h9;omega
theorem Zhw:∀(n:Nat) (a b:List Int),Tr a->Tr b->b.length<=n->∃g A B:List Int,Tr g/\Ed g a/\Ed g b/\∀x,Zb g x=Zb A x*Zb a x+Zb B x*Zb b x
 | n,a,[],j,l,_=>⟨a,[1],[],j,Ed.refl a,Ed.nil a,λx=>by rw [Qh];show _=_+0*(0:Rat);push_cast;grind⟩
 | 0,a,c::r,_,_,hl=>absurd hl O7
 | n+1,a,c::b',j,l,hl=>by
  have h:(c::b')≠[]:=O7;generalize c::b'=b at *;obtain⟨k,s,hs⟩:=Dm a h;have w:=Nt (l.mem h) k;generalize cf b (b.length-1)^k=L at hs w;have I:=Qk a h;obtain⟨g,A,B,F,o,G,H⟩:=Zhw n b (Xj a b) l (Mu _ j) O;have D:∀x,(L:Rat)*Zb a x=Zb s x*Zb b x+Zb (Xj a b) x:=λx=>by have:=Ho L (-1) a s b (Xj a b) (λt=>by rw [hs t];omega) x;push_cast at this;grind
  refine⟨g,B.map λc=>L*c,Oq A ((lmul B s).map λc=>(-1)*c),F,o.lin G s L w D,o,λx=>?_⟩;rw [Ze,Yh,Ze,Zi,H x];have:=D x;have e:Zb (Xj a b) x=L*Zb a x-Zb s x*Zb b x:=O4;rw [e];push_cast;grind
def Irr(q:List Int):Prop:=Tr q/\2<=q.length/\∀d,Tr d->Ed d q->d.length<=1\/d.length=q.length
theorem Zap(h:2<=q.length):q≠[]:=λe=>by rw [e]at h;simp at h
theorem Zz2:∀(n:Nat) (q:List Int),q.length<=n->Tr q->2<=q.length->∃p,Irr p/\Ed p q
 | 0,q,B,_,j=>O
 | n+1,q,B,l,j=>by
  by_cases h:Irr q
  .exact⟨q,h,Ed.refl q⟩
  .have:∃d,Tr d/\Ed d q/\¬(d.length<=1\/d.length=q.length):=by refine bE λw=>h ⟨l,j,λd e g=>bE λo=>w ⟨d,e,g,o⟩⟩
   obtain⟨d,e,g,G⟩:=this;have D:=(g.len e l (Zap j)).2;obtain⟨p,F,k⟩:=Zz2 n d O e O;exact⟨p,F,k.trans g⟩
theorem Du (f:List Int)(h:List Int)(m:List Int)(k:Int)(R:Irr q)(Q:k≠0)(e:∀x:Rat,(k:Rat)*(Zb f x*Zb h x)=Zb m x*Zb q x):Ed q f\/Ed q h:=by
 obtain⟨j,n,F⟩:=R;obtain⟨g,A,B,l,o,H,w⟩:=Zhw _ q (tzl f) j (Qd f) (aH _);have P:=(o.len l j (Zap n)).1;rcases F g l o with D|D
 .right
  match g,P,D,l,w with
  | [c],_,_,l,w=>
   have N:c≠0:=l.mem O7;refine⟨c*k,Oq ((lmul A h).map λc=>k*c) (lmul B m),bA N Q,λx=>?_⟩;have G:=w x;have M:=e x;rw [Qh,Oj]at G;rw [Yh,Ze,Zi,Zi];push_cast;rw [G];have:(Zb A x*Zb q x+Zb B x*Zb f x)*k*Zb h x=k*Zb A x*Zb q x*Zb h x+Zb B x*(k*(Zb f x*Zb h x)):=O4;rw [this,M];grind
  | c::d::r,_,h9,_,_=>simp at h9
 .left;have I:=o.same l j (Zap n) D;exact(I.trans H).congr λx=>Oj f x
def Ku(q:List Int):Nat->List Int
 | 0=>[1]
 | n+1=>Yy q (Ku q n)
theorem Dn{q:List Int}(j:Tr q)(g:2<=q.length):∀n,Tr (Ku q n)/\n+1<=(Ku q n).length
 | 0=>⟨.inr (show cf [1] 0≠0 by decide),aH _⟩
 | n+1=>by obtain⟨k,h⟩:=Dn j g n;refine⟨Xk,?_⟩;show n+1+1<=(Yy q (Ku q n)).length;rw [Oe j k (Zap g) (λe=>by rw [e]at h;simp at h)];omega
def Ig(q:List Int)(n:Nat)(x:Rat):Zb (Ku q (n+1)) x=Zb q x*Zb (Ku q n) x:=Zx _ _ _
theorem Zkb(q:List Int):∀(n:Nat) (x:Rat),Zb (ld (Ku q (n+1))) x=((n:Rat)+1)*(Zb (Ku q n) x*Zb (ld q) x)
 | n,x=>by
  have e:Zb (ld (Ku q (n+1))) x=Zb (ld (lmul q (Ku q n))) x:=Gg _ _ (λy=>by rw [Ig,Zi]) x;rw [e,Gv]
  match n with
  | 0=>
   rw [show Zb (ld (Ku q 0)) x=0 from by rw [show Ku q 0=[1]from rfl,Zcn];show(0:Rat)+x*0=0;grind];simp;grind
  | n+1=>
   rw [Zkb q n x,Ig];push_cast;grind
theorem Zxf{g u:List Int}{c:Int}{k:Nat}(H:∀x:Rat,Zb p x=Zb s x*Zb g x)(G:∀d,Tr d->Ed d p->Ed d (ld p)->Ed d g)(hq:Irr q)(Z:Ed q s)(h2:Ed q (ld s))(hk:Ed (Ku q k) g):Ed (Ku q (k+1)) g:=by
 obtain⟨n,w,I⟩:=hq;obtain⟨l,h,k1,N⟩:=Z;obtain⟨B,s2,k2,W⟩:=h2;have V:∀x:Rat,(l:Rat)*Zb (ld s) x=Zb (ld h) x*Zb q x+Zb h x*Zb (ld q) x:=λx=>by have:=Gg (s.map λa=>l*a) (lmul h q) (λy=>by rw [Ze,Zi];exact N y) x;rwa [El,Gv]at this
 have h3:Ed q h:=by
  rcases Du h (ld q) (Oq (s2.map λa=>l*a) ((ld h).map λa=>(-B)*a)) _ ⟨n,w,I⟩ k2 (λx=>by have M:=V x;have Q:=W x;rw [Yh,Ze,Ze];push_cast;have:(B:Rat)*(Zb h x*Zb (ld q) x)=l*(B*Zb (ld s) x)-B*(Zb (ld h) x*Zb q x):=O4;rw [this,Q];grind)with h9|h9
  .exact h9
  .exfalso;have h8:Ed q (Zy q):=h9.congr λx=>(Ma q x).symm;have P:=Ph q;have:=(h8.len n (Pm n) (λe=>by rw [e]at P;simp at P;omega)).2;omega
 obtain⟨o,j,k3,Y⟩:=h3;obtain⟨c,u,kc,eu⟩:=hk;have F:∀x:Rat,((l*o*c:Int):Rat)*Zb p x=Zb (lmul j u) x*Zb (Ku q (k+1+1)) x:=λx=>by rw [H x,Zi,Ig,Ig];push_cast;have M:=N x;have R:=Y x;have S:=eu x;have:(l:Rat)*o*c*(Zb s x*Zb g x)=o*(l*Zb s x)*(c*Zb g x):=O4;rw [this,M,S];have:(o:Rat)*(Zb h x*Zb q x)*(Zb u x*Zb (Ku q k) x)=(o*Zb h x)*Zb q x*(Zb u x*Zb (Ku q k) x):=O4;rw [this,R];grind
 have D:l*o*c≠0:=bA (bA k1 k3) kc;generalize l*o*c=C at F D;have hD:∀x:Rat,(C:Rat)*Zb (ld p) x=Zb (ld (lmul j u)) x*Zb (Ku q (k+1+1)) x+Zb (lmul j u) x*((((k+1:Nat):Rat)+1)*(Zb (Ku q (k+1)) x*Zb (ld q) x)):=λx=>by have:=Gg (p.map λa=>C*a) (lmul (lmul j u) (Ku q (k+1+1))) (λy=>by rw [Ze,Zi];exact F y) x;rwa [El,Gv,Zkb]at this
 refine G _ (Dn n w _).1 ⟨C,lmul (lmul j u) q,D,λx=>?_⟩ ⟨C,Oq (lmul (ld (lmul j u)) q) ((lmul (lmul j u) (ld q)).map λa=>((k+2:Nat):Int)*a),D,λx=>?_⟩
 .rw [F x,Zi _ (lmul j u),Ig q (k+1)];grind
 .rw [hD x,Yh,Ze,Zi _ (ld (lmul j u)),Zi _ (lmul j u),Ig q (k+1)];push_cast;grind
theorem Zxh{g:List Int}(l:∀x:Rat,Zb p x=Zb s x*Zb g x)(G:Tr g)(B:g≠[])(j:∀d,Tr d->Ed d p->Ed d (ld p)->Ed d g)(H:Tr q)(D:Ed q s)(F:Ed q (ld s)):q.length<=1:=by
 refine bE λh=>?_;obtain⟨r,n,e⟩:=Zz2 _ q (aH _) H O;have o:∀k,Ed (Ku r k) g:=λk=>by
  induction k with
  | zero=>exact⟨1,g,O3,λx=>by rw [show Ku r 0=[1]from rfl,Qh];push_cast;grind⟩
  | succ k I=>exact Zxf (u:=[]) (c:=0) l j n (e.trans D) (e.trans F) I
 obtain⟨w,M⟩:=Dn n.1 n.2.1 g.length;have:=((o g.length).len w G B).2;omega
theorem Yen{d:List Int}(o:Tr b)(g:b≠[])(h:Ed d a)(j:Ed d b):Ed d (Xj a b):=by
  obtain⟨k,s,hs⟩:=Dm a g;have n:=Nt (o.mem g) k;generalize cf b (b.length-1)^k=L at hs n;have w:∀x,(L:Rat)*Zb a x=Zb s x*Zb b x+Zb (Xj a b) x:=λx=>by have:=Ho L (-1) a s b (Xj a b) (λt=>by rw [hs t];omega) x;push_cast at this;grind
  have l:Ed d (a.map λc=>L*c):=by obtain⟨k,u,B,e⟩:=h;exact⟨k,u.map λc=>L*c,B,λx=>by rw [Ze,Ze];have:=e x;grind⟩
  exact j.lin l (s.map λc=>(-1)*c) 1 O3 λx=>by rw [Ze,Ze];push_cast;have:=w x;grind
theorem Zoh{d:List Int} : ∀(f:Nat) {a b:List Int},Tr a->Tr b->Ed d a->Ed d b->Ed d (eu f a b)
  | 0,a,b,_,_,e,_=>e
  | f+1,a,b,k,j,e,h=>by
    by_cases g:b=[]
    . rw [g,Zeb];exact e
    . rw [show eu (f + 1) a b = eu f b (Zs (Xj a b)) by
          conv=>lhs;unfold eu
          rw [aE g]]
      have t1:=Mu b k;exact Zoh f j (Yi t1) h ((Yen j g e h).sim (Xt t1).symm)
theorem Zgp{F:Nat}{d:List Int}(e:Tr p)(g:Tr q)(h:Ed d p)(j:Ed d q):Ed d (Od F p q):=by
  have k:=h.sim (Xt e).symm;have l:=j.sim (Xt g).symm;unfold Od;refine Ed.sim ?_ (Mx _).symm;refine Zoh F (Zf2 e g) (Zf1 e g) ?_ ?_
  . unfold gA;split<;>assumption
  . unfold gB;split<;>assumption
theorem Zce{F:Nat}(j:Tr xs)(k:xs≠[])(e:eok F (gA (Yk xs) (Zy (Yk xs))) (gB (Yk xs) (Zy (Yk xs))))(o:Tr q)(l:Ed q (sqf F xs))(n:Ed q (Zy (sqf F xs))):q.length<=1:=by
  obtain⟨f1,f2,f3,f4,f5,f6⟩:=Pn F j k e;have hs:Tr (Yk xs):=Ob (Yi j);have h:Tr (Zy (Yk xs)):=Pm hs;refine Zxh (p:=Yk xs) (s:=sqf F xs) (g:=Od F (Yk xs) (Zy (Yk xs))) (λx=>?_) (Zb9 _ hs h) f5 (λd _ a b=>?_) o l (n.congr λx=>Ma _ x)
  . have:Zb (Yk xs) x=Zb (Yy (sqf F xs) (Od F (Yk xs) (Zy (Yk xs)))) x:=by rw [<-f4]
    rw [this,Zx]
  . exact Zgp hs h a (b.congr λx=>(Ma _ x).symm)
theorem Dy:∀(l:List Int) (n z:Int),(l.foldl Oh (n,z)).1=n+(l.foldl Oh (0,z)).1
 | [],n,z=>O7
 | x::l,n,z=>by
  simp only [fQ];by_cases h:x=0
  .have e:∀n,Oh (n,z) x=(n,z):=λn=>by unfold Oh;rw [aG h]
   rw [e,e];exact Dy l n z
  .by_cases g:x=-z
   .have e:∀n,Oh (n,z) x=(n+1,x):=λn=>by unfold Oh;rw [aE h,aG (by dsimp only;exact g)]
    rw [e,e,Dy l (n+1) x,Dy l (0+1) x];omega
   .have e:∀n,Oh (n,z) x=(n,x):=λn=>by unfold Oh;rw [aE h,aE (by dsimp only;exact g)]
    rw [e,e];exact Dy l n x
theorem Yff{x y:Int}{l:List Int}(k:y≠0):chg (x::y::l)=chg (y::l)+(if x=-y then 1 else 0):=by
 unfold chg;simp only [fQ];have g:Oh (0,0) y=(0,y):=by unfold Oh;rw [aE k,aE O8]
 rw [g];by_cases j:x=0
 .have e:Oh (0,0) x=(0,0):=by unfold Oh;rw [aG j]
  rw [e,g,aE O];omega
 .have e:Oh (0,0) x=(0,x):=by unfold Oh;rw [aE j,aE O8]
  rw [e];have n:Oh (0,x) y=(if x=-y then 1 else 0,y):=by
   unfold Oh;rw [aE k];by_cases h:x=-y
   .rw [aG O8,aG h];rfl
   .rw [aE O8,aE h]
  rw [n,Dy];omega
def crs(f:Rat->Rat)(u v:Rat):Int:=if f u≠0/\f u*f v<=0 then 1 else 0
theorem Zfl(s t:Rat):∀p:List Int,∃M:Rat,0<M/\∀x y,s<=x->x<=y->y<=t->
  -(M*(y-x)*(y-x))<=Zb p y-Zb p x-(y-x)*Zb (ld p) x/\Zb p y-Zb p x-(y-x)*Zb (ld p) x<=M*(y-x)*(y-x)
 | []=>⟨1,O3,λx y S V W=>by have:=aC (a:=y-x) (b:=y-x) O4 O4;show -(1*(y-x)*(y-x))<=(0:Rat)-0-(y-x)*0/\(0:Rat)-0-(y-x)*0<=1*(y-x)*(y-x);constructor<;>grind⟩
 | c::p=>by obtain⟨M,G,H⟩:=Zfl s t p;obtain⟨L,Y,F⟩:=Gu s t p;obtain⟨K,B,D⟩:=Yel s t;refine⟨L+K*M,by have:=aV B G;grind,λx y hs h k=>?_⟩;obtain⟨l,n⟩:=H x y hs h k;obtain⟨I,N⟩:=F x y hs h k;obtain⟨o,w⟩:=D x hs O4;have j:0<=y-x:=O4;obtain⟨f1,f2⟩:=Bi (q:=x) (Q:=K) (g:=Zb p y-Zb p x-(y-x)*Zb (ld p) x) (e:=M*(y-x)*(y-x)) o w l n O4;have P:=aC (a:=y-x) (b:=L*(y-x)-(Zb p y-Zb p x)) j O4;have R:=aC (a:=y-x) (b:=L*(y-x)+(Zb p y-Zb p x)) j O4;rw [Zcn,show Zb (c::p) y=(c:Rat)+y*Zb p y from rfl,show Zb (c::p) x=(c:Rat)+x*Zb p x from rfl];constructor<;>grind
theorem Zt4(D:Tr a)(hb:Tr b)(Z:a≠[])(hc:∀q,Tr q->Ed q a->Ed q b->q.length<=1)(s t:Rat):∃ε:Rat,0<ε/\∀x,s<=x->x<=t->Big ε x (Zb a)\/Big ε x (Zb b):=by
 obtain⟨g,A,B,e,n,Y,j⟩:=Zhw _ a b D hb (aH _);have hl:=hc g e n Y;have hg:=(n.len e D Z).1
 match g,hg,hl,e,j with
 | [c],_,_,e,j=>
  have l:c≠0:=e.mem O7;obtain⟨P,p1,p2⟩:=Zm6 s t A;obtain⟨Q,q1,q2⟩:=Zm6 s t B;obtain⟨ε,W,e2,e3⟩:=Lq (show(0:Rat)<1 by decide) (show 0<(P+Q)+(P+Q) by grind) (show(0:Rat)<1 by decide);refine⟨ε,W,λx hs F=>?_⟩;by_cases o:Big ε x (Zb a)
  .exact .inl o
  .by_cases w:Big ε x (Zb b)
   .exact .inr w
   .exfalso;obtain⟨G,H⟩:=Zao o;obtain⟨I,M⟩:=Zao w;obtain⟨N,R⟩:=p2 x hs F;obtain⟨S,V⟩:=q2 x hs F;obtain⟨u1,u2⟩:=Bi N R G H O4;obtain⟨v1,v2⟩:=Bi S V I M O4;have h4:=j x;rw [Qh]at h4;have k:(c:Rat)<=-1\/1<=(c:Rat):=by
     rcases mN l with h|h
     .left;have:((c:Int):Rat)<=((-1:Int):Rat):=by exact_mod_cast (show c<=-1 by omega)
      rwa [show(((-1:Int)):Rat)=-1 from rfl]at this
     .right;have:1<=c:=O;exact_mod_cast this
    rcases k with k|k<;>grind
 | c::d::r,_,h9,_,_=>simp at h9
theorem Big.near{ε x y:Rat}{f:Rat->Rat}(h:Big ε x f)(e:f x-f y<=ε/2)(g:f y-f x<=ε/2):Big (ε/2) y f:=by unfold Big at *;grind
theorem Zeu(x:Rat):Ix x=-1↔x<0:=by
 unfold Ix;by_cases h:x<0
 .rw [aG h];simp [h]
 .rw [aE h];by_cases e:x=0
  .rw [aG e];simp [h]
  .rw [aE e];simp [h]
theorem Zxz(x:Rat):Ix (-x)=- Ix x:=by
 unfold Ix;by_cases h:x<0
 .rw [aG h,aE O4,aE O4];rfl
 .rw [aE h];by_cases e:x=0
  .rw [aG e,aE O4,aG O4];rfl
  .rw [aE e,aG O4]
theorem Zif{f g:Rat->Rat}{r:List (Rat->Rat)}{x:Rat}(h:Ix (g x)≠0):Bn (f::g::r) x=Bn (g::r) x+(if Ix (f x)=- Ix (g x)then 1 else 0):=by unfold Bn;simp only [cH];exact Yff h
def Tay(s t M:Rat)(p:List Int):Prop:=∀x y,s<=x->x<=y->y<=t->-(M*(y-x)*(y-x))<=Zb p y-Zb p x-(y-x)*Zb (ld p) x/\Zb p y-Zb p x-(y-x)*Zb (ld p) x<=M*(y-x)*(y-x)
theorem Zep {s:Rat}   (ha:Tr a) (hb:Tr b) (Z:cok f a b) {κ:Rat} (hκ:0<κ) (V:∀x,Zb (ld a) x=κ*Zb b x)
  {ε L L' M h:Rat} (e1:0<ε) (e2:∀x,s<=x->x<=t->Big ε x (Zb a)\/Big ε x (Zb b)) (l1:0<=L) (l2:Lip s t L (Zb a)) (a7:0<=L') (H:Lip s t L' (Zb b)) (m1:0<=M) (m2:Tay s t M a)
  (h5:0<h) (h3:h*(L+L')<=ε/2) (h7:h*M<=κ*ε/2) {u v:Rat} (hs:s<=u) (j:u<=v) (ht:v<=t) (hh:v-u<=h) :
  Bn ((On f a b).map Zb) u-Bn ((On f a b).map Zb) v=crs (Zb a) u v:=by
 have P:∀w,u<=w->w<=v->L*(w-u)<=ε/2/\L'*(w-u)<=ε/2:=λw k n=>by have p1:=aC (a:=L) (b:=h-(w-u)) O4 O4;have p2:=aC (a:=L') (b:=h-(w-u)) O4 O4;have p3:=aC (a:=L) (b:=h) O4 O4;have p4:=aC (a:=L') (b:=h) O4 O4;constructor<;>grind
 by_cases B:Big ε u (Zb a)
 .have hB:∀w,u<=w->w<=v->Big (ε/2) w (Zb a):=λw k n=>by obtain⟨x1,x2⟩:=l2 u w hs k O4;have:=P w k n;exact B.near O4 O4
  rw [Zcj ha hb Z j (show 0<ε/2 by grind) hB];have hv:=hB v j O4;have:crs (Zb a) u v=0:=by
   unfold crs;refine aE λ⟨_,N⟩=>?_;obtain⟨x1,x2⟩:=l2 u v hs j ht;have a4:=P v j O4;unfold Big at B hv;rcases B with hp|hp
   .have:0<Zb a v:=O4;have:=aV (show 0<Zb a u by grind) this;grind
   .have:0 < - Zb a v:=O4;have:=aV (show 0 < - Zb a u by grind) this;grind
  omega
 .have l:Big ε u (Zb b):=(e2 u hs O4).resolve_left B;have hB:∀w,u<=w->w<=v->Big (ε/2) w (Zb b):=λw k n=>by obtain⟨x1,x2⟩:=H u w hs k O4;have:=P w k n;exact l.near O4 O4
  have a0:b≠[]:=λe=>by rw [e]at l;unfold Big at l;have:Zb [] u=0:=rfl;rw [this]at l;grind
  obtain⟨g,hg,hd,a6,R,a2⟩:=Zhs Z a0;have hT:=Zcj hb (Bv ha) R j (show 0<ε/2 by grind) hB;obtain⟨r,hr,_,_,_⟩:=Zi1 u v g b (Pq a b) hb (Bv ha) R;rw [a2,hr];rw [hr]at hT;simp only [cH]at hT ⊢;have a3:∃σ:Rat,(σ=1\/σ=-1)/\ε<σ*Zb b u/\∀w,u<=w->w<=v->0<σ*Zb b w:=by
   unfold Big at l;rcases l with hp|hp
   .refine⟨1,.inl rfl,O4,λw k n=>?_⟩;obtain⟨x1,x2⟩:=H u w hs k O4;have:=P w k n;grind
   .refine⟨-1,.inr rfl,O4,λw k n=>?_⟩;obtain⟨x1,x2⟩:=H u w hs k O4;have:=P w k n;grind
  obtain⟨σ,hσ,a5,Q⟩:=a3;have o:u<v->σ*Zb a u<σ*Zb a v:=λD=>by
   obtain⟨y1,y2⟩:=m2 u v hs j ht;rw [V u]at y1 y2;have hd:0<v-u:=O4;have z1:M*(v-u)<=κ*ε/2:=by have:=aC (a:=M) (b:=h-(v-u)) O4 O4;grind
   have z2:0<κ*(σ*Zb b u)-M*(v-u):=by have:=aV hκ (show 0<σ*Zb b u-ε by grind);have:=aV hκ e1;grind
   have z3:=aV hd z2;rcases hσ with rfl|rfl<;>grind
  have Y:∀w,u<=w->w<=v->Ix (Zb b w)≠0:=λw k n=>by
   have:=Q w k n;rcases hσ with rfl|rfl
   .rw [Ei O4];decide
   .rw [Ej O4];decide
  rw [Zif (Y u O4 j),Zif (Y v j O4),hT];have F:∀w,u<=w->w<=v->(Ix (Zb a w)=- Ix (Zb b w)↔σ*Zb a w<0):=λw k n=>by
   have:=Q w k n;rcases hσ with rfl|rfl
   .rw [Ei (x:=Zb b w) O4,Zeu];constructor<;>intro<;>grind
   .rw [Ej (x:=Zb b w) O4,show(-(-1:Int))=- -1 from rfl];have N:=Zeu (-(Zb a w));rw [Zxz]at N;constructor
    .intro h8;have:=N.1 O;grind
    .intro h8;have:=N.2 O4;omega
  rw [show(if Ix (Zb a u)=- Ix (Zb b u)then(1:Int)else 0)=if σ*Zb a u<0 then 1 else 0 from by simp only [F u O4 j]];rw [show(if Ix (Zb a v)=- Ix (Zb b v)then(1:Int)else 0)=if σ*Zb a v<0 then 1 else 0 from by simp only [F v j O4]];have S:crs (Zb a) u v=if σ*Zb a u<0/\¬σ*Zb a v<0 then 1 else 0:=by
   unfold crs;have a1:Zb a u*Zb a v=(σ*Zb a u)*(σ*Zb a v):=by rcases hσ with rfl|rfl<;>grind
   have hz:Zb a u≠0↔σ*Zb a u≠0:=by rcases hσ with rfl|rfl<;>constructor<;>intro N h8<;>exact N O4
   have W:(Zb a u≠0/\Zb a u*Zb a v<=0)↔(σ*Zb a u<0/\¬σ*Zb a v<0):=by
    rw [a1,hz];generalize hp:σ*Zb a u=p at *;generalize hq:σ*Zb a v=q at *;constructor
    .intro ⟨n1,n2⟩;rcases(show u<v\/u=v by grind)with D|G
     .have:=o D;rcases(show p<0\/0<p by grind)with I|I
      .refine⟨I,λn4=>?_⟩;have:=aV (show 0 < -p by grind) (show 0 < -q by grind);grind
      .have:=aV I (show 0<q by grind);grind
     .exfalso;have:q=p:=by rw [<-hp,<-hq,G]
      rw [this]at n2;rcases(show p<0\/0<p by grind)with I|I
      .have:=aV (show 0 < -p by grind) (show 0 < -p by grind);grind
      .have:=aV I I;grind
    .intro ⟨n1,n2⟩;refine⟨O4,?_⟩;have:=aC (show 0<=-p by grind) (show 0<=q by grind);grind
   simp only [W]
  rw [S];by_cases k1:σ*Zb a u<0<;>by_cases k2:σ*Zb a v<0
  .simp [k1,k2]
  .simp [k1,k2];omega
  .exfalso;rcases(show u<v\/u=v by grind)with D|G
   .have:=o D;grind
   .rw [G]at k1;exact k1 k2
  .simp [k1,k2]
theorem Zf7 (κ:Rat){s:Rat}(w:Tr a)(B:Tr b)(G:a≠[])(g:cok f a b)(D:0<κ)(e:∀x,Zb (ld a) x=κ*Zb b x)(P:∀q,Tr q->Ed q a->Ed q b->q.length<=1) :
  ∃h:Rat,0<h/\∀u v,s<=u->u<=v->v<=t->v-u<=h->Bn ((On f a b).map Zb) u-Bn ((On f a b).map Zb) v=crs (Zb a) u v:=by
 obtain⟨ε,n,F⟩:=Zt4 w B G P s t;obtain⟨L,l1,V⟩:=Gu s t a;obtain⟨l,S,k⟩:=Gu s t b;obtain⟨M,W,Y⟩:=Zfl s t a;obtain⟨H,I,Z,h4⟩:=Lq (show(0:Rat)<1 by decide) (show 0<L+l by grind) (show 0<ε/2 by grind);obtain⟨h,o,h6,N⟩:=Lq I W (show 0<κ*ε/2 by have:=aV D n;grind);refine⟨h,o,λu v hs j R Q=>Zep w B g D e n F O4 V O4 k O4 Y o ?_ N hs j R Q⟩;have:=aC (a:=L+l) (b:=H-h) O4 O4;grind
theorem Zz4:∀(n m:Nat) (f:Nat->Nat),(∀k,k<n->f k<m)->(∀a b,a<n->b<n->f a=f b->a=b)->n<=m
 | 0,_,_,_,_=>aZ _
 | n+1,m,f,g,hi=>by
  have j:=g n O;have:=Zz4 n (m-1) (λk=>if f n<f k then f k-1 else f k) (λk D=>by
   have l:=g k O;have h:f k≠f n:=λe=>by have:=hi k n O O e;omega
   split<;>omega) (λa b w B e=>by
   have h:f a≠f n:=λe=>by have:=hi a n O O e;omega
   have o:f b≠f n:=λe=>by have:=hi b n O O e;omega
   refine hi a b O O ?_;split at e<;>split at e<;>omega)
  omega
theorem php{n:Nat}{f:Nat->Nat}(h:m<n)(w:∀k,k<n->f k<m):∃a b,a<n/\b<n/\a≠b/\f a=f b:=by refine bE λj=>?_;have:=Zz4 n m f w λa b l o e=>bE λg=>j ⟨a,b,l,o,g,e⟩;omega
def enc(B:Nat)(d:Nat->Nat):Nat->Nat
 | 0=>0
 | n+1=>enc B d n+d n*B^n
theorem Zlf{B:Nat}{d:Nat->Nat} : ∀n,(∀i,i<n->d i<B)->enc B d n<B^n
 | 0,_=>by simp [enc]
 | n+1,h=>by have j:=Zlf n λi hi=>h i O;have e:=h n O;have g:(d n+1)*B^n<=B*B^n:=aI _ e;rw [bD,kI]at g;rw [bL,aJ (B^n) B];show enc B d n+d n*B^n<_;omega
theorem Ztl{B:Nat}{d e:Nat->Nat} : ∀n,(∀i,i<n->d i<B)->(∀i,i<n->e i<B)->enc B d n=enc B e n->∀i,i<n->d i=e i
 | 0,_,_,_,i,hi=>absurd hi (dC i)
 | n+1,g,j,h,i,hi=>by
  have w:=Zlf n λi hi=>g i O;have D:=Zlf n λi hi=>j i O;have h:enc B d n+d n*B^n=enc B e n+e n*B^n:=h;have o:0<B^n:=O;have l:d n=e n:=by
   have F:(enc B d n+d n*B^n)/B^n=d n:=by rw [lM _ _ o,cS w,cP]
   have G:(enc B e n+e n*B^n)/B^n=e n:=by rw [lM _ _ o,cS D,cP]
   rw [<-F,<-G,h]
  rcases bJ i n with k|k
  .exact Ztl n (λi hi=>g i O) (λi hi=>j i O) (by rw [l]at h;omega) i k
  .rw [show i=n by omega];exact l
def dig(B k j:Nat):Nat:=k/B^j%B
theorem Zlg(B k:Nat):∀n,enc B (dig B k) n=k%B^n
 | 0=>by simp [enc,nD]
 | n+1=>by show enc B (dig B k) n+dig B k n*B^n=_;rw [Zlg B k n,bL,lO];unfold dig;rw [aJ]
theorem Zf6 (C:Int){f:Nat->Int} : ∀n,(∀i,i<n->-C<=f i/\f i<=C)->-((n:Int)*C)<=Zp f n/\Zp f n<=(n:Int)*C
 | 0,_=>by simp [Hb]
 | n+1,h=>by
  have g:=Zf6 _ n λi hi=>h i O;have j:=h n O;have e:((n+1:Nat):Int)*C=(n:Int)*C+C:=by push_cast;grind
  rw [Ya,e];omega
theorem Ziq(f g:Nat->Int):∀n,Zp (λi=>f i-g i) n=Zp f n-Zp g n
 | 0=>by simp [Hb]
 | n+1=>by rw [Ya,Ya,Ya,Ziq f g n];omega
theorem siegel{N M A:Nat}(a0:M<N)(hA:0<A)(c:Nat->Nat->Int)(hc:∀i j,i<M->j<N->(c i j).natAbs<=A) :
  ∃x:Nat->Int,(∃j,j<N/\x j≠0)/\(∀j,j<N->(x j).natAbs<=(2*N*A)^M)/\∀i,i<M->Zp (λj=>c i j*x j) N=0:=by
 generalize hX:(2*N*A)^M=X;generalize V:N*(A*X)=W;let d:=λk j=>dig (X+1) k j;have F:∀k j,d k j<=X:=λk j=>mU (bG _ (nA X));let y:=λk i=>Zp (λj=>c i j*(d k j:Int)) N;have P:∀k i,i<M->-(W:Int)<=y k i/\y k i<=(W:Int):=λk i hi=>by
  have g:=Zf6 ((A*X:Nat):Int) (f:=λj=>c i j*(d k j:Int)) N λj H=>by
   have h:=hc i j hi H;have w:(c i j*(d k j:Int)).natAbs<=A*X:=by rw [cC,cM];exact aY h (F k j)
   omega
  have l:((N:Int)*((A*X:Nat):Int))=(W:Int):=by rw [<-V];push_cast;rfl
  rw [l]at g;exact g
 let e:=λk=>enc (2*W+1) (λi=>(y k i+(W:Int)).toNat) M;have G:∀k i,i<M->(y k i+(W:Int)).toNat<2*W+1:=λk i hi=>by have:=P k i hi;omega
 have I:(2*W+1)^M<(X+1)^N:=by
  have g:2*W+1<=(2*N*A)*(X+1):=by
   have:0<N*A:=fF O hA;have o:2*N*A*(X+1)=2*W+2*(N*A):=by rw [<-V];grind
   omega
  have h:=eH g M;rw [Nat.mul_pow,hX]at h;have w:(X+1)^(M+1)<=(X+1)^N:=cN O O;rw [bL]at w;have l:0<(X+1)^M:=bK O;have h5:X*(X+1)^M<(X+1)^M*(X+1):=by rw [aJ];exact iB O l
  omega
 obtain⟨a,b,ha,hb,D,hf⟩:=php (f:=e) I (λk _=>Zlf M (G k));have Q:=Ztl M (G a) (G b) hf;refine⟨λj=>(d a j:Int)-(d b j:Int),?_,λj _=>?_,λi hi=>?_⟩
 .refine bE λh9=>D ?_;have Z:∀j,j<N->d a j=d b j:=λj H=>bE λB=>h9 ⟨j,H,λS=>B (by have S:(d a j:Int)-(d b j:Int)=0:=S;omega)⟩;have o:=Zlg (X+1) a N;have R:=Zlg (X+1) b N;rw [aQ ha]at o;rw [aQ hb]at R;have Y:∀n,n<=N->enc (X+1) (dig (X+1) a) n=enc (X+1) (dig (X+1) b) n:=λn=>by
   induction n with
   | zero=>intro _;rfl
   | succ n ih=>
    intro hn;have B:dig (X+1) a n=dig (X+1) b n:=Z n O;show enc _ _ n+dig (X+1) a n*_=enc _ _ n+dig (X+1) b n*_;rw [ih O,B]
  rw [<-o,<-R];exact Y N (aH _)
 .have g:=F a j;have h:=F b j;dsimp only;omega
 .have g:Zp (λj=>c i j*((d a j:Int)-(d b j:Int))) N=y a i-y b i:=by rw [<-Ziq];exact Yf λj _=>O4
  rw [g];have h:=Q i hi;have w:=P a i hi;have l:=P b i hi;omega
theorem Zeo(f:Nat->Int)(p:Nat):∀q,Zp f (p+q)=Zp f p+Zp (λk=>f (p+k)) q
 | 0=>by simp [Hb]
 | q+1=>by rw [<-gM,Ya,Ya,Zeo f p q];omega
def sft(a:List Int)(t k:Nat):Int:=if k<=t then cf a (t-k)else 0
theorem Zhr{U:List Int}{p:Nat}(h:U.length=p)(t:Nat):(ps U*ps a).c t=Zp (λk=>sft a t k*cf U k) p:=by rw [<-Zpf,<-h];refine Yf λk _=>?_;unfold sft;split<;>grind
theorem Zay{U:List Int}{p t:Nat}(h:U.length<=p)(j:p+a.length<=t+1):(ps U*ps a).c t=0:=by
 rw [PS.mul_c];refine Kk λk g=>?_;rw [Pj,Pj];rcases bJ k U.length with e|e
 .rw [Zv (p:=a) O,dK]
 .rw [Zv e,dD]
theorem Zes (a:List Int)(b:List Int)(lo:Nat){p q A:Nat}(B:0<A)(D:∀i,(cf a i).natAbs<=A)(F:∀i,(cf b i).natAbs<=A)(H:0<p+q)(I:p+a.length<=p+q+lo)(P:q+b.length<=p+q+lo) :
  ∃U V:List Int,U.length=p/\V.length=q/\((∃i,cf U i≠0)\/∃i,cf V i≠0)/\(∀i,(cf U i).natAbs<=(2*(p+q)*A)^(p+q-1))/\(∀i,(cf V i).natAbs<=(2*(p+q)*A)^(p+q-1))/\
   ∀t,lo<=t->(ps U*ps a).c t+(ps V*ps b).c t=0:=by
 obtain⟨x,⟨j,Q,e⟩,w,G⟩:=siegel (N:=p+q) (M:=p+q-1) (A:=A) O B (λi j=>if j<p then sft a (lo+i) j else sft b (lo+i) (j-p)) (λi j _ _=>by
  split<;>unfold sft<;>split
  .exact D _
  .simp
  .exact F _
  .simp)
 have l:∀i,cf (mk p x) i=if i<p then x i else 0:=λi=>Lt _ _ _
 have n:∀i,cf (mk q λk=>x (p+k)) i=if i<q then x (p+i)else 0:=λi=>Lt _ _ _
 refine⟨mk p x,mk q λk=>x (p+k),Ye _ _,Ye _ _,?_,λi=>?_,λi=>?_,λt R=>?_⟩
 .rcases bJ j p with h|h
  .exact .inl ⟨j,by rw [l,aG h];exact e⟩
  .exact .inr ⟨j-p,by rw [n,aG O,show p+(j-p)=j by omega];exact e⟩
 .rw [l];split
  .exact w i O
  .exact aZ _
 .rw [n];split
  .exact w _ O
  .exact aZ _
 .rcases bJ (t-lo) (p+q-1)with h|h
  .have o:=G (t-lo) h;rw [show lo+(t-lo)=t by omega,Zeo]at o;rw [Zhr (Ye _ _),Zhr (Ye _ _),<-o];congr 1
   .exact Yf λk g=>by rw [aG g,l,aG g]
   .exact Yf λk g=>by rw [aE O,n,aG g,show p+k-p=k by omega]
  .rw [Zay (nB (Ye _ _)) O,Zay (nB (Ye _ _)) O];rfl
theorem Zt5 (t:Nat){U:List Int}{p X A:Nat}(h:U.length=p)(j:∀i,(cf U i).natAbs<=X)(l:∀i,(cf a i).natAbs<=A):((ps U*ps a).c t).natAbs<=p*(X*A):=by
 rw [Zhr h];have e:=Zf6 ((X*A:Nat):Int) (f:=λk=>sft a t k*cf U k) p λk _=>by
  have:(sft a t k*cf U k).natAbs<=X*A:=by
   rw [cC,aJ];refine aY (j k) ?_;unfold sft;split
   .exact l _
   .simp
  omega
 have g:((p:Int)*((X*A:Nat):Int))=((p*(X*A):Nat):Int):=by push_cast;rfl
 rw [g]at e;omega
theorem Zcp (w:List Int)(q:List Int)(y:List Int)(n:Nat)(h:∀x,Zb w x=Zb q x*Zb y x)(D:Tr y)(k:y≠[])(B:∀i,n<=i->cf w i=0):tzl q=[]\/(tzl q).length+y.length<=n+1:=by
 by_cases g:tzl q=[]
 .exact .inl g
 .right;have o:∀i,cf w i=(ps (tzl q)*ps y).c i:=λi=>by rw [Nf (p:=w) (q:=lmul (tzl q) y) (λx=>by rw [Zi,Oj];exact h x) i,Iv,PS.mul_c];rfl
  have F:=aD.2 g;have G:=aD.2 k;have j:=Fv y (p:=tzl q) (a:=(tzl q).length-1) (b:=y.length-1) (λi hi=>Zv O) (λi hi=>Zv O);rw [<-o]at j;have e:=bA ((Qd q).mem g) (D.mem k);rcases bJ ((tzl q).length-1+(y.length-1)) n with l|l
  .omega
  .rw [B _ l]at j;exact absurd j.symm e
theorem Ii (v:List Int){f:List Int}(j:tzl v≠[])(h:∀x,Zb v x*Zb f x=0)(x:Rat):Zb f x=0:=by
 by_cases e:tzl f=[]
 .rw [<-Oj,e];rfl
 .exfalso;rcases Zcp [] v (tzl f) 0 (λx=>by rw [Oj,h x];rfl) (Qd f) e (λi _=>Dc i)with g|g
  .exact j g
  .have:=aD.2 e;have:=aD.2 j;omega
structure Inv (a b x y:List Int):Prop where
 ex:∃(α β γ:Int) (u' v' u v:List Int),α≠0/\β≠0/\γ≠0/\
  (∀t:Rat,(α:Rat)*Zb x t=Zb u' t*Zb a t+Zb v' t*Zb b t)/\(∀t:Rat,(β:Rat)*Zb y t=Zb u t*Zb a t+Zb v t*Zb b t)/\
  (∀t:Rat,Zb u' t*Zb v t-Zb u t*Zb v' t=(γ:Rat))/\(tzl v).length<=a.length-x.length+1/\(tzl v').length<=a.length-x.length+1
 xl:x.length<=b.length
 yl:y.length<x.length
theorem Zsd{L:Int}(g:Tr y)(e:y≠[])(j:z.length<=x.length)(h:∀t:Rat,(L:Rat)*Zb x t=Zb q t*Zb y t+(c:Rat)*Zb z t):tzl q=[]\/(tzl q).length+y.length<=x.length+1:=
 Zcp (Oq (x.map λa=>L*a) (z.map λa=>(-c)*a)) _ _ x.length (λt=>by rw [Yh,Ze,Ze];have:=h t;push_cast;grind) g e λi hi=>by rw [Nh,Xa,Xa,Zv hi,Zv (p:=z) O];omega
theorem Eo{n:Nat}(h:(tzl p).length<=m)(j:(tzl q).length<=n)(i:Nat)(hi:m+n<=i+1):cf (lmul p q) i=0:=by have g:cf (lmul p q) i=cf (lmul (tzl p) (tzl q)) i:=Nf (λx=>by rw [Zi,Zi,Oj,Oj]) i;rw [g,Iv];have e:=Zay (U:=tzl p) (a:=tzl q) (p:=m) (t:=i) h O;rw [PS.mul_c]at e;exact e
def Zjw{n:Nat}(h:∀i,n<=i->cf p i=0):(tzl p).length<=n:=Cg h
theorem Zuf{n:Nat}(h:(tzl p).length<=n)(hi:n<=i):cf p i=0:=by rw [<-Nj];exact Zv O
theorem Inv.next{z':List Int}{L:Int}(R:Inv a b x y)(V:b.length<=a.length)(hx:Tr x)(Z:Tr y)(P:y≠[])(S:L≠0)(h:∀t:Rat,(L:Rat)*Zb x t=Zb q t*Zb y t+Zb z' t)(hz:Sim z' z)(k:z.length<y.length):Inv a b y z:=by
 obtain⟨⟨α,β,γ,u',F,u,v,hα,l,hγ,M,w,N,l1,l2⟩,xl,yl⟩:=R;obtain⟨m,n,W,Y,hs⟩:=hz;have j:∀t:Rat,(m:Rat)*Zb z' t=(n:Rat)*Zb z t:=λt=>by
  have:=Qq t (z'.map λa=>m*a) (z.map λa=>n*a) λi=>by rw [Xa,Xa,hs]
  rwa [Ze,Ze]at this
 have B:∀t:Rat,((L*m:Int):Rat)*Zb x t=Zb (q.map λa=>m*a) t*Zb y t+(n:Rat)*Zb z t:=λt=>by rw [Ze];push_cast;have:=h t;have:=j t;grind
 have e:=Zsd Z P O B;have g:(tzl (q.map λa=>m*a)).length<=x.length-y.length+1:=by
  rcases e with D|D
  .rw [D];simp
  .omega
 generalize hQ:(q.map λa=>m*a)=Q at *;have o:∀t:Rat,((n*(α*β):Int):Rat)*Zb z t=Zb (Oq (u'.map λc=>(L*m*β)*c) ((lmul Q u).map λc=>(-α)*c)) t*Zb a t+Zb (Oq (F.map λc=>(L*m*β)*c) ((lmul Q v).map λc=>(-α)*c)) t*Zb b t:=λt=>by rw [Yh,Yh,Ze,Ze,Ze,Ze,Zi,Zi];have G:=B t;have H:=M t;have I:=w t;push_cast at G ⊢;have:(n:Rat)*(α*β)*Zb z t=α*β*(n*Zb z t):=O4;rw [this,show(n:Rat)*Zb z t=L*m*Zb x t-Zb Q t*Zb y t by grind];have:(α:Rat)*β*(L*m*Zb x t-Zb Q t*Zb y t)=L*m*β*(α*Zb x t)-α*Zb Q t*(β*Zb y t):=O4;rw [this,H,I];grind
 refine⟨⟨β,n*(α*β),-(L*m*β*γ),u,v,_,_,l,bA Y (bA hα l),?_,w,o,λt=>?_,?_,?_⟩,O,k⟩
 .have:=bA (bA (bA S W) l) hγ;omega
 .rw [Yh,Yh,Ze,Ze,Ze,Ze,Zi,Zi];have:=N t;push_cast;grind
 .refine Zjw λi hi=>?_;rw [Nh,Xa,Xa,Zuf (p:=F) l2 O,Eo g l1 i O];omega
 .omega
theorem Inv.first{z':List Int}{L:Int}(D:b.length<=a.length)(N:Tr a)(F:Tr b)(w:b≠[])(B:L≠0)(h:∀t:Rat,(L:Rat)*Zb a t=Zb q t*Zb b t+Zb z' t)(I:Sim z' z)(k:z.length<b.length):Inv a b b z:=by
 obtain⟨m,n,G,H,hs⟩:=I;have j:∀t:Rat,(m:Rat)*Zb z' t=(n:Rat)*Zb z t:=λt=>by
  have:=Qq t (z'.map λa=>m*a) (z.map λa=>n*a) λi=>by rw [Xa,Xa,hs]
  rwa [Ze,Ze]at this
 have l:∀t:Rat,((L*m:Int):Rat)*Zb a t=Zb (q.map λa=>m*a) t*Zb b t+(n:Rat)*Zb z t:=λt=>by rw [Ze];push_cast;have:=h t;have:=j t;grind
 have e:=Zsd F w O l;have g:(tzl (q.map λa=>m*a)).length<=a.length-b.length+1:=by
  rcases e with o|o
  .rw [o];simp
  .omega
 generalize M:(q.map λa=>m*a)=Q at *;refine⟨⟨1,n,-(L*m),[],[1],[L*m],Q.map λc=>(-1)*c,O3,H,?_,λt=>?_,λt=>?_,λt=>?_,?_,?_⟩,aH _,k⟩
 .have:=bA B G;omega
 .rw [Qh];show _=(0:Rat)*_+_;grind
 .rw [Qh,Ze];have:=l t;push_cast at this ⊢;grind
 .rw [Qh,Qh];show(0:Rat)*_-_=_;push_cast;grind
 .refine Zjw λi hi=>?_;rw [Xa,Zuf g O];omega
 .refine aB (Ic _) ?_;simp
def Zdt{n:Nat}(h:Sz n a)(i:Nat):(cf a i).natAbs<=2^n:=dZ ((Xo n _).1 (h i))
theorem Ek(h:tzl p=[])(x:Rat):Zb p x=0:=by rw [<-Oj,h];rfl
def tzl_ne(h:cf p i≠0):tzl p≠[]:=λe=>h ((Nn p).1 e i)
def nn_eq{x a b:Nat}(e:x<=b)(g:b<=a):b-x+1+(a-x+1)=a+b-2*x+2:=O
theorem Inv.bound{n s:Nat}(hI:Inv a b x y)(a6:b.length<=a.length)(ha:Tr a)(hx:Tr x)(hy:Tr y)(h0:y≠[])(hp:Yj y=1)(na:Sz n a)(nb:Sz n b)(hs:a.length+b.length-2*x.length+2<=2^s) :
  Qs y<=(s+1+n)*(a.length+b.length-2*x.length+2):=by
 obtain⟨⟨α,β,γ,u',I,u,v,hα,hβ,hγ,e1,M,e3,l1,l2⟩,xl,yl⟩:=hI;have b3:=aD.2 h0;have b2:x≠[]:=λe=>by rw [e]at yl;simp at yl
 have H:a≠[]:=λe=>by
  have g:a.length=0:=by rw [e];rfl
  omega
 obtain⟨U,V,lU,lV,a9,bU,bV,hz⟩:=Zes a b (x.length-1) (p:=b.length-x.length+1) (q:=a.length-x.length+1) (A:=2^n) (bK O3) (Zdt na) (Zdt nb) O O O;have hv:a.length+1<=(tzl v).length+x.length:=by
  refine bE λg=>?_;have a8:∀i,cf (Oq (a.map λc=>γ*c) ((lmul y I).map λc=>β*c)) i=cf (lmul (tzl v) (x.map λc=>α*c)) i:=λi=>Nf (λt=>by
   rw [Yh,Ze,Ze,Zi,Zi,Ze,Oj];have W:=e1 t;have F:=M t;have a3:=e3 t;have:Zb v t*(α*Zb x t)=(Zb u' t*Zb v t-Zb u t*Zb I t)*Zb a t+(Zb u t*Zb a t+Zb v t*Zb b t)*Zb I t:=by rw [W];grind
   rw [this,a3,<-F];grind) i
  have l:=a8 (a.length-1);rw [Nh,Xa,Xa,Eo (m:=y.length) (n:=a.length-x.length+1) (Ic _) l2 _ O,Iv]at l;have P:=Zay (U:=tzl v) (a:=x.map λc=>α*c) (p:=(tzl v).length) (t:=a.length-1) (aH _) (by rw [bX];omega);rw [PS.mul_c]at P;have h3:Zp (λk=>cf (tzl v) k*cf (x.map λc=>α*c) (a.length-1-k)) (a.length-1+1)=0:=P;rw [h3]at l;have:=bA hγ (ha.mem H);omega
 have h:tzl v≠[]:=λe=>by rw [e]at hv;simp at hv;omega
 have Y:∀i,cf (Oq (lmul U a) (lmul V b)) i=(ps U*ps a).c i+(ps V*ps b).c i:=λi=>by rw [Nh,Iv,Iv,PS.mul_c,PS.mul_c];rfl
 generalize hR:Oq (lmul U a) (lmul V b)=R at Y;have rR:∀t,Zb R t=Zb U t*Zb a t+Zb V t*Zb b t:=λt=>by rw [<-hR,Yh,Zi,Zi]
 have lR:(tzl R).length<=x.length-1:=Zjw λi hi=>by rw [Y];exact hz i hi
 have hf:tzl (Oq (lmul U v) ((lmul u V).map λc=>(-1)*c))=[]:=by
  rcases Zcp (Oq (lmul R v) ((lmul y V).map λc=>(-β)*c)) (Oq (lmul U v) ((lmul u V).map λc=>(-1)*c)) a (a.length-1) (λt=>by
   rw [Yh,Ze,Zi,Zi,Yh,Ze,Zi,Zi,rR];have F:=M t;push_cast;have:(-(β:Rat))*(Zb y t*Zb V t)=- (β*Zb y t)*Zb V t:=O4;rw [this,F];grind) ha H (λi hi=>by
   rw [Nh,Xa,Eo lR l1 i O,Eo (m:=y.length) (n:=a.length-x.length+1) (Ic _) (aB (Ic _) (nB lV)) i O];omega)with g|g
  .exact g
  .refine bE λh8=>?_;have:=aD.2 h8;omega
 have D:∀t,Zb U t*Zb v t=Zb u t*Zb V t:=λt=>by have:=Ek hf t;rw [Yh,Ze,Zi,Zi]at this;push_cast at this;grind
 have a4:∀t,Zb R t*Zb v t=β*Zb y t*Zb V t:=λt=>by rw [rR,M t];have:=D t;grind
 have S:∀t,(γ:Rat)*Zb V t=Zb v t*Zb (Oq (lmul u' V) ((lmul I U).map λc=>(-1)*c)) t:=λt=>by rw [Yh,Ze,Zi,Zi,<-e3 t];have:=D t;push_cast;grind
 generalize Oq (lmul u' V) ((lmul I U).map λc=>(-1)*c)=w at S;have hV:tzl V≠[]:=λe=>by
  rcases a9 with⟨i,hi⟩|⟨i,hi⟩
  .refine hi (Nf (p:=U) (q:=[]) (λt=>?_) i▸Dc i);exact Ii v (f:=U) h (λt=>by have:=D t;rw [Ek e]at this;grind) t
  .exact tzl_ne hi e
 have b1:∃c:Int,c≠0/\∀t,Zb w t=(c:Rat):=by
  have j:tzl w≠[]:=λe=>hV ((Nn V).2 λi=>by have:=Nf (p:=V.map λc=>γ*c) (q:=[]) (λt=>by rw [Ze,S t,Ek e];show _=(0:Rat);grind) i;rw [Xa,Dc]at this;exact(eQ.1 this).resolve_left hγ)
  rcases Zcp (V.map λc=>γ*c) w (tzl v) (a.length-x.length+1) (λt=>by rw [Ze,Oj,S t];grind) (Qd v) h (λi hi=>by rw [Xa,Zv O];omega)with g|g
  .exact absurd g j
  .have h8:=aD.2 j;have h7:(tzl w).length=1:=O
   match Q:tzl w,h7 with
   | [c],_=>
    refine⟨c,?_,λt=>by rw [<-Oj,Q,Qh]⟩;have:=(Qd w).mem j;rw [Q]at this;exact this
 obtain⟨c,a7,Q⟩:=b1;have o:Sim R y:=by
  refine⟨γ,β*c,hγ,bA hβ a7,λi=>?_⟩;have:=Nf (p:=R.map λd=>γ*d) (q:=y.map λd=>(β*c)*d) (λt=>by
   rw [Ze,Ze];push_cast;have l:Zb (Oq (R.map λd=>γ*d) (y.map λd=>(-(β*c))*d)) t=0:=Ii v h (λt=>by rw [Yh,Ze,Ze];push_cast;have W:=a4 t;have F:=S t;rw [Q]at F;have:Zb v t*(γ*Zb R t + -(β*c:Rat)*Zb y t)=γ*(Zb R t*Zb v t)-β*Zb y t*(Zb v t*c):=O4;rw [this,W,<-F];grind) t
   rw [Yh,Ze,Ze]at l;push_cast at l;grind) i
  rwa [Xa,Xa]at this
 have b0:Sz ((s+1+n)*(a.length+b.length-2*x.length+2)) R:=λi=>by
  rw [Y];have c1:=Zt5 i lU bU (Zdt na);have c2:=Zt5 i lV bV (Zdt nb);have a0:b.length-x.length+1+(a.length-x.length+1)=a.length+b.length-2*x.length+2:=nn_eq xl a6;rw [<-a0]at hs ⊢;generalize hN:b.length-x.length+1+(a.length-x.length+1)=N at *;generalize G:(2*N*2^n)^(N-1)=X at *;have c3:((ps U*ps a).c i+(ps V*ps b).c i).natAbs<=N*(X*2^n):=by rw [<-hN,bD];have:=kK ((ps U*ps a).c i) ((ps V*ps b).c i);omega
  refine(Xo _ _).2 (bC c3 ?_);have a5:0<X:=by rw [<-G];exact bK (fF O (bK O3))
  have c4:N*(X*2^n)<(2*N*2^n)^N:=by
   have e:(2*N*2^n)^N=X*(2*N*2^n):=by rw [<-G,<-bL,Nat.succ_eq_add_one,show N-1+1=N by omega]
   rw [e];have:0<N*(X*2^n):=fF O (fF a5 (bK O3));have M:X*(2*N*2^n)=2*(N*(X*2^n)):=O4;omega
  have c5:2*N*2^n<=2^(s+1+n):=by rw [bH,bL];exact aI _ O
  have c6:=eH c5 N;rw [<-iU]at c6;exact cL c4 c6
 have l:tzl R≠[]:=λe=>by obtain⟨m,k,hm,hk,Z⟩:=o;have:=Z (y.length-1);rw [(Nn R).1 e,dK]at this;exact bA hk (hy.mem h0) this.symm
 have B:Sim (tzl R) y:=by obtain⟨m,k,hm,hk,Z⟩:=o;exact⟨m,k,hm,hk,λi=>by rw [Nj];exact Z i⟩
 have P:=(Xt (Qd R)).trans B;have h3:∀i,(cf y i).natAbs=(cf (Zs (tzl R)) i).natAbs:=λi=>by
  rcases Zmu (Yi (Qd R)) hy (λe=>l (aF (by rw [<-Zk,e];rfl))) (Lj (Qd R) l) hp P with g|g
  .rw [g]
  .rw [g i,eF]
 exact Qv λi=>by rw [h3];exact Ge b0.tzl i
def Znn(g e K:Nat):Prop:=∀l,l<=e->(l+1)*(K*(g+e-2*l+2)+1)<=65536
def Zo4{e g l:Nat}(h:l<=m):K*(e+g-2*m+2)<=K*(e+g-2*l+2):=bZ _ O
theorem Zde{C:Nat}(e:y≠[])(l:y.length<x.length)(g:Qs x<=C)(j:Qs y<=C)(h:(x.length+1)*(C+1)<=65536):Fc x y=0:=by have n:=aD.2 e;unfold Fc;rw [aE O,aE O];have k:(x.length-y.length+1)*(Qs y+1)<=x.length*(C+1):=aY O O;rw [bD,kI]at h;rw [aE O]
theorem Zv4(n:Inv a b x y)(g:b.length<=a.length)(j:Tr x)(l:Tr y)(e:y≠[]):Inv a b y (Zs (Xj x y)):=by
 obtain⟨k,s,hs⟩:=Dm x e;have h:=Nt (l.mem e) k;generalize cf y (y.length-1)^k=L at hs h;have o:∀t:Rat,(L:Rat)*Zb x t=Zb s t*Zb y t+Zb (Xj x y) t:=λt=>by have:=Ho L (-1) x s y (Xj x y) (λt=>by rw [hs t];omega) t;push_cast at this;grind
 exact n.next g j l e h o (Xt (Mu _ j)).symm (by rw [Zk];exact Qk x e)
theorem Zcs(h:Tr p):Zs p=[]\/Yj (Zs p)=1:=by
 by_cases e:p=[]
 .left;rw [e];rfl
 .right;exact Lj h e
theorem Fa(g:Tr x)(e:y≠[]):(Pq x y).length<y.length:=by rw [Ct _ g];exact Qk x e
theorem Zv3(n:Inv a b x y)(l:b.length<=a.length)(h:Tr x)(j:Tr y)(e:y≠[]):Inv a b y (Pq x y)/\(Pq x y=[]\/Yj (Pq x y)=1):=by
 have D:=aD.2 e;have B:=n.yl;obtain⟨r1,r2,k,u,w⟩:=Zcl j e x.length x h O;have hs:=Zdw x.length h j e O O;have g:Tr (Zbj (Dl x.length x y)):=Qx;have o:Cm y^k≠0:=Nt (by have:=Zco j e;omega) _;constructor
 .refine n.next (z':=Dl x.length x y) (q:=u) l h j e o (λt=>?_) ?_ (Fa h e)
  .have:=Ho (Cm y^k) (-1) x u y (Dl x.length x y) (λt=>by rw [w t];omega) t;push_cast at this ⊢;grind
  .rw [<-hs];exact Sim.trans ⟨1,-1,O3,O3,λi=>by rw [Hy];omega⟩ (Xt g).symm
 .rw [<-hs];exact Zcs g
theorem Ztk{a b:List Int}{n s K:Nat}(h:b.length<=a.length)(G:Tr a)(N:Sz n a)(P:Sz n b)(hs:a.length+b.length<=2^s)(D:s+1+n<=K)(F:Znn a.length b.length K) :
  ∀(f:Nat) (x y:List Int),Inv a b x y->Tr x->Tr y->(y=[]\/Yj y=1)->Qs x<=K*(a.length+b.length-2*x.length+2)->y.length<=f->eok f x y/\Qs (eu f x y)<=K*(a.length+b.length)
 | 0,x,y,g,o,w,H,l,S=>by have k:=g.yl;refine⟨aF O,aB l (bZ _ (by have:=g.xl;omega))⟩
 | f+1,x,y,g,o,w,H,l,S=>by
  have B:=g.yl;have k:=g.xl;by_cases e:y=[]
  .subst e;refine⟨.inl rfl,?_⟩;rw [Zeb];exact aB l (bZ _ O)
  .have V:=aD.2 e;have Q:=g.bound h G o w e (H.resolve_left e) N P (s:=s) O;have j:Qs y<=K*(a.length+b.length-2*x.length+2):=aB Q (aI _ D);have R:=Zde e B l j (F x.length k);have I:=Mu y o;have M:=Ztk h G N P hs D F f y (Zs (Xj x y)) (Zv4 g h o w e) w (Yi I) (Zcs I) (aB j (Zo4 O)) (by rw [Zk];have:=Qk x e;omega);refine⟨.inr ⟨R,M.1⟩,?_⟩;rw [show eu (f+1) x y=eu f y (Zs (Xj x y)) by
     conv=>lhs;unfold eu
     rw [aE e]]
   exact M.2
theorem Zt6{a b:List Int}{n s K:Nat}(j:b.length<=a.length)(H:Tr a)(N:Sz n a)(P:Sz n b)(hs:a.length+b.length<=2^s)(F:s+1+n<=K)(G:Znn a.length b.length K) :
  ∀(f:Nat) (x y:List Int),Inv a b x y->Tr x->Tr y->(y=[]\/Yj y=1)->Qs x<=K*(a.length+b.length-2*x.length+2)->y.length<=f->cok f x y/\∀p∈On f x y,Qs p<=K*(a.length+b.length)/\p.length<=a.length
 | 0,x,y,h,o,B,e,l,S=>by
  have w:=h.yl;have I:=h.xl;have g:y=[]:=aF O;refine⟨g,λp e=>?_⟩;have:p=x:=by unfold On at e;simpa using e
  rw [this];exact⟨aB l (bZ _ O),O⟩
 | f+1,x,y,h,o,B,e,l,S=>by
  have D:=h.yl;have w:=h.xl;by_cases g:y=[]
  .subst g;refine⟨.inl rfl,λp e=>?_⟩;rw [Fo]at e;have:p=x:=by simpa using e
   rw [this];exact⟨aB l (bZ _ O),O⟩
  .have Y:=aD.2 g;have Q:=h.bound j H o B g (e.resolve_left g) N P (s:=s) O;have k:Qs y<=K*(a.length+b.length-2*x.length+2):=aB Q (aI _ F);have R:=Zde g D l k (G x.length w);obtain⟨V,W⟩:=Zv3 h j o B g;have M:=Zt6 j H N P hs F G f y (Pq x y) V B (Bv o) W (aB k (Zo4 O)) (by have:=Fa o g;omega);refine⟨.inr ⟨R,O,M.1⟩,λp e=>?_⟩;unfold On at e;rw [aE g]at e;rcases bO.1 e with rfl|e
   .exact⟨aB l (bZ _ O),O⟩
   .exact M.2 p e
theorem Yem{n s:Nat}(j:b.length<a.length)(h:Tr a)(l:Tr b)(F:Sz n a)(G:Sz n b)(hs:a.length+b.length<=2^s)(I:s+1+n<=K)(N:Znn a.length b.length K)(P:(a.length+1)*(n+1)<=65536)(V:b.length<=f) :
  eok f a b/\Qs (eu f a b)<=K*(a.length+b.length):=by
 have R:=Qv F;have S:=Qv G;have Y:0<a.length:=O;have M:n<=K*(a.length+b.length):=aB (by omega:n<=K*1) (bZ _ O);by_cases e:b=[]
 .subst e;cases f with
  | zero=>exact⟨rfl,by rw [Zeb];omega⟩
  | succ f=>exact⟨.inl rfl,by rw [Zeb];omega⟩
 .have W:=aD.2 e;obtain⟨g,rfl⟩:∃g,f=g+1:=⟨f-1,O⟩;have o:=Mu b h;obtain⟨k,q,B⟩:=Dm a e;have w:=Nt (l.mem e) k;generalize cf b (b.length-1)^k=L at B w;have Q:∀t:Rat,(L:Rat)*Zb a t=Zb q t*Zb b t+Zb (Xj a b) t:=λt=>by have:=Ho L (-1) a q b (Xj a b) (λt=>by rw [B t];omega) t;push_cast at this;grind
  have H:Inv a b b (Zs (Xj a b)):=Inv.first O h l e w Q (Xt o).symm (by rw [Zk];exact Qk a e);have D:=Ztk O h F G hs I N g b (Zs (Xj a b)) H l (Yi o) (Zcs o) (aB (by omega:Qs b<=K*1) (bZ _ O)) (by rw [Zk];have:=Qk a e;omega);refine⟨.inr ⟨Zde e j R S P,D.1⟩,?_⟩;rw [show eu (g+1) a b=eu g b (Zs (Xj a b)) by
    conv=>lhs;unfold eu
    rw [aE e]]
  exact D.2
theorem Ye2{n s:Nat}(F:b.length<a.length)(l:Tr a)(o:Tr b)(H:Sz n a)(I:Sz n b)(hs:a.length+b.length<=2^s)(N:s+1+n<=K)(Q:Znn a.length b.length K)(R:(a.length+1)*(n+1)<=65536)(Y:b.length<=f) :
  cok f a b/\∀p∈On f a b,Qs p<=K*(a.length+b.length)/\p.length<=a.length:=by
 have V:=Qv H;have W:=Qv I;have la:0<a.length:=O;have P:n<=K*(a.length+b.length):=aB (by omega:n<=K*1) (bZ _ O);by_cases e:b=[]
 .subst e;have j:∀p∈On f a [],Qs p<=K*(a.length+([]:List Int).length)/\p.length<=a.length:=λp h=>by
   rw [Fo]at h;have:p=a:=by simpa using h
   rw [this];exact⟨O,aH _⟩
  cases f with
  | zero=>exact⟨rfl,j⟩
  | succ f=>exact⟨.inl rfl,j⟩
 .have Z:=aD.2 e;obtain⟨g,rfl⟩:∃g,f=g+1:=⟨f-1,O⟩;obtain⟨r1,r2,k,u,S⟩:=Zcl o e a.length a l O;have w:=Zdw a.length l o e O O;have B:Tr (Zbj (Dl a.length a b)):=Qx;have D:Cm b^k≠0:=Nt (by have:=Zco o e;omega) _;have M:Inv a b b (Pq a b):=by
   refine Inv.first (z':=Dl a.length a b) (q:=u) O l o e D (λt=>?_) ?_ (Fa l e)
   .have:=Ho (Cm b^k) (-1) a u b (Dl a.length a b) (λt=>by rw [S t];omega) t;push_cast at this ⊢;grind
   .rw [<-w];exact Sim.trans ⟨1,-1,O3,O3,λi=>by rw [Hy];omega⟩ (Xt B).symm
  have h:Pq a b=[]\/Yj (Pq a b)=1:=by rw [<-w];exact Zcs B
  have G:=Zt6 O l H I hs N Q g b (Pq a b) M o (Bv l) h (aB (by omega:Qs b<=K*1) (bZ _ O)) (by have:=Fa l e;omega);refine⟨.inr ⟨Zde e F V W R,O,G.1⟩,λp h=>?_⟩;unfold On at h;rw [aE e]at h;rcases bO.1 h with rfl|h
  .exact⟨O,aH _⟩
  .exact G.2 p h
def al:List Int->List Int->List Int
 | [],g=>g
 | a::f,[]=>a::f
 | a::f,b::g=>(a+b)::al f g
def Eb(c:Int)(f:List Int):List Int:=f.map (c*·)
def ddl(k:Nat):List Int->List Int
 | []=>[]
 | b::g=>(k:Int)*b::ddl (k+1) g
def dl(f:List Int):List Int:=ddl 1 f.tail
def xl:List Int->List Int
 | []=>[]
 | a::f=>0::a::f
def fc:Nat->Int
 | 0=>1
 | k+1=>((k:Int)+1)*fc k
def Lx:Nat->List Int->List Int->Int
 | k,a::f,b::g=>fc k*(a*b)+Lx (k+1) f g
 | _,_,_=>0
theorem Zhi(k:Nat)(f:List Int):Lx k f []=0:=by cases f<;>rfl
theorem Yb1(f:List Int):al f []=f:=by cases f<;>rfl
theorem Zuq:∀f g:List Int,al f g=al g f
 | [],g=>(Yb1 g).symm
 | a::f,[]=>rfl
 | a::f,b::g=>by show(a+b)::al f g=(b+a)::al g f;rw [Zuq f g,iD]
theorem Zpe:∀f g h:List Int,al (al f g) h=al f (al g h)
 | [],g,h=>rfl
 | a::f,[],h=>rfl
 | a::f,b::g,[]=>rfl
 | a::f,b::g,c::h=>by show(a+b+c)::al (al f g) h=(a+(b+c))::al f (al g h);rw [Zpe f g h,Int.add_assoc]
instance:Std.Commutative al:=⟨Zuq⟩
instance:Std.Associative al:=⟨Zpe⟩
theorem Zxu(c:Int):∀f g,Eb c (al f g)=al (Eb c f) (Eb c g)
 | [],g=>rfl
 | a::f,[]=>rfl
 | a::f,b::g=>by show c*(a+b)::Eb c (al f g)=(c*a+c*b)::al (Eb c f) (Eb c g);rw [Zxu c f g,kJ]
theorem Zr2(c d:Int):∀f,Eb (c+d) f=al (Eb c f) (Eb d f)
 | []=>rfl
 | a::f=>by show(c+d)*a::Eb (c+d) f=(c*a+d*a)::al (Eb c f) (Eb d f);rw [Zr2 c d f,kM]
theorem Zfj:∀f,Eb 1 f=f
 | []=>rfl
 | a::f=>by show 1*a::Eb 1 f=a::f;rw [Zfj f,eI]
theorem Ya6:∀k f g,ddl k (al f g)=al (ddl k f) (ddl k g)
 | k,[],g=>rfl
 | k,a::f,[]=>rfl
 | k,a::f,b::g=>by show(k:Int)*(a+b)::ddl (k+1) (al f g)=((k:Int)*a+(k:Int)*b)::al (ddl (k+1) f) (ddl (k+1) g);rw [Ya6 (k+1) f g,kJ]
theorem Ztt(c:Int):∀k f,ddl k (Eb c f)=Eb c (ddl k f)
 | k,[]=>rfl
 | k,a::f=>by show(k:Int)*(c*a)::ddl (k+1) (Eb c f)=c*((k:Int)*a)::Eb c (ddl (k+1) f);rw [Ztt c (k+1) f,kO]
theorem Zot:∀k f,ddl (k+1) f=al f (ddl k f)
 | k,[]=>rfl
 | k,a::f=>by show((k+1:Nat):Int)*a::ddl (k+1+1) f=(a+(k:Int)*a)::al f (ddl (k+1) f);rw [Zot (k+1) f];congr 1;push_cast;grind
def dl_al:∀f g,dl (al f g)=al (dl f) (dl g)
 | [],g=>rfl
 | a::f,[]=>(Yb1 _).symm
 | a::f,b::g=>Ya6 1 f g
def dl_scl(c:Int):∀f,dl (Eb c f)=Eb c (dl f)
 | []=>rfl
 | a::f=>Ztt c 1 f
theorem dl_x:∀f,dl (xl f)=al f (xl (dl f))
 | []=>rfl
 | [a]=>by show(((1:Nat):Int)*a::[])=[a];rw [show((1:Nat):Int)=1 from rfl,eI]
 | a::b::f=>by show((1:Nat):Int)*a::ddl (1+1) (b::f)=(a+0)::al (b::f) (ddl 1 (b::f));rw [Zot 1 (b::f),show((1:Nat):Int)=1 from rfl,eI,fD]
def xl_al:∀f g,xl (al f g)=al (xl f) (xl g)
 | [],g=>rfl
 | a::f,[]=>rfl
 | a::f,b::g=>rfl
theorem xl_scl(c:Int):∀f,xl (Eb c f)=Eb c (xl f)
 | []=>rfl
 | a::f=>by show 0::c*a::Eb c f=c*0::c*a::Eb c f;rw [dK]
theorem Iq:∀k f g,Lx k f g=Lx k g f
 | k,[],g=>(Zhi k g).symm
 | k,a::f,[]=>rfl
 | k,a::f,b::g=>by show fc k*(a*b)+Lx (k+1) f g=fc k*(b*a)+Lx (k+1) g f;rw [Iq (k+1) f g,dJ a b]
theorem Zhl:∀k f g h,Lx k (al f g) h=Lx k f h+Lx k g h
 | k,[],g,h=>by show Lx k g h=0+Lx k g h;rw [jY]
 | k,a::f,[],h=>(fD _).symm
 | k,a::f,b::g,[]=>rfl
 | k,a::f,b::g,c::h=>by show fc k*((a+b)*c)+Lx (k+1) (al f g) h=fc k*(a*c)+Lx (k+1) f h+(fc k*(b*c)+Lx (k+1) g h);rw [Zhl (k+1) f g h];grind
theorem Zhk(k:Nat)(h f g:List Int):Lx k h (al f g)=Lx k h f+Lx k h g:=by rw [Iq,Zhl,Iq k f,Iq k g]
theorem Zc8(c:Int):∀k f g,Lx k (Eb c f) g=c*Lx k f g
 | k,[],g=>(dK c).symm
 | k,a::f,[]=>(dK c).symm
 | k,a::f,b::g=>by show fc k*(c*a*b)+Lx (k+1) (Eb c f) g=c*(fc k*(a*b)+Lx (k+1) f g);rw [Zc8 c (k+1) f g];grind
theorem Zk6(c:Int)(k:Nat)(f g:List Int):Lx k f (Eb c g)=c*Lx k f g:=by rw [Iq,Zc8,Iq]
theorem Yao:∀k f g,Lx (k+1) f g=Lx k f (ddl (k+1) g)
 | k,[],g=>rfl
 | k,a::f,[]=>rfl
 | k,a::f,b::g=>by show((k:Int)+1)*fc k*(a*b)+Lx (k+1+1) f g=fc k*(a*(((k+1:Nat):Int)*b))+Lx (k+1) f (ddl (k+1+1) g);rw [Yao (k+1) f g];push_cast;grind
theorem fip_x:∀f g,Lx 0 (xl f) g=Lx 0 f (dl g)
 | [],g=>rfl
 | a::f,[]=>rfl
 | a::f,b::g=>by show fc 0*(0*b)+Lx 1 (a::f) g=Lx 0 (a::f) (ddl 1 g);rw [dD,dK,jY];exact Yao 0 (a::f) g
theorem Yal(f g:List Int):Lx 0 f (xl g)=Lx 0 (dl f) g:=by rw [Iq,fip_x,Iq]
def Mq:List Int->Nat->List Int->List Int
 | [],_,_=>[]
 | c::q,0,g=>al (Eb c g) (xl (Mq q 0 g))
 | c::q,j+1,g=>al (xl (Mq q (j+1) g)) (Mq q j g)
def Hq:List Int->Nat->List Int->List Int
 | [],_,_=>[]
 | c::p,0,f=>al (Eb c f) (Hq p 0 (dl f))
 | c::p,k+1,f=>al (Hq p (k+1) (dl f)) (Hq p k f)
theorem Ztr:∀q j g,dl (Mq q j g)=al (Mq q j (dl g)) (Eb ((j:Int)+1) (Mq q (j+1) g))
 | [],j,g=>rfl
 | c::q,0,g=>by
  show dl (al (Eb c g) (xl (Mq q 0 g)))=al (al (Eb c (dl g)) (xl (Mq q 0 (dl g)))) (Eb (((0:Nat):Int)+1) (al (xl (Mq q (0+1) g)) (Mq q 0 g)));rw [dl_al,dl_scl,dl_x,Ztr q 0 g,xl_al];rw [show((0:Nat):Int)+1=1 from rfl,Zfj,Zfj]
  ac_rfl
 | c::q,j+1,g=>by
  show dl (al (xl (Mq q (j+1) g)) (Mq q j g))=al (al (xl (Mq q (j+1) (dl g))) (Mq q j (dl g))) (Eb (((j+1:Nat):Int)+1) (al (xl (Mq q (j+1+1) g)) (Mq q (j+1) g)));rw [dl_al,dl_x,Ztr q (j+1) g,Ztr q j g,xl_al,xl_scl,Zxu];rw [show Eb (((j+1:Nat):Int)+1) (Mq q (j+1) g)=al (Eb ((j:Int)+1) (Mq q (j+1) g)) (Mq q (j+1) g) by rw [Zr2,Zfj];rfl]
  ac_rfl
theorem Zfq:∀q j f g,Lx 0 f (Mq q j g)=Lx 0 (Hq q j f) g
 | [],j,f,g=>Zhi 0 f
 | c::q,0,f,g=>by show Lx 0 f (al (Eb c g) (xl (Mq q 0 g)))=Lx 0 (al (Eb c f) (Hq q 0 (dl f))) g;rw [Zhk,Zhl,Zk6,Zc8,Yal,Zfq q 0 (dl f) g]
 | c::q,j+1,f,g=>by show Lx 0 f (al (xl (Mq q (j+1) g)) (Mq q j g))=Lx 0 (al (Hq q (j+1) (dl f)) (Hq q j f)) g;rw [Zhk,Zhl,Yal,Zfq q (j+1) (dl f) g,Zfq q j f g]
def wfa:Nat->Nat->Int
 | j,0=>1
 | j,k+1=>((j:Int)+1)*wfa (j+1) k
theorem Zjt:∀k j,0<wfa j k
 | 0,j=>by show(0:Int)<1;decide
 | k+1,j=>fW O (Zjt k (j+1))
theorem Zhj:∀(p q:List Int) (j:Nat) (f g:List Int) (K:Nat),p.length<=K->Lx 0 (Mq p 0 f) (Mq q j g)=Zp (λk=>wfa j k*Lx 0 (Hq q (j+k) f) (Hq p k g)) K
 | [],q,j,f,g,K,_=>by rw [Kk (λk n=>by show wfa j k*Lx 0 (Hq q (j+k) f) []=0;rw [Zhi,dK])];rfl
 | c::p,q,j,f,g,K,hK=>by
  obtain⟨e,rfl⟩:∃e,K=e+1:=⟨K-1,by simp at hK;omega⟩;have o:p.length<=e:=by simpa using hK
  have w:=Zhj p q j f (dl g) (e+1) O;have B:=Zhj p q (j+1) f g e o;show Lx 0 (al (Eb c f) (xl (Mq p 0 f))) (Mq q j g)=_;rw [Zhl,Zc8,fip_x,Ztr,Zhk,Zk6,w,B,Zfq];rw [Ox,Ox (λk=>wfa j k*Lx 0 (Hq q (j+k) f) (Hq (c::p) k g))];have h:Lx 0 (Hq q (j+0) f) (Hq (c::p) 0 g)=c*Lx 0 (Hq q j f) g+Lx 0 (Hq q j f) (Hq p 0 (dl g)):=by show Lx 0 (Hq q j f) (al (Eb c g) (Hq p 0 (dl g)))=_;rw [Zhk,Zk6]
  have l:Zp (λk=>wfa j (k+1)*Lx 0 (Hq q (j+(k+1)) f) (Hq (c::p) (k+1) g)) e=Zp (λk=>wfa j (k+1)*Lx 0 (Hq q (j+(k+1)) f) (Hq p (k+1) (dl g))) e+((j:Int)+1)*Zp (λk=>wfa (j+1) k*Lx 0 (Hq q (j+1+k) f) (Hq p k g)) e:=by rw [<-Oi,<-Hc];refine Yf λk n=>?_;show _*Lx 0 _ (al (Hq p (k+1) (dl g)) (Hq p k g))=_;rw [Zhk,show j+1+k=j+(k+1) by omega];show((j:Int)+1)*wfa (j+1) k*_=((j:Int)+1)*wfa (j+1) k*_+_;grind
  rw [h,l];show _=(1:Int)*_+_;show _*_+((1:Int)*_+_+_)=_;rw [show j+0=j from rfl];grind
theorem Zj1(a:Int):0<=a*a:=by
 rcases Int.le_total 0 a with h|h
 .exact cY h h
 .have:=cY (show 0<=-a by omega) (show 0<=-a by omega);rwa [Int.neg_mul_neg]at this
theorem Zea:∀k,1<=fc k
 | 0=>by show(1:Int)<=1;decide
 | k+1=>by have h:=Zea k;show 1<=((k:Int)+1)*fc k;have e:=kC (show(1:Int)<=(k:Int)+1 by omega) h O3 O;omega
theorem Yap(k:Nat)(f:List Int)(b:Int)(g:List Int):Lx k f (b::g)=fc k*(cf f 0*b)+Lx (k+1) f.tail g:=by
 cases f with
 | nil=>show(0:Int)=fc k*(0*b)+Lx (k+1) [] g;rw [dD,dK];rfl
 | cons a f=>rfl
theorem Ybh(f:List Int)(i:Nat):cf f.tail i=cf f (i+1):=by cases f<;>rfl
theorem Zk8:∀k (f e g:List Int),(∀i,cf f i=cf e i)->Lx k f g=Lx k e g
 | k,f,e,[],h=>by rw [Zhi,Zhi]
 | k,f,e,b::g,h=>by rw [Yap,Yap,h 0,Zk8 (k+1) f.tail e.tail g λi=>by rw [Ybh,Ybh,h]]
theorem Zk7:∀k f,0<=Lx k f f
 | k,[]=>fG _
 | k,a::f=>by show 0<=fc k*(a*a)+Lx (k+1) f f;have e:=Zk7 (k+1) f;have g:=cY (show 0<=fc k by have:=Zea k;omega) (Zj1 a);omega
theorem Yan:∀k f i,cf f i*cf f i<=Lx k f f
 | k,[],i=>by rw [Zv O7];exact fG _
 | k,a::f,0=>by show a*a<=fc k*(a*a)+Lx (k+1) f f;have e:=Zk7 (k+1) f;have g:=fB (Zea k) (Zj1 a);omega
 | k,a::f,i+1=>by show cf f i*cf f i<=fc k*(a*a)+Lx (k+1) f f;have e:=Yan (k+1) f i;have g:=cY (show 0<=fc k by have:=Zea k;omega) (Zj1 a);omega
def fcs:Nat->Nat->Int
 | k,0=>0
 | k,n+1=>fc k+fcs (k+1) n
theorem Yar:∀n k,0<=fcs k n
 | 0,k=>fG _
 | n+1,k=>by have h:=Yar n (k+1);have:=Zea k;show 0<=fc k+fcs (k+1) n;omega
theorem Yam:∀n k (f:List Int) (A:Int),f.length<=n->(∀x∈f,x*x<=A)->0<=A->Lx k f f<=fcs k n*A
 | n,k,[],A,_,_,e=>cY (Yar n k) e
 | 0,k,a::f,A,h,_,_=>by simp at h
 | n+1,k,a::f,A,h,hx,e=>by have j:=Yam n (k+1) f A (by simpa using h) (λx g=>hx x (aT _ g)) e;have l:=jO (hx a (bM ..)) (show 0<=fc k by have:=Zea k;omega);show fc k*(a*a)+Lx (k+1) f f<=(fc k+fcs (k+1) n)*A;rw [kM];omega
theorem Zrd:∀p k f,p.length<=k->Hq p k f=[]
 | [],k,f,_=>by cases k<;>rfl
 | c::p,0,f,h=>by simp at h
 | c::p,k+1,f,h=>by
  show al (Hq p (k+1) (dl f)) (Hq p k f)=[];have e:p.length<=k:=by simpa using h
  rw [Zrd p (k+1) _ O,Zrd p k _ e];rfl
theorem Yca:∀p k f,p.length=k+1->Hq p k f=Eb (cf p k) f
 | [],k,f,h=>by simp at h
 | [c],0,f,h=>Yb1 _
 | c::d::p,0,f,h=>by simp at h
 | c::p,k+1,f,h=>by
  have e:p.length=k+1:=by simpa using h
  show al (Hq p (k+1) (dl f)) (Hq p k f)=Eb (cf p k) f;rw [Zrd p (k+1) _ O,Yca p k f e];rfl
theorem Ybn:∀f g i,cf (al f g) i=cf f i+cf g i
 | [],g,i=>by rw [Zv (p:=[]) O7,jY];rfl
 | a::f,[],i=>by rw [Zv (p:=[]) O7,fD];rfl
 | a::f,b::g,0=>rfl
 | a::f,b::g,i+1=>Ybn f g i
def Ybl(c:Int)(f:List Int)(i:Nat):cf (Eb c f) i=c*cf f i:=Zbw (p:=f) (f:=(c*·)) (dK c) i
theorem cf_xl0(f:List Int):cf (xl f) 0=0:=by cases f<;>rfl
theorem cf_xl(f:List Int)(i:Nat):cf (xl f) (i+1)=cf f i:=by cases f<;>rfl
theorem cf_Mq:∀p f i,cf (Mq p 0 f) i=(ps p*ps f).c i
 | [],f,i=>by rw [PS.mul_c,Kk (λk _=>by rw [Pj,Zv O7,dD])];exact Zv (by simp [Mq])
 | c::p,f,0=>by show cf (al (Eb c f) (xl (Mq p 0 f))) 0=_;rw [Ybn,Ybl,cf_xl0,PS.mul_c,Ox,fD];exact(fD _).symm
 | c::p,f,i+1=>by show cf (al (Eb c f) (xl (Mq p 0 f))) (i+1)=_;rw [Ybn,Ybl,cf_xl,cf_Mq p f i,PS.mul_c,PS.mul_c,Ox _ (i+1)];refine aP (c*cf f (i+1)+·) (Yf λk e=>?_);show cf p k*cf f (i-k)=cf p k*cf f (i+1-(k+1));rw [show i+1-(k+1)=i-k by omega]
theorem Zv8{n L e:Nat}(hu:Tr u)(w:Tr v)(hs:Sz n s)(N:s≠[])(hl:s.length<=L)(W:fcs 0 L<=2^e*2^e)(h:s=Yy u v):Sz (n+e) u:=by
 have B:v≠[]:=λe=>N (by rw [h,e,Zbk]);obtain⟨m,I⟩:∃m,v.length=m+1:=⟨v.length-1,by have:=aD.2 B;omega⟩;have g:cf v m≠0:=by
  rcases w with w|w
  .exact absurd w B
  .rwa [I]at w
 have o:∀i,cf (Mq v 0 u) i=cf s i:=λi=>by rw [cf_Mq,h,Ds,Ld]
 have j:=Zhj v v 0 u u (m+1) O;rw [Zk8 0 _ s _ o,Iq,Zk8 0 _ s _ o,Ya,cP,Yca v m u I,Zc8,Zk6]at j;have l:∀t,0<=Zp (λk=>wfa 0 k*Lx 0 (Hq v (0+k) u) (Hq v k u)) t:=λt=>by
  induction t with
  | zero=>exact fG _
  | succ t ih=>
   rw [Ya,cP];have:=cY (show 0<=wfa 0 t by have:=Zjt t 0;omega) (Zk7 0 (Hq v t u));omega
 have hr:=l m;have V:1<=cf v m*cf v m:=by
  have h1:=Zj1 (cf v m);have h2:cf v m*cf v m≠0:=λe=>by rcases eQ.1 e with q|q<;>exact g q
  omega
 have Z:=Zk7 0 u;have h3:Lx 0 u u<=cf v m*(cf v m*Lx 0 u u):=by have:=fB V Z;rw [fK]at this;omega
 have h4:Lx 0 u u<=wfa 0 m*(cf v m*(cf v m*Lx 0 u u)):=by have:=fB (show 1<=wfa 0 m from Zjt m 0) (show 0<=cf v m*(cf v m*Lx 0 u u) by omega);omega
 intro i;rw [Xo];have h5:=Yan 0 u i;have R:∀x∈s,x*x<=(2^n-1)*(2^n-1):=λx hx=>by
  have hb:x.natAbs<2^n:=(Xo n _).1 (hs.mem hx);have S:((2^n:Nat):Int)=2^n:=by push_cast;rfl
  have p1:x<=2^n-1:=O;have p2:-(2^n-1)<=x:=O;generalize (2:Int)^n-1=y at *;have:=cY (show 0<=y-x by omega) (show 0<=y+x by omega);grind
 have hp:(1:Int)<=2^n:=by exact_mod_cast bK (n:=n) (show 0<2 by decide)
 have M:(1:Int)<=2^e:=by exact_mod_cast bK (n:=e) (show 0<2 by decide)
 have h6:=Yam L 0 s _ hl R (cY O O);have h7:cf u i*cf u i<=(2^e*2^e)*((2^n-1)*(2^n-1)):=by have:=fB W (show(0:Int)<=(2^n-1)*(2^n-1)from cY O O);omega
 rcases bJ (cf u i).natAbs (2^(n+e))with G|F
 .exact G
 .exfalso;have H:(2^n*2^e:Int)<=((cf u i).natAbs:Int):=by rw [<-nI];exact_mod_cast F
  have Q:((cf u i).natAbs:Int)*((cf u i).natAbs:Int)=cf u i*cf u i:=mG;have D:(2^n*2^e:Int)*(2^n*2^e)<=((cf u i).natAbs:Int)*((cf u i).natAbs:Int):=kC H H (cY O O) O;rw [Q]at D;generalize (2:Int)^n=X at *;generalize (2:Int)^e=Y at *;have P:(Y*Y)*((X-1)*(X-1))<(Y*Y)*(X*X):=by have hy:=kC M M O3 O;refine Int.mul_lt_mul_of_pos_left ?_ O;grind
  grind
def kkR(R:Nat):Nat->Nat
 | 0=>0
 | d+1=>2*(R+1)*kkR R d+1
def Cy (L:Nat)(R:Nat){n e:Nat}(o:Tr u)(w:Tr v)(hs:Sz n s)(g:s≠[])(l:Tr s)(k:s.length<=L)(B:2*L<=R+2)(j:fcs 0 L<=2^e*2^e)(h:s=Yy u v):Sz (n+e) u:=Zv8 o w hs g k j h
theorem num13{e g:Nat}(k:e<=13)(n:g+1=e)(j:K<=600):Znn e g K:=λl o=>by have h:∀l,l<=12->(l+1)*(600*(27-2*l)+1)<=65536:=O3;refine aB (bZ _ (Nat.succ_le_succ (aY j O))) (h l O)
theorem chH{n:Nat}(F:Nat)(w:Tr xs)(B:xs≠[])(hs:Sz n xs)(hn:n<=350)(hl:xs.length<=13)(hb:(xs.length+2)*(xs.length+2)*(n+13)<=65536)(hF:xs.length<=F+1) :
  Eg F xs/\Sz (n+15) (sqf F xs)/\(sqf F xs).length<=xs.length/\∀p∈Bo F xs,Qs p<=(n+26)*25/\p.length<=xs.length:=by
 have e:=Zpp hs;have Z:=Qj w;have k:Tr (Yk xs):=Ob (Yi w);have S:=Fl e O;have Y:=Ph (Yk xs);have l:Tr (Zy (Yk xs)):=Pm k;have m1:=Qv e;have m2:=Qv S;have l0:=aD.2 B;have G:gA (Yk xs) (Zy (Yk xs))=Zs (Yk xs):=aE O;have H:gB (Yk xs) (Zy (Yk xs))=Zs (Zy (Yk xs)):=aE O;have j:eok F (gA (Yk xs) (Zy (Yk xs))) (gB (Yk xs) (Zy (Yk xs))):=by
  rw [G,H];refine(Yem (n:=n+5) (s:=5) (K:=n+11) (by rw [Zk,Zk];omega) (Yi k) (Yi l) (Ge (e.mono O)) (Ge S) ?_ O ?_ ?_ ?_).1
  .rw [Zk,Zk];omega
  .rw [Zk,Zk];exact num13 O O O
  .rw [Zk];exact aB (aY (show(Yk xs).length+1<=14 by omega) (show n+5+1<=400 by omega)) O3
  .rw [Zk];omega
 obtain⟨f1,f2,f3,f4,f5,f6⟩:=Pn F w B j;have D:=Zb9 F k l;have g:=Zgu w B;have Q:fcs 0 13<=2^15*2^15:=O5;have o:=Cy 13 24 f2 D e g k O O3 Q f4;have I:=Cy 13 24 D f2 e g k O O3 Q (by rw [Ds];exact f4);have M:=Oe f2 D f3 f5;rw [<-f4]at M;have lg:=aD.2 f5;have lq:=aD.2 f3;have mg:=Qv I;have P:(sqf F xs).length<=xs.length:=O;have N:=Fl o O;have V:=Ph (sqf F xs);have R:=Ye2 (a:=sqf F xs) (b:=Zs (Zy (sqf F xs))) (n:=n+15+5) (s:=5) (K:=n+26) (f:=F) (by rw [Zk];omega) f2 (Yi (Pm f2)) (o.mono O) (Ge N) (by rw [Zk];omega) O (by rw [Zk];exact num13 O O O) (aB (aY (show(sqf F xs).length+1<=14 by omega) (show n+15+5+1<=500 by omega)) O3) (by rw [Zk];omega);refine⟨⟨⟨λi _=>aB (Zqy e O i) O,?_,j,?_,f1⟩,λi _=>aB (Zqy o O i) O,R.1⟩,o,P,λp hp=>?_⟩
 .intro h;have h3:(max (Yk xs).length (Zy (Yk xs)).length+2)*(max (Yk xs).length (Zy (Yk xs)).length+2)*(max (Qs (Yk xs)) (Qs (Zy (Yk xs)))+8)<=(xs.length+2)*(xs.length+2)*(n+13):=aY (aY O O) O;have:=h.2.2;omega
 .unfold Fc;rw [aE O];split
  .rfl
  .have:((Yk xs).length-(Od F (Yk xs) (Zy (Yk xs))).length+1)*(Qs (Od F (Yk xs) (Zy (Yk xs)))+1)<=14*500:=aY O O;rw [aE O]
 .obtain⟨W,a2⟩:=R.2 p hp;refine⟨aB W (bZ _ ?_),O⟩;rw [Zk];omega
theorem chG{n:Nat}(F:Nat)(j:Tr xs)(e:xs≠[])(hs:Sz n xs)(h:n<=350)(k:xs.length<=11)(g:xs.length<=F+1) :
  Eg F xs/\Sz (n+15) (sqf F xs)/\(sqf F xs).length<=xs.length/\∀p∈Bo F xs,Qs p<=(n+26)*25/\p.length<=xs.length:=
 chH F j e hs h O (aB (aY (aY (show _<=13 by omega) (show _<=13 by omega)) (show _<=363 by omega)) O3) g
theorem Dv.ed{g:List Int}(h:Dv g a):Ed g a:=by obtain⟨k,s,e,h⟩:=h;refine⟨k,s,e,λx=>?_⟩;have:=Ho k 0 a s g [] (λt=>by rw [h t];omega) x;push_cast at this;grind
theorem Zht{F:Nat}(o:Tr xs)(j:xs≠[])(k:Eg F xs)(s t:Rat) :
  ∃h:Rat,0<h/\∀u v,s<=u->u<=v->v<=t->v-u<=h->Bn ((Bo F xs).map Zb) u-Bn ((Bo F xs).map Zb) v=crs (Zb (sqf F xs)) u v:=by
 have g:=k.1.2.2.1;obtain⟨f1,f2,f3,f4,f5,f6⟩:=Pn F o j g;have e:=Pm f2;by_cases w:Zy (sqf F xs)=[]
 .refine Zf7 1 f2 (Yi e) f3 k.2.2 O3 (λx=>?_) λq n a b=>?_
  .rw [<-Ma,w];show(0:Rat)=1*0;grind
  .exact Zce o j g n a (b.sim (Xt e))
 .have l:0<Yj (Zy (sqf F xs)):=by have B:=Fr e w;have D:=Pw (Zy (sqf F xs));omega
  refine Zf7 (Yj (Zy (sqf F xs)):Rat) f2 (Yi e) f3 k.2.2 (by exact_mod_cast l) (λx=>?_) λq n a b=>?_
  .rw [<-Ma,<-Ze];exact Qq x _ _ λi=>by rw [Xa,dJ,Kd]
  .exact Zce o j g n a (b.sim (Xt e))
theorem Yed{g:List Int}(F:∀x:Rat,Zb p x=Zb s x*Zb g x)(hg:Tr g)(g0:g≠[])(N:Ed g (ld p))(B:Irr q)(Q:Ed q p):Ed q s:=by
 refine bE λD=>?_;have l:=B.1;have o:=B.2.1;have P:¬Ed q (ld q):=λh=>by have Y:Ed q (Zy q):=h.congr λx=>(Ma q x).symm;have Z:=Ph q;have:=(Y.len l (Pm l) (λe=>by rw [e]at Z;simp at Z;omega)).2;omega
 obtain⟨c1,m1,k1,e1⟩:=Q;obtain⟨j,m,k2,e2⟩:=N;have S:∀k,Ed (Ku q k) g:=λk=>by
  induction k with
  | zero=>exact⟨1,g,O3,λx=>by rw [show Ku q 0=[1]from rfl,Qh];push_cast;grind⟩
  | succ k ih=>
   cases k with
   | zero=>
    have M:Ed q g:=(Du s g m1 _ B k1 (λx=>by rw [<-F x];exact e1 x)).resolve_left D;exact M.congr_l λx=>by rw [Ig,show Ku q 0=[1]from rfl,Qh];push_cast;grind
   | succ k=>
    obtain⟨c,u,kc,eu⟩:=ih;have hd:∀x:Rat,(c:Rat)*Zb (ld g) x=Zb (ld u) x*Zb (Ku q (k+1)) x+Zb u x*(((k:Rat)+1)*(Zb (Ku q k) x*Zb (ld q) x)):=λx=>by have:=Gg (g.map λa=>c*a) (lmul u (Ku q (k+1))) (λy=>by rw [Ze,Zi];exact eu y) x;rwa [El,Gv,Zkb]at this
    have hp:∀x:Rat,Zb (ld p) x=Zb (ld s) x*Zb g x+Zb s x*Zb (ld g) x:=λx=>by have:=Gg p (lmul s g) (λy=>by rw [Zi];exact F y) x;rwa [Gv]at this
    have hz:∀x:Rat,Zb (Oq ((lmul (lmul s u) (ld q)).map λa=>(j*((k:Int)+1))*a) ((lmul (Oq ((lmul s (ld u)).map λa=>j*a) ((lmul (Oq m ((ld s).map λa=>(-j)*a)) u).map λa=>(-1)*a)) q))) x=0:=λx=>by
     refine Ii (Ku q k) (λe=>?_) (λx=>?_) x
     .rw [Bu (Dn l o k).1]at e;have:=(Dn l o k).2;rw [e]at this;simp at this
     .rw [Yh,Ze,Zi,Zi,Zi,Yh,Ze,Zi,Ze,Zi,Yh,Ze];have H:=e2 x;have V:=hp x;have W:=hd x;have G:=eu x;rw [Ig]at W G;push_cast;have b1:(j:Rat)*Zb s x*(c*Zb (ld g) x)=(Zb m x-j*Zb (ld s) x)*(c*Zb g x):=by
       have:(j:Rat)*Zb s x*(c*Zb (ld g) x)=c*(j*(Zb (ld p) x-Zb (ld s) x*Zb g x)):=by rw [V];grind
       rw [this];have:(c:Rat)*(j*(Zb (ld p) x-Zb (ld s) x*Zb g x))=c*(j*Zb (ld p) x)-c*j*Zb (ld s) x*Zb g x:=O4;rw [this,H];grind
      rw [W,G]at b1;grind
    have M:=Du (lmul s u) (ld q) (Oq ((lmul (Oq m ((ld s).map λa=>(-j)*a)) u)) ((lmul s (ld u)).map λa=>(-j)*a)) (j*((k:Int)+1)) B (bA k2 O) (λx=>by have:=hz x;rw [Yh,Ze,Zi,Zi,Zi,Yh,Ze,Zi,Ze,Zi,Yh,Ze]at this;rw [Zi,Yh,Zi,Yh,Ze,Ze,Zi];push_cast at this ⊢;grind)
    have Y:=Du s u [] 1 B O3;have h7:Ed q u:=by obtain⟨n,w,R,I⟩:=M.resolve_right P;exact(Du s u w n B R (λx=>by have:=I x;rwa [Zi]at this)).resolve_left D
    obtain⟨n,w,R,I⟩:=h7;refine⟨n*c,w,bA R kc,λx=>?_⟩;have G:=eu x;have a5:=I x;rw [Ig q (k+1)];push_cast;have:(n:Rat)*c*Zb g x=n*(c*Zb g x):=O4;rw [this,G];have:(n:Rat)*(Zb u x*Zb (Ku q (k+1)) x)=(n*Zb u x)*Zb (Ku q (k+1)) x:=O4;rw [this,a5];grind
 obtain⟨H,V⟩:=Dn l o g.length;have:=((S g.length).len H hg g0).2;omega
theorem Yd1(g:d≠0):Irr [-r,d]:=by have e:Tr [-r,d]:= .inr g;refine⟨e,O7,λq j h=>?_⟩;have:=(h.len j e O7).2;simp at this ⊢;omega
theorem Zfm(r d:Int)(x:Rat):Zb [-r,d] x=(d:Rat)*x-r:=by show((-r:Int):Rat)+x*((d:Rat)+x*0)=_;push_cast;grind
theorem Yda(D:Tr p)(j:d≠0)(h:Zb p ((r:Rat)/d)=0):Ed [-r,d] p:=by
 have n:(d:Rat)≠0:=by exact_mod_cast j
 have w:Tr [-r,d]:= .inr j;obtain⟨k,s,hs⟩:=Dm p (q:=[-r,d]) O7;have g:=Nt (w.mem O7) k;generalize cf [-r,d] ([-r,d].length-1)^k=L at hs g;have l:∀x,(L:Rat)*Zb p x=Zb s x*Zb [-r,d] x+Zb (Xj p [-r,d]) x:=λx=>by have:=Ho L (-1) p s [-r,d] (Xj p [-r,d]) (λt=>by rw [hs t];omega) x;push_cast at this;grind
 have o:=Qk p (q:=[-r,d]) O7;have B:∀x,Zb (Xj p [-r,d]) x=0:=λx=>by
  have e:=l ((r:Rat)/d);rw [h,Zfm]at e
  match hr:Xj p [-r,d],o with
  | [],_=>rfl
  | [c],_=>
   rw [hr,Qh]at e;rw [Qh];have:(d:Rat)*(r/d)=r:=O4;rw [this]at e;grind
 exact⟨L,s,g,λx=>by rw [l x,B x];grind⟩
theorem Ed.root(g:d≠0)(h:Ed [-r,d] p):Zb p ((r:Rat)/d)=0:=by
 obtain⟨k,s,l,h⟩:=h;have j:(d:Rat)≠0:=by exact_mod_cast g
 have n:(k:Rat)≠0:=by exact_mod_cast l
 have e:=h ((r:Rat)/d);rw [Zfm]at e;have:(d:Rat)*(r/d)=r:=O4;rw [this]at e;grind
theorem Zxg{F:Nat}(j:Tr xs)(l:xs≠[])(g:eok F (gA (Yk xs) (Zy (Yk xs))) (gB (Yk xs) (Zy (Yk xs))))(k:d≠0)(h:Zb xs ((r:Rat)/d)=0):Zb (sqf F xs) ((r:Rat)/d)=0:=by
 obtain⟨f1,f2,f3,f4,f5,f6⟩:=Pn F j l g;have hs:Tr (Yk xs):=Ob (Yi j);have e:Tr (Zy (Yk xs)):=Pm hs;have n:Ed [-r,d] (Yk xs):=(Yda j k h).sim ((Xt j).symm.trans (Mx _).symm);have o:∀x:Rat,Zb (Yk xs) x=Zb (sqf F xs) x*Zb (Od F (Yk xs) (Zy (Yk xs))) x:=λx=>by
  have:Zb (Yk xs) x=Zb (Yy (sqf F xs) (Od F (Yk xs) (Zy (Yk xs)))) x:=by rw [<-f4]
  rw [this,Zx]
 have w:Ed (Od F (Yk xs) (Zy (Yk xs))) (ld (Yk xs)):=((Zak hs e g).2.ed).congr λx=>Ma _ x;exact(Yed o (Zb9 _ hs e) f5 w (Yd1 k) n).root k
def Away(s t:Rat)(f:Rat->Rat):Prop:=∃δ:Rat,0<δ/\∀x,s<=x->x<=t->δ<=f x\/f x<=-δ
theorem Away.mul{s:Rat}{f g h:Rat->Rat}(F:Away s t f)(G:Away s t g)(e:∀x,h x=f x*g x):Away s t h:=by
 obtain⟨a,l,n⟩:=F;obtain⟨b,o,w⟩:=G;refine⟨a*b,aV l o,λx j k=>?_⟩;rw [e x];rcases n x j k with B|B<;>rcases w x j k with D|D
 .left;have:=aC (a:=f x-a) (b:=g x) O4 O4;have:=aC (a:=a) (b:=g x-b) O4 O4;grind
 .right;have:=aC (a:=f x-a) (b:=- g x) O4 O4;have:=aC (a:=a) (b:=- g x-b) O4 O4;grind
 .right;have:=aC (a:=- f x-a) (b:=g x) O4 O4;have:=aC (a:=a) (b:=g x-b) O4 O4;grind
 .left;have:=aC (a:=- f x-a) (b:=- g x) O4 O4;have:=aC (a:=a) (b:=- g x-b) O4 O4;grind
theorem Away.lin{s:Rat}(j:0<d)(h:(r:Rat)<d*s\/(d:Rat)*t<r):Away s t (Zb [-r,d]):=by
 have k:(0:Rat)<(d:Rat):=by exact_mod_cast j
 rcases h with h|h
 .refine⟨d*s-r,O4,λx e g=> .inl ?_⟩;rw [Zfm];have:=aC (a:=(d:Rat)) (b:=x-s) O4 O4;grind
 .refine⟨r-d*t,O4,λx e g=> .inr ?_⟩;rw [Zfm];have:=aC (a:=(d:Rat)) (b:=t-x) O4 O4;grind
theorem Away.sq(s t:Rat):Away s t (Zb [1,0,1]):=⟨1,O3,λx _ _=>by
 left;show(1:Rat)<=((1:Int):Rat)+x*(((0:Int):Rat)+x*(((1:Int):Rat)+x*0));have:0<=x*x:=by
  rcases(show 0<=x\/x<0 by grind)with h|h
  .exact aC h h
  .have:=aC (a:=-x) (b:=-x) O4 O4;grind
 push_cast;grind⟩
theorem Away.one(s t:Rat):Away s t (Zb [1]):=⟨1,O3,λx _ _=>by left;rw [Qh];exact gG⟩
def cntP(P:Int->Prop)[DecidablePred P](m:Int):Nat->Int
 | 0=>0
 | n+1=>cntP P m n+(if P (m+n+1)then 1 else 0)
def eB(K C:Nat):Nat->Nat
 | 0=>0
 | n+1=>C+K*eB K C n
def eL(K C:Nat):Nat->Nat
 | 0=>0
 | n+1=>K*eL K C n+eB K C n
def eM(K C:Nat):Nat->Nat
 | 0=>0
 | n+1=>eL K C n+K*eM K C n
theorem Kn{a b:Nat}(h:a<=b):(a:Rat)<=(b:Rat):=by exact_mod_cast h
theorem Ybm{C:Nat}(h:c.natAbs<=C):-(C:Rat)<=(c:Rat)/\(c:Rat)<=(C:Rat):=by
 have e:((-(C:Int):Int):Rat)<=(c:Rat):=by exact_mod_cast (show -(C:Int)<=c by omega)
 have g:(c:Rat)<=(((C:Nat):Int):Rat):=by exact_mod_cast (show c<=(C:Int) by omega)
 push_cast at e g;constructor<;>grind
def Zlt{C:Nat}(h:∀i,(cf (c::p) i).natAbs<=C):c.natAbs<=C/\∀i,(cf p i).natAbs<=C:=⟨h 0,λi=>h (i+1)⟩
theorem Zka{K C:Nat} : ∀(n:Nat) (p:List Int),p.length<=n->(∀i,(cf p i).natAbs<=C)->∀x:Rat,-(K:Rat)<=x->x<=(K:Rat)->-(eB K C n:Rat)<=Zb p x/\Zb p x<=(eB K C n:Rat)
 | n,[],_,_,x,_,_=>by have h:(0:Rat)<=(eB K C n:Rat):=Kn (aZ _);show -(eB K C n:Rat)<=0/\(0:Rat)<=(eB K C n:Rat);constructor<;>grind
 | 0,c::p,hl,_,_,_,_=>absurd hl O7
 | n+1,c::p,hl,hc,x,h1,h2=>by
  obtain⟨g,j⟩:=Zlt hc;obtain⟨k,l⟩:=Zka n p (by simpa using hl) j x h1 h2;obtain⟨w,B⟩:=Ybm g;have o:(0:Rat)<=(K:Rat):=Kn (aZ _);obtain⟨f1,f2⟩:=Bi h1 h2 k l o;have e:((eB K C (n+1):Nat):Rat)=(C:Rat)+(K:Rat)*(eB K C n:Rat):=by show((C+K*eB K C n:Nat):Rat)=_;push_cast;rfl
  rw [e,show Zb (c::p) x=(c:Rat)+x*Zb p x from rfl];constructor<;>grind
theorem Zj9{K C:Nat} : ∀(n:Nat) (p:List Int),p.length<=n->(∀i,(cf p i).natAbs<=C)->Lip (-(K:Rat)) (K:Rat) (eL K C n:Rat) (Zb p)
 | n,[],_,_,x,y,_,k,_=>by have h:(0:Rat)<=(eL K C n:Rat):=Kn (aZ _);have:=aC (a:=(eL K C n:Rat)) (b:=y-x) h O4;show(0:Rat)-0<=_/\(0:Rat)-0<=_;constructor<;>grind
 | 0,c::p,hl,_,_,_,_,_,_=>absurd hl O7
 | n+1,c::p,hl,hc,x,y,h1,k,h2=>by
  obtain⟨o,j⟩:=Zlt hc;obtain⟨w,B⟩:=Zj9 n p (by simpa using hl) j x y h1 k h2;obtain⟨D,F⟩:=Zka n p (by simpa using hl) j y O4 h2;have l:(0:Rat)<=(K:Rat):=Kn (aZ _);obtain⟨f1,f2⟩:=Bi (q:=x) (g:=Zb p x-Zb p y) (e:=(eL K C n:Rat)*(y-x)) h1 O4 O4 O4 l;have G:=aC (a:=(eB K C n:Rat)-Zb p y) (b:=y-x) O4 O4;have H:=aC (a:=(eB K C n:Rat)+Zb p y) (b:=y-x) O4 O4;have e:((eL K C (n+1):Nat):Rat)=(K:Rat)*(eL K C n:Rat)+(eB K C n:Rat):=by show((K*eL K C n+eB K C n:Nat):Rat)=_;push_cast;rfl
  rw [e,show Zb (c::p) x=(c:Rat)+x*Zb p x from rfl,show Zb (c::p) y=(c:Rat)+y*Zb p y from rfl];constructor<;>grind
theorem Zx5{K C:Nat} : ∀(n:Nat) (p:List Int),p.length<=n->(∀i,(cf p i).natAbs<=C)->Tay (-(K:Rat)) (K:Rat) (eM K C n:Rat) p
 | n,[],_,_,x,y,_,j,_=>by have h:(0:Rat)<=(eM K C n:Rat):=Kn (aZ _);have B:=aC (a:=y-x) (b:=y-x) O4 O4;have:=aC h B;show -((eM K C n:Rat)*(y-x)*(y-x))<=(0:Rat)-0-(y-x)*0/\(0:Rat)-0-(y-x)*0<=(eM K C n:Rat)*(y-x)*(y-x);constructor<;>grind
 | 0,c::p,hl,_,_,_,_,_,_=>absurd hl O7
 | n+1,c::p,hl,hc,x,y,hs,j,ht=>by
  obtain⟨F,k⟩:=Zlt hc;obtain⟨o,w⟩:=Zx5 n p (by simpa using hl) k x y hs j ht;obtain⟨G,H⟩:=Zj9 n p (by simpa using hl) k x y hs j ht;have D:(0:Rat)<=(K:Rat):=Kn (aZ _);have l:0<=y-x:=O4;obtain⟨f1,f2⟩:=Bi (q:=x) (Q:=(K:Rat)) (g:=Zb p y-Zb p x-(y-x)*Zb (ld p) x) (e:=(eM K C n:Rat)*(y-x)*(y-x)) hs O4 o w D;have I:=aC (a:=y-x) (b:=(eL K C n:Rat)*(y-x)-(Zb p y-Zb p x)) l O4;have M:=aC (a:=y-x) (b:=(eL K C n:Rat)*(y-x)+(Zb p y-Zb p x)) l O4;have e:((eM K C (n+1):Nat):Rat)=(eL K C n:Rat)+(K:Rat)*(eM K C n:Rat):=by show((eL K C n+K*eM K C n:Nat):Rat)=_;push_cast;rfl
  rw [e,Zcn,show Zb (c::p) y=(c:Rat)+y*Zb p y from rfl,show Zb (c::p) x=(c:Rat)+x*Zb p x from rfl];constructor<;>grind
theorem Zq1{A:Nat}(w:Tr a)(hb:Tr b)(Y:2<=a.length)(lb:b.length+1=a.length)(hA:0<A)(na:∀i,(cf a i).natAbs<=A)(nb:∀i,(cf b i).natAbs<=A)(hc:∀q,Tr q->Ed q a->Ed q b->q.length<=1) :
  ∃(U V:List Int) (c:Int),c≠0/\U.length+2=a.length/\V.length+1=a.length/\(∀i,(cf U i).natAbs<=(2*(2*a.length-3)*A)^(2*a.length-4))/\(∀i,(cf V i).natAbs<=(2*(2*a.length-3)*A)^(2*a.length-4))/\
   ∀x,(c:Rat)=Zb U x*Zb a x+Zb V x*Zb b x:=by
 obtain⟨U,V,lU,lV,k,B,D,hz⟩:=Zes a b 1 (p:=a.length-2) (q:=a.length-1) hA na nb O O O;have l:¬(tzl U=[]/\tzl V=[]):=λ⟨h1,h2⟩=>by
  rcases k with⟨i,hi⟩|⟨i,hi⟩
  .exact hi ((Nn U).1 h1 i)
  .exact hi ((Nn V).1 h2 i)
 clear k;rw [show a.length-2+(a.length-1)=2*a.length-3 by omega]at B D;rw [show 2*a.length-3-1=2*a.length-4 by omega]at B D;have j:a≠[]:=λe=>by rw [e]at Y;simp at Y
 have M:∀i,cf (Oq (lmul U a) (lmul V b)) i=(ps U*ps a).c i+(ps V*ps b).c i:=λi=>by rw [Nh,Iv,Iv,PS.mul_c,PS.mul_c];rfl
 have I:∀t,Zb (Oq (lmul U a) (lmul V b)) t=Zb U t*Zb a t+Zb V t*Zb b t:=λt=>by rw [Yh,Zi,Zi]
 generalize Oq (lmul U a) (lmul V b)=R at M I;have W:∀t,Zb R t=(cf R 0:Rat):=λt=>by
  rw [<-Qh (cf R 0) t];refine Qq t _ _ λi=>?_
  match i with
  | 0=>rfl
  | i+1=>rw [M,hz (i+1) O,Zv O7]
 refine⟨U,V,cf R 0,λh0=>?_,O,O,B,D,λx=>by rw [<-I,W]⟩;have n:∀t,Zb U t*Zb a t+Zb V t*Zb b t=0:=λt=>by rw [<-I,W,h0];rfl
 obtain⟨g,P,Q,h,N,Z,F⟩:=Zhw _ a b w hb (aH _);have hl:=hc g h N Z;have hg:=(N.len h w j).1;have o:tzl V=[]:=by
  refine bE λo=>?_
  match g,hg,hl,h,F with
  | [c],_,_,h,F=>
   have H:c≠0:=h.mem O7;have hd:Ed a (tzl V):=⟨c,Oq (lmul P V) ((lmul Q U).map λz=>(-1)*z),H,λx=>by have S:=F x;rw [Qh]at S;rw [Oj,Yh,Ze,Zi,Zi,S];have:=n x;have e:Zb V x*Zb b x=- (Zb U x*Zb a x):=O4;have:(Zb P x*Zb a x+Zb Q x*Zb b x)*Zb V x=Zb P x*Zb V x*Zb a x+Zb Q x*(Zb V x*Zb b x):=O4;rw [this,e];push_cast;grind⟩
   have:=(hd.len w (Qd V) o).2;have:=Ic V;omega
  | c::d::r,_,h9,_,_=>simp at h9
 have G:tzl U=[]:=by
  refine bE λG=>?_;have:∀t,Zb a t=0:=Ii U G λt=>by have:=n t;rw [Ek o]at this;grind
  exact w.mem j (Zr7 this _)
 exact l ⟨G,o⟩
def Zr1(K A n e:Nat):Bool:=
 let X:=(2*(2*n-3)*A)^(2*n-4);let W:=eB K X (n-1)
 Nat.ble (2*(2*W+1)*(2*eL K A n)) (2^e) && Nat.ble (2*(2*W+1)*eM K A n) (2^e)
theorem big_or  {A n e:Nat} (hK:0<K) (Y:0<A) (Z:Tr a) (hb:Tr b) (hn:a.length=n) (h2:2<=n) (lb:b.length+1=a.length) (na:∀i,(cf a i).natAbs<=A) (nb:∀i,(cf b i).natAbs<=A) (hc:∀q,Tr q->Ed q a->Ed q b->q.length<=1)
  (x:Rat) (B:-(K:Rat)<=x) (D:x<=(K:Rat)):Big (1/((2*eB K ((2*(2*n-3)*A)^(2*n-4)) (n-1)+1:Nat):Rat)) x (Zb a)\/Big (1/((2*eB K ((2*(2*n-3)*A)^(2*n-4)) (n-1)+1:Nat):Rat)) x (Zb b):=by
 obtain⟨U,V,c,S,lU,lV,o,w,k⟩:=Zq1 Z hb O lb Y na nb hc;rw [hn]at o w;generalize (2*(2*n-3)*A)^(2*n-4)=X at *;obtain⟨u1,u2⟩:=Zka (n-1) U O o x B D;obtain⟨v1,v2⟩:=Zka (n-1) V O w x B D;generalize eB K X (n-1)=W at *;have G:(0:Rat)<=(W:Rat):=Kn (aZ _);have F:(0:Rat)<((2*W+1:Nat):Rat):=by
   have:(((0:Nat)):Rat)<((2*W+1:Nat):Rat):=by exact_mod_cast nA _
   exact this
 have g:((2*W+1:Nat):Rat)=2*(W:Rat)+1:=by push_cast;rfl
 generalize H:1/((2*W+1:Nat):Rat)=ε;have l:ε*(2*(W:Rat)+1)=1:=by rw [<-H,g];rw [g]at F;grind
 have a0:0<=ε:=by rw [<-H];have:=fH.2 F;rw [iC];grind
 by_cases I:Big ε x (Zb a)
 .exact .inl I
 .by_cases M:Big ε x (Zb b)
  .exact .inr M
  .exfalso;obtain⟨N,P⟩:=Zao I;obtain⟨Q,R⟩:=Zao M;obtain⟨q1,q2⟩:=Bi u1 u2 N P G;obtain⟨r1,r2⟩:=Bi v1 v2 Q R G;have h4:=k x;have j:(c:Rat)<=-1\/1<=(c:Rat):=by
    rcases mN S with h|h
    .left;have:((c:Int):Rat)<=((-1:Int):Rat):=by exact_mod_cast (show c<=-1 by omega)
     rwa [show(((-1:Int)):Rat)=-1 from rfl]at this
    .right;have:1<=c:=O;exact_mod_cast this
   have a3:0<ε:=by
    rcases(show ε=0\/0<ε by grind)with h|h
    .rw [h]at l;grind
    .exact h
   rcases j with j|j<;>grind
theorem two_pow_pos(e:Nat):(0:Rat)<((2^e:Nat):Rat):=by have:0<2^e:=bK O3;exact_mod_cast this
theorem Yfd  {F A n e:Nat} (hx:Tr xs) (h0:xs≠[]) (hC:Eg F xs) (hK:0<K) (hA:0<A) (hn:(sqf F xs).length=n) (h2:2<=n) (Y:∀i,(cf (sqf F xs) i).natAbs<=A) (nb:∀i,(cf (Zy (sqf F xs)) i).natAbs<=A) (hs:Zr1 K A n e=true)
  {u v:Rat} (h1:-(K:Rat)<=u) (V:u<=v) (h3:v<=(K:Rat)) (hh:v-u<=1/((2^e:Nat):Rat)) :
  Bn ((Bo F xs).map Zb) u-Bn ((Bo F xs).map Zb) v=crs (Zb (sqf F xs)) u v:=by
 have G:=hC.1.2.2.1;obtain⟨f1,f2,f3,f4,f5,f6⟩:=Pn F hx h0 G;have g:=Pm f2;have B:=Ph (sqf F xs);have hd:Zy (sqf F xs)≠[]:=λe=>by rw [e]at B;simp at B;omega
 have S:1<=Yj (Zy (sqf F xs)):=by have h1:=Fr g hd;have h2:=Pw (Zy (sqf F xs));omega
 have a1:(1:Rat)<=(Yj (Zy (sqf F xs)):Rat):=by exact_mod_cast S
 have H:∀i,(cf (Zs (Zy (sqf F xs))) i).natAbs<=A:=λi=>by have h5:=Kd (Zy (sqf F xs)) i;have h6:=nb i;rw [<-h5,cC]at h6;have:(cf (Zs (Zy (sqf F xs))) i).natAbs*1<=(cf (Zs (Zy (sqf F xs))) i).natAbs*(Yj (Zy (sqf F xs))).natAbs:=bZ _ O;omega
 have l:∀q,Tr q->Ed q (sqf F xs)->Ed q (Zs (Zy (sqf F xs)))->q.length<=1:=λq hq a b=>Zce hx h0 G hq a (b.sim (Xt g));have R:(Zs (Zy (sqf F xs))).length+1=(sqf F xs).length:=by rw [Zk];omega
 have j:=big_or (e:=e) hK hA f2 (Yi g) hn h2 R Y H l;unfold Zr1 at hs;simp only [aL,Nat.ble_eq]at hs;obtain⟨s1,s2⟩:=hs;generalize (2*(2*n-3)*A)^(2*n-4)=X at *;generalize eB K X (n-1)=W at *;have hD:(0:Rat)<((2*W+1:Nat):Rat):=by
   have:(((0:Nat)):Rat)<((2*W+1:Nat):Rat):=by exact_mod_cast nA _
   exact this
 have hP:=two_pow_pos e;have Z:=Kn s1;have a0:=Kn s2;have c1:((2*(2*W+1)*(2*eL K A n):Nat):Rat)=2*((2*W+1:Nat):Rat)*(2*(eL K A n:Rat)):=by push_cast;rfl
 have c2:((2*(2*W+1)*eM K A n:Nat):Rat)=2*((2*W+1:Nat):Rat)*(eM K A n:Rat):=by push_cast;rfl
 rw [c1]at Z;rw [c2]at a0;have hi:=fH.2 hD;have Q:=fH.2 hP;have o:((2*W+1:Nat):Rat)*((2*W+1:Nat):Rat)⁻¹=1:=O4;have w:((2^e:Nat):Rat)*((2^e:Nat):Rat)⁻¹=1:=O4;rw [iC,nJ]at hh;simp only [iC,nJ]at j;generalize ((2*W+1:Nat):Rat)=D at *;generalize ((2^e:Nat):Rat)=P at *;have k:(0:Rat)<=(eL K A n:Rat):=Kn (aZ _);have N:(0:Rat)<=(eM K A n:Rat):=Kn (aZ _);refine Zep (s:=-(K:Rat)) (t:=(K:Rat)) (κ:=(Yj (Zy (sqf F xs)):Rat)) (ε:=D⁻¹) (L:=(eL K A n:Rat)) (L':=(eL K A n:Rat)) (M:=(eM K A n:Rat)) (h:=P⁻¹) f2 (Yi g) hC.2.2 O4 (λx=>?_) hi j k (Zj9 n _ O Y) k (Zj9 n _ O H) N (Zx5 n _ O Y) Q ?_ ?_ h1 V h3 hh
 .rw [<-Ma,<-Ze];exact Qq x _ _ λi=>by rw [Xa,dJ,Kd]
 .-- P⁻¹ * (2 L) ≤ D⁻¹ / 2
  have t1:=aC (a:=P⁻¹*D⁻¹) (b:=P-2*D*(2*(eL K A n:Rat))) (by have:=aV Q hi;grind) O4;have I:P⁻¹*D⁻¹*(P-2*D*(2*(eL K A n:Rat)))=D⁻¹*(P*P⁻¹)-2*P⁻¹*(D*D⁻¹)*(2*(eL K A n:Rat)):=O4;rw [I,o,w]at t1;grind
 .have t1:=aC (a:=P⁻¹*D⁻¹) (b:=P-2*D*(eM K A n:Rat)) (by have:=aV Q hi;grind) O4;have I:P⁻¹*D⁻¹*(P-2*D*(eM K A n:Rat))=D⁻¹*(P*P⁻¹)-2*P⁻¹*(D*D⁻¹)*(eM K A n:Rat):=O4;rw [I,o,w]at t1;have t2:=aC (a:=(Yj (Zy (sqf F xs)):Rat)-1) (b:=D⁻¹) O4 O4;grind
theorem Zhu{F:Nat}(R:Tr xs)(I:xs≠[])(P:Eg F xs){s:Rat}(o:s<=t):Bn ((Bo F xs).map Zb) t<=Bn ((Bo F xs).map Zb) s:=by
 obtain⟨h,M,B⟩:=Zht R I P s t;have G:∀f u v,0<=crs f u v:=λf u v=>by unfold crs;split<;>decide
 have w:∀n:Nat,∀y,s<=y->y<=t->y-s<=(n:Rat)*h->Bn ((Bo F xs).map Zb) y<=Bn ((Bo F xs).map Zb) s:=λn=>by
  induction n with
  | zero=>
    intro y e g j;have:y=s:=by simp at j;grind
    rw [this];exact fG _
  | succ n H=>
   intro y e g j;have D:((n+1:Nat):Rat)*h=(n:Rat)*h+h:=by push_cast;grind
   rcases(show y-s<=(n:Rat)*h\/(n:Rat)*h<y-s by grind)with k|k
   .exact H y e g k
   .have N:(0:Rat)<=(n:Rat)*h:=aC (by exact_mod_cast aZ n) O4;rcases(show s<=y-h\/y-h<s by grind)with l|l
    .have a:=H (y-h) l O4 O4;have b:=B (y-h) y l O4 g O4;have c:=G (Zb (sqf F xs)) (y-h) y;omega
    .have b:=B s y O4 e g O4;have c:=G (Zb (sqf F xs)) s y;omega
 have e:∃n:Nat,t-s<=(n:Rat)*h:=by
  have g:0<h⁻¹:=fH.2 M;refine⟨((t-s)*h⁻¹).ceil.toNat,?_⟩;have j:=@nH ((t-s)*h⁻¹);have D:((((t-s)*h⁻¹).ceil:Int):Rat)<=((((t-s)*h⁻¹).ceil.toNat:Nat):Rat):=by have:((t-s)*h⁻¹).ceil<=((((t-s)*h⁻¹).ceil.toNat:Nat):Int):=kN _;exact_mod_cast this
  have k:=cT (mZ j D) (show 0<=h by grind);have N:(t-s)*h⁻¹*h=t-s:=O4;grind
 obtain⟨n,Q⟩:=e;exact w n t o O4 Q
end Go.Sky

