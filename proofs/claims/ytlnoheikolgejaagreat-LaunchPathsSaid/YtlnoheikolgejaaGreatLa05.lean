/- Rules, arithmetic and contracts: part 6. No conditions but those that each theorem names. -/
import Derived.Test.YtlnoheikolgejaaGreatLa04
set_option linter.all false
namespace Go.Sky
variable{xs x p q a b s u y v z:List Int}{ls:List (List Int)}{f m i K:Nat}{c d r:Int}{t:Rat}
theorem Ygs{F:Nat}(o:Tr xs)(l:xs≠[])(j:eok F (gA (Xa xs) (Ys (Xa xs))) (gB (Xa xs) (Ys (Xa xs)))):∃g:List Int,∀x,Zb xs x=Zb (sqf F xs) x*Zb g x:=by
 obtain⟨f1,f2,f3,f4,f5,f6⟩:=Pu F o l j;have h:∃k:Int,∀i,cf xs i=k*cf (Xa xs) i:=by
  unfold Xa Ku;split
  .refine⟨-Xb xs,λi=>?_⟩;rw [Xx,<-Hf xs i];grind
  .refine⟨Xb xs,λi=>?_⟩;rw [<-Hf xs i];grind
 obtain⟨k,h⟩:=h;refine⟨(Om F (Xa xs) (Ys (Xa xs))).map λa=>k*a,λx=>?_⟩;have n:Zb (Xa xs) x=Zb (sqf F xs) x*Zb (Om F (Xa xs) (Ys (Xa xs))) x:=by
  have:=Fj 1 0 (Xa xs) (sqf F xs) (Om F (Xa xs) (Ys (Xa xs))) [] (λt=>by have e:=Ki (sqf F xs) (Om F (Xa xs) (Ys (Xa xs))) t;rw [<-f4]at e;rw [e];omega) x
  push_cast at this;grind
 have e:Zb xs x=Zb ((Xa xs).map λa=>k*a) x:=Pv x _ _ λi=>by rw [Xo];exact h i
 rw [e,Zg,Zg,n];grind
theorem Yfo{x:Rat}{f:List Int->Int}(h:∀p∈ls,Gn (Zb p x)=f p):vat (ls.map Zb) x=chg (ls.map f):=by unfold vat;rw [kZ];exact aL chg (kV λp e=>h p e)
def Yi0{F:Nat}{X Y:Int}(e:0<Y):cnt F xs X Y=vat ((chn F xs).map Zb) ((X:Rat)/(Y:Rat)):=
 (Yfo λp _=>(Zm5 e p).symm).symm
theorem Zvd(t:Int):∀p:List Int,Zb p (t:Rat)=((ev1 p t:Int):Rat)
 | []=>rfl
 | c::p=>by have h:=Zvd t p;rw [show Zb (c::p) (t:Rat)=(c:Rat)+(t:Rat)*Zb p (t:Rat)from rfl,show ev1 (c::p) t=c+t*ev1 p t from rfl,h];push_cast;rfl
theorem Zl6(h:∀x:Rat,Zb p x=0)(i:Nat):cf p i=0:=by
 by_cases j:cf p i=0
 .exact j
 .exfalso;have:=Zow p.length p ((List.range p.length).map λn:Nat=>(n:Int)) rfl ⟨i,j⟩ (by
   refine List.Pairwise.map _ (λa b g=>?_) List.nodup_range;intro e;exact g (by exact_mod_cast e)) (λt l=>by
   have k:=Zvd t p;rw [h]at k;exact_mod_cast k.symm)
  simp at this
theorem Ox(h:∀x:Rat,Zb p x=Zb q x)(i:Nat):cf p i=cf q i:=by have e:=Zl6 (p:=Oo p (q.map λa=>(-1)*a)) (λx=>by rw [Yw,Zg,h x];push_cast;grind) i;rw [Nl,Xo]at e;omega
def Nh(p:List Int)(x:Rat):Zb (tzl p) x=Zb p x:=Pv x _ _ λi=>Lt p i
theorem Yp(p q:List Int)(x:Rat):Zb (Qc p q) x=Zb p x*Zb q x:=by rw [<-Zq];exact Pv x _ _ λi=>by rw [Ki,Gk,PS.mul_c];rfl
theorem Qs(c:Int)(x:Rat):Zb [c] x=(c:Rat):=by show(c:Rat)+x*0=c;grind
def ld:List Int->List Int
 | []=>[]
 | _::p=>Oo p (0::ld p)
theorem Zd3(c:Int)(p:List Int)(x:Rat):Zb (ld (c::p)) x=Zb p x+x*Zb (ld p) x:=by rw [show ld (c::p)=Oo p (0::ld p)from rfl,Yw];show Zb p x+(((0:Int):Rat)+x*Zb (ld p) x)=_;push_cast;grind
theorem Ze0:∀(p:List Int) (i:Nat),cf (ld p) i=cf p (i+1)*((i:Int)+1)
 | [],i=>by rw [Zbi,show ld []=[]from rfl,Zbi,cY]
 | c::p,0=>by rw [show ld (c::p)=Oo p (0::ld p)from rfl,Nl];show cf p 0+0=cf p 0*_;simp
 | c::p,i+1=>by have h:=Ze0 p i;rw [show ld (c::p)=Oo p (0::ld p)from rfl,Nl];show cf p (i+1)+cf (ld p) i=cf p (i+1)*_;rw [h];push_cast;grind
theorem Mz(p:List Int)(x:Rat):Zb (Ys p) x=Zb (ld p) x:=Pv x _ _ λi=>by rw [Zez,Ze0]
theorem Fu (p:List Int)(q:List Int)(h:∀x,Zb p x=Zb q x)(x:Rat):Zb (ld p) x=Zb (ld q) x:=Pv x _ _ λi=>by rw [Ze0,Ze0,Ox h]
theorem Ygx(p q:List Int)(x:Rat):Zb (ld (Oo p q)) x=Zb (ld p) x+Zb (ld q) x:=by rw [<-Yw];exact Pv x _ _ λi=>by rw [Ze0,Nl,Nl,Ze0,Ze0];grind
theorem Cj(c:Int)(p:List Int)(x:Rat):Zb (ld (p.map λa=>c*a)) x=(c:Rat)*Zb (ld p) x:=by rw [<-Zg];exact Pv x _ _ λi=>by rw [Ze0,Xo,Xo,Ze0];grind
theorem Er(x:Rat):∀p q:List Int,Zb (ld (lmul p q)) x=Zb (ld p) x*Zb q x+Zb p x*Zb (ld q) x
 | [],q=>by show(0:Rat)=0*Zb q x+0*Zb (ld q) x;grind
 | c::p,q=>by have h:=Er x p q;rw [show lmul (c::p) q=Oo (q.map λa=>c*a) (0::lmul p q)from rfl,Ygx,Cj,Zd3,Zd3,h,Zq,show Zb (c::p) x=(c:Rat)+x*Zb p x from rfl];grind
def Ed(g a:List Int):Prop:=∃(k:Int) (s:List Int),k≠0/\∀x:Rat,(k:Rat)*Zb a x=Zb s x*Zb g x
theorem Ed.refl(a:List Int):Ed a a:=⟨1,[1],O3,λx=>by rw [Qs]⟩
theorem Ed.nil(g:List Int):Ed g []:=⟨1,[],O3,λx=>by show(((1:Int)):Rat)*0=0*Zb g x;grind⟩
theorem Ed.trans{c:List Int} : Ed a b->Ed b c->Ed a c:=λ⟨k,s,j,h⟩ ⟨m,u,l,e⟩=>
 ⟨k*m,lmul u s,bC j l,λx=>by have n:=h x;have g:=e x;rw [Zq];push_cast;have:(k:Rat)*m*Zb c x=k*(m*Zb c x):=O4;rw [this,g];grind⟩
theorem Ed.congr{g:List Int}(h:Ed g a)(e:∀x,Zb a x=Zb b x):Ed g b:=by obtain⟨k,s,j,h⟩:=h;exact⟨k,s,j,λx=>by rw [<-e x];exact h x⟩
theorem Ed.congr_l{g j:List Int}(h:Ed g a)(e:∀x,Zb g x=Zb j x):Ed j a:=by obtain⟨k,s,l,h⟩:=h;exact⟨k,s,l,λx=>by rw [<-e x];exact h x⟩
theorem Ed.sim{g:List Int}(h:Ed g a)(e:Sim a b):Ed g b:=by
 obtain⟨k,s,o,h⟩:=h;obtain⟨m,n,B,w,e⟩:=e;refine⟨k*n,s.map λc=>m*c,bC o w,λx=>?_⟩;have j:Zb (a.map λc=>m*c) x=Zb (b.map λc=>n*c) x:=Pv x _ _ λi=>by rw [Xo,Xo,e]
 rw [Zg,Zg]at j;rw [Zg];have:=h x;push_cast;have l:(k:Rat)*n*Zb b x=k*(n*Zb b x):=O4;rw [l,<-j];grind
theorem Ed.lin{g c:List Int}(w:Ed g a)(B:Ed g b)(s:List Int)(L:Int)(o:L≠0)(h:∀x,(L:Rat)*Zb c x=Zb s x*Zb a x+Zb b x):Ed g c:=by obtain⟨k,u,D,j⟩:=w;obtain⟨m,v,F,l⟩:=B;refine⟨L*(k*m),Oo ((lmul s u).map λc=>m*c) (v.map λc=>k*c),bC o (bC D F),λx=>?_⟩;have j:=j x;have l:=l x;have h:=h x;rw [Yw,Zg,Zg,Zq];push_cast;have e:(L:Rat)*(k*m)*Zb c x=k*m*(L*Zb c x):=O4;rw [e,h];have n:(k:Rat)*m*(Zb s x*Zb a x+Zb b x)=m*Zb s x*(k*Zb a x)+k*(m*Zb b x):=O4;rw [n,j,l];grind
theorem Zsl{g:List Int}{k:Int}(M:k≠0)(I:Tr g)(H:Tr a)(G:a≠[])(h:∀x:Rat,(k:Rat)*Zb a x=Zb s x*Zb g x):g≠[]/\tzl s≠[]/\(tzl s).length+g.length<=a.length+1:=by
 have o:∀i,k*cf a i=(ps (tzl s)*ps g).c i:=λi=>by have j:=Ox (p:=a.map λc=>k*c) (q:=lmul (tzl s) g) (λx=>by rw [Zg,Zq,Nh];exact h x) i;rw [Xo,Gk]at j;rw [j,PS.mul_c];rfl
 have F:∀i,k*cf a i=0->cf a i=0:=λi hi=>(eU.1 hi).resolve_left M;have l:=H.mem G;have j:tzl s≠[]:=λe=>l (F _ (by rw [o,e,Mr (λt=>Yl (bB _))]));have n:g≠[]:=λe=>l (F _ (by rw [o,e,PS.mul_comm',Mr (λt=>Yl (bB _))]));refine⟨n,j,?_⟩;have N:=aG.2 j;have P:=aG.2 n;have B:=Du g (p:=tzl s) (a:=(tzl s).length-1) (b:=g.length-1) (λi hi=>Yl O) (λi hi=>Yl O);rw [<-o]at B;have w:=bC ((Qa s).mem j) (I.mem n);rcases bE ((tzl s).length-1+(g.length-1)) a.length with D|D
 .omega
 .rw [Yl D,dS]at B;exact absurd B.symm w
theorem Ed.len{g:List Int}(h:Ed g a)(o:Tr g)(n:Tr a)(l:a≠[]):g≠[]/\g.length<=a.length:=by obtain⟨k,s,w,h⟩:=h;obtain⟨e,j,B⟩:=Zsl w o n l h;have:=aG.2 j;exact⟨e,O⟩
theorem Ed.same{g:List Int}(h:Ed g a)(D:Tr g)(w:Tr a)(o:a≠[])(H:g.length=a.length):Ed a g:=by
 obtain⟨k,s,F,h⟩:=h;obtain⟨G,j,n⟩:=Zsl F D w o h;have e:=aG.2 j
 match hs:tzl s,e,n with
 | [c],_,_=>
  have B:c≠0:=by have:=(Qa s).mem j;rw [hs]at this;exact this
  refine⟨c,[k],B,λx=>?_⟩;have l:=h x;rw [<-Nh s,hs,Qs]at l;rw [Qs];exact l.symm
 | c::d::r,_,h9=>simp at h9;omega
theorem Zjp:∀(n:Nat) (a b:List Int),Tr a->Tr b->b.length<=n->∃g A B:List Int,Tr g/\Ed g a/\Ed g b/\∀x,Zb g x=Zb A x*Zb a x+Zb B x*Zb b x
 | n,a,[],j,l,_=>⟨a,[1],[],j,Ed.refl a,Ed.nil a,λx=>by rw [Qs];show _=_+0*(0:Rat);push_cast;grind⟩
 | 0,a,c::r,_,_,hl=>absurd hl O7
 | n+1,a,c::b',j,l,hl=>by
  have h:(c::b')≠[]:=O7;generalize c::b'=b at *;obtain⟨k,s,hs⟩:=Bm a h;have w:=Mt (l.mem h) k;generalize cf b (b.length-1)^k=L at hs w;have I:=Qz a h;obtain⟨g,A,B,F,o,G,H⟩:=Zjp n b (Xs a b) l (Lx _ j) O;have D:∀x,(L:Rat)*Zb a x=Zb s x*Zb b x+Zb (Xs a b) x:=λx=>by have:=Fj L (-1) a s b (Xs a b) (λt=>by rw [hs t];omega) x;push_cast at this;grind
  refine⟨g,B.map λc=>L*c,Oo A ((lmul B s).map λc=>(-1)*c),F,o.lin G s L w D,o,λx=>?_⟩;rw [Zg,Yw,Zg,Zq,H x];have:=D x;have e:Zb (Xs a b) x=L*Zb a x-Zb s x*Zb b x:=O4;rw [e];push_cast;grind
def Irr(q:List Int):Prop:=Tr q/\2<=q.length/\∀d,Tr d->Ed d q->d.length<=1\/d.length=q.length
theorem Zb3(h:2<=q.length):q≠[]:=λe=>by rw [e]at h;simp at h
theorem Yb7:∀(n:Nat) (q:List Int),q.length<=n->Tr q->2<=q.length->∃p,Irr p/\Ed p q
 | 0,q,B,_,j=>O
 | n+1,q,B,l,j=>by
  by_cases h:Irr q
  .exact⟨q,h,Ed.refl q⟩
  .have:∃d,Tr d/\Ed d q/\¬(d.length<=1\/d.length=q.length):=by refine bF λw=>h ⟨l,j,λd e g=>bF λo=>w ⟨d,e,g,o⟩⟩
   obtain⟨d,e,g,G⟩:=this;have D:=(g.len e l (Zb3 j)).2;obtain⟨p,F,k⟩:=Yb7 n d O e O;exact⟨p,F,k.trans g⟩
theorem Bs (f:List Int)(h:List Int)(m:List Int)(k:Int)(R:Irr q)(Q:k≠0)(e:∀x:Rat,(k:Rat)*(Zb f x*Zb h x)=Zb m x*Zb q x):Ed q f\/Ed q h:=by
 obtain⟨j,n,F⟩:=R;obtain⟨g,A,B,l,o,H,w⟩:=Zjp _ q (tzl f) j (Qa f) (aK _);have P:=(o.len l j (Zb3 n)).1;rcases F g l o with D|D
 .right
  match g,P,D,l,w with
  | [c],_,_,l,w=>
   have N:c≠0:=l.mem O7;refine⟨c*k,Oo ((lmul A h).map λc=>k*c) (lmul B m),bC N Q,λx=>?_⟩;have G:=w x;have M:=e x;rw [Qs,Nh]at G;rw [Yw,Zg,Zq,Zq];push_cast;rw [G];have:(Zb A x*Zb q x+Zb B x*Zb f x)*k*Zb h x=k*Zb A x*Zb q x*Zb h x+Zb B x*(k*(Zb f x*Zb h x)):=O4;rw [this,M];grind
  | c::d::r,_,h9,_,_=>simp at h9
 .left;have I:=o.same l j (Zb3 n) D;exact(I.trans H).congr λx=>Nh f x
def Hb(q:List Int):Nat->List Int
 | 0=>[1]
 | n+1=>Qc q (Hb q n)
theorem Bn{q:List Int}(j:Tr q)(g:2<=q.length):∀n,Tr (Hb q n)/\n+1<=(Hb q n).length
 | 0=>⟨.inr (show cf [1] 0≠0 by decide),aK _⟩
 | n+1=>by obtain⟨k,h⟩:=Bn j g n;refine⟨Xy,?_⟩;show n+1+1<=(Qc q (Hb q n)).length;rw [On j k (Zb3 g) (λe=>by rw [e]at h;simp at h)];omega
def Hx(q:List Int)(n:Nat)(x:Rat):Zb (Hb q (n+1)) x=Zb q x*Zb (Hb q n) x:=Yp _ _ _
theorem Zl7(q:List Int):∀(n:Nat) (x:Rat),Zb (ld (Hb q (n+1))) x=((n:Rat)+1)*(Zb (Hb q n) x*Zb (ld q) x)
 | n,x=>by
  have e:Zb (ld (Hb q (n+1))) x=Zb (ld (lmul q (Hb q n))) x:=Fu _ _ (λy=>by rw [Hx,Zq]) x;rw [e,Er]
  match n with
  | 0=>
   rw [show Zb (ld (Hb q 0)) x=0 from by rw [show Hb q 0=[1]from rfl,Zd3];show(0:Rat)+x*0=0;grind];simp;grind
  | n+1=>
   rw [Zl7 q n x,Hx];push_cast;grind
theorem Zzk{g u:List Int}{c:Int}{k:Nat}(H:∀x:Rat,Zb p x=Zb s x*Zb g x)(G:∀d,Tr d->Ed d p->Ed d (ld p)->Ed d g)(hq:Irr q)(Z:Ed q s)(h2:Ed q (ld s))(hk:Ed (Hb q k) g):Ed (Hb q (k+1)) g:=by
 obtain⟨n,w,I⟩:=hq;obtain⟨l,h,k1,N⟩:=Z;obtain⟨B,s2,k2,W⟩:=h2;have V:∀x:Rat,(l:Rat)*Zb (ld s) x=Zb (ld h) x*Zb q x+Zb h x*Zb (ld q) x:=λx=>by have:=Fu (s.map λa=>l*a) (lmul h q) (λy=>by rw [Zg,Zq];exact N y) x;rwa [Cj,Er]at this
 have h3:Ed q h:=by
  rcases Bs h (ld q) (Oo (s2.map λa=>l*a) ((ld h).map λa=>(-B)*a)) _ ⟨n,w,I⟩ k2 (λx=>by have M:=V x;have Q:=W x;rw [Yw,Zg,Zg];push_cast;have:(B:Rat)*(Zb h x*Zb (ld q) x)=l*(B*Zb (ld s) x)-B*(Zb (ld h) x*Zb q x):=O4;rw [this,Q];grind)with h9|h9
  .exact h9
  .exfalso;have h8:Ed q (Ys q):=h9.congr λx=>(Mz q x).symm;have P:=Of q;have:=(h8.len n (Ov n) (λe=>by rw [e]at P;simp at P;omega)).2;omega
 obtain⟨o,j,k3,Y⟩:=h3;obtain⟨c,u,kc,eu⟩:=hk;have F:∀x:Rat,((l*o*c:Int):Rat)*Zb p x=Zb (lmul j u) x*Zb (Hb q (k+1+1)) x:=λx=>by rw [H x,Zq,Hx,Hx];push_cast;have M:=N x;have R:=Y x;have S:=eu x;have:(l:Rat)*o*c*(Zb s x*Zb g x)=o*(l*Zb s x)*(c*Zb g x):=O4;rw [this,M,S];have:(o:Rat)*(Zb h x*Zb q x)*(Zb u x*Zb (Hb q k) x)=(o*Zb h x)*Zb q x*(Zb u x*Zb (Hb q k) x):=O4;rw [this,R];grind
 have D:l*o*c≠0:=bC (bC k1 k3) kc;generalize l*o*c=C at F D;have hD:∀x:Rat,(C:Rat)*Zb (ld p) x=Zb (ld (lmul j u)) x*Zb (Hb q (k+1+1)) x+Zb (lmul j u) x*((((k+1:Nat):Rat)+1)*(Zb (Hb q (k+1)) x*Zb (ld q) x)):=λx=>by have:=Fu (p.map λa=>C*a) (lmul (lmul j u) (Hb q (k+1+1))) (λy=>by rw [Zg,Zq];exact F y) x;rwa [Cj,Er,Zl7]at this
 refine G _ (Bn n w _).1 ⟨C,lmul (lmul j u) q,D,λx=>?_⟩ ⟨C,Oo (lmul (ld (lmul j u)) q) ((lmul (lmul j u) (ld q)).map λa=>((k+2:Nat):Int)*a),D,λx=>?_⟩
 .rw [F x,Zq _ (lmul j u),Hx q (k+1)];grind
 .rw [hD x,Yw,Zg,Zq _ (ld (lmul j u)),Zq _ (lmul j u),Hx q (k+1)];push_cast;grind
theorem Zzm{g:List Int}(l:∀x:Rat,Zb p x=Zb s x*Zb g x)(G:Tr g)(B:g≠[])(j:∀d,Tr d->Ed d p->Ed d (ld p)->Ed d g)(H:Tr q)(D:Ed q s)(F:Ed q (ld s)):q.length<=1:=by
 refine bF λh=>?_;obtain⟨r,n,e⟩:=Yb7 _ q (aK _) H O;have o:∀k,Ed (Hb r k) g:=λk=>by
  induction k with
  | zero=>exact⟨1,g,O3,λx=>by rw [show Hb r 0=[1]from rfl,Qs];push_cast;grind⟩
  | succ k I=>exact Zzk (u:=[]) (c:=0) l j n (e.trans D) (e.trans F) I
 obtain⟨w,M⟩:=Bn n.1 n.2.1 g.length;have:=((o g.length).len w G B).2;omega
theorem Yig{d:List Int}(o:Tr b)(g:b≠[])(h:Ed d a)(j:Ed d b):Ed d (Xs a b):=by
  obtain⟨k,s,hs⟩:=Bm a g;have n:=Mt (o.mem g) k;generalize cf b (b.length-1)^k=L at hs n;have w:∀x,(L:Rat)*Zb a x=Zb s x*Zb b x+Zb (Xs a b) x:=λx=>by have:=Fj L (-1) a s b (Xs a b) (λt=>by rw [hs t];omega) x;push_cast at this;grind
  have l:Ed d (a.map λc=>L*c):=by obtain⟨k,u,B,e⟩:=h;exact⟨k,u.map λc=>L*c,B,λx=>by rw [Zg,Zg];have:=e x;grind⟩
  exact j.lin l (s.map λc=>(-1)*c) 1 O3 λx=>by rw [Zg,Zg];push_cast;have:=w x;grind
theorem Zqc{d:List Int} : ∀(f:Nat) {a b:List Int},Tr a->Tr b->Ed d a->Ed d b->Ed d (eu f a b)
  | 0,a,b,_,_,e,_=>e
  | f+1,a,b,k,j,e,h=>by
    by_cases g:b=[]
    . rw [g,Zft];exact e
    . rw [show eu (f + 1) a b = eu f b (Yi (Xs a b)) by
          conv=>lhs;unfold eu
          rw [aD g]]
      have t1:=Lx b k;exact Zqc f j (Yy t1) h ((Yig j g e h).sim (Qe t1).symm)
theorem Zif{F:Nat}{d:List Int}(e:Tr p)(g:Tr q)(h:Ed d p)(j:Ed d q):Ed d (Om F p q):=by
  have k:=h.sim (Qe e).symm;have l:=j.sim (Qe g).symm;unfold Om;refine Ed.sim ?_ (Kc _).symm;refine Zqc F (Zhr e g) (Zhq e g) ?_ ?_
  . unfold gA;split<;>assumption
  . unfold gB;split<;>assumption
theorem Zdw{F:Nat}(j:Tr xs)(k:xs≠[])(e:eok F (gA (Xa xs) (Ys (Xa xs))) (gB (Xa xs) (Ys (Xa xs))))(o:Tr q)(l:Ed q (sqf F xs))(n:Ed q (Ys (sqf F xs))):q.length<=1:=by
  obtain⟨f1,f2,f3,f4,f5,f6⟩:=Pu F j k e;have hs:Tr (Xa xs):=Ok (Yy j);have h:Tr (Ys (Xa xs)):=Ov hs;refine Zzm (p:=Xa xs) (s:=sqf F xs) (g:=Om F (Xa xs) (Ys (Xa xs))) (λx=>?_) (Zds _ hs h) f5 (λd _ a b=>?_) o l (n.congr λx=>Mz _ x)
  . have:Zb (Xa xs) x=Zb (Qc (sqf F xs) (Om F (Xa xs) (Ys (Xa xs)))) x:=by rw [<-f4]
    rw [this,Yp]
  . exact Zif hs h a (b.congr λx=>(Mz _ x).symm)
theorem Bz:∀(l:List Int) (n z:Int),(l.foldl Ou (n,z)).1=n+(l.foldl Ou (0,z)).1
 | [],n,z=>O7
 | x::l,n,z=>by
  simp only [gP];by_cases h:x=0
  .have e:∀n,Ou (n,z) x=(n,z):=λn=>by unfold Ou;rw [aF h]
   rw [e,e];exact Bz l n z
  .by_cases g:x=-z
   .have e:∀n,Ou (n,z) x=(n+1,x):=λn=>by unfold Ou;rw [aD h,aF (by dsimp only;exact g)]
    rw [e,e,Bz l (n+1) x,Bz l (0+1) x];omega
   .have e:∀n,Ou (n,z) x=(n,x):=λn=>by unfold Ou;rw [aD h,aD (by dsimp only;exact g)]
    rw [e,e];exact Bz l n x
theorem Yje{x y:Int}{l:List Int}(k:y≠0):chg (x::y::l)=chg (y::l)+(if x=-y then 1 else 0):=by
 unfold chg;simp only [gP];have g:Ou (0,0) y=(0,y):=by unfold Ou;rw [aD k,aD (by dsimp only;omega)]
 rw [g];by_cases j:x=0
 .have e:Ou (0,0) x=(0,0):=by unfold Ou;rw [aF j]
  rw [e,g,aD O];omega
 .have e:Ou (0,0) x=(0,x):=by unfold Ou;rw [aD j,aD (by dsimp only;omega)]
  rw [e];have n:Ou (0,x) y=(if x=-y then 1 else 0,y):=by
   unfold Ou;rw [aD k];by_cases h:x=-y
   .rw [aF (by dsimp only;omega),aF h];rfl
   .rw [aD (by dsimp only;omega),aD h]
  rw [n,Bz];omega
def crs(f:Rat->Rat)(u v:Rat):Int:=if f u≠0/\f u*f v<=0 then 1 else 0
theorem Zg1(s t:Rat):∀p:List Int,∃M:Rat,0<M/\∀x y,s<=x->x<=y->y<=t->
  -(M*(y-x)*(y-x))<=Zb p y-Zb p x-(y-x)*Zb (ld p) x/\Zb p y-Zb p x-(y-x)*Zb (ld p) x<=M*(y-x)*(y-x)
 | []=>⟨1,O3,λx y S V W=>by have:=aI (a:=y-x) (b:=y-x) O4 O4;show -(1*(y-x)*(y-x))<=(0:Rat)-0-(y-x)*0/\(0:Rat)-0-(y-x)*0<=1*(y-x)*(y-x);constructor<;>grind⟩
 | c::p=>by obtain⟨M,G,H⟩:=Zg1 s t p;obtain⟨L,Y,F⟩:=Ep s t p;obtain⟨K,B,D⟩:=Yib s t;refine⟨L+K*M,by have:=aY B G;grind,λx y hs h k=>?_⟩;obtain⟨l,n⟩:=H x y hs h k;obtain⟨I,N⟩:=F x y hs h k;obtain⟨o,w⟩:=D x hs O4;have j:0<=y-x:=O4;obtain⟨f1,f2⟩:=Zac (q:=x) (Q:=K) (g:=Zb p y-Zb p x-(y-x)*Zb (ld p) x) (e:=M*(y-x)*(y-x)) o w l n O4;have P:=aI (a:=y-x) (b:=L*(y-x)-(Zb p y-Zb p x)) j O4;have R:=aI (a:=y-x) (b:=L*(y-x)+(Zb p y-Zb p x)) j O4;rw [Zd3,show Zb (c::p) y=(c:Rat)+y*Zb p y from rfl,show Zb (c::p) x=(c:Rat)+x*Zb p x from rfl];constructor<;>grind
theorem Zvx(D:Tr a)(hb:Tr b)(Z:a≠[])(hc:∀q,Tr q->Ed q a->Ed q b->q.length<=1)(s t:Rat):∃ε:Rat,0<ε/\∀x,s<=x->x<=t->Big ε x (Zb a)\/Big ε x (Zb b):=by
 obtain⟨g,A,B,e,n,Y,j⟩:=Zjp _ a b D hb (aK _);have hl:=hc g e n Y;have hg:=(n.len e D Z).1
 match g,hg,hl,e,j with
 | [c],_,_,e,j=>
  have l:c≠0:=e.mem O7;obtain⟨P,p1,p2⟩:=Zo0 s t A;obtain⟨Q,q1,q2⟩:=Zo0 s t B;obtain⟨ε,W,e2,e3⟩:=Kw (show(0:Rat)<1 by decide) (show 0<(P+Q)+(P+Q) by grind) (show(0:Rat)<1 by decide);refine⟨ε,W,λx hs F=>?_⟩;by_cases o:Big ε x (Zb a)
  .exact .inl o
  .by_cases w:Big ε x (Zb b)
   .exact .inr w
   .exfalso;obtain⟨G,H⟩:=Zb2 o;obtain⟨I,M⟩:=Zb2 w;obtain⟨N,R⟩:=p2 x hs F;obtain⟨S,V⟩:=q2 x hs F;obtain⟨u1,u2⟩:=Zac N R G H O4;obtain⟨v1,v2⟩:=Zac S V I M O4;have h4:=j x;rw [Qs]at h4;have k:(c:Rat)<=-1\/1<=(c:Rat):=by
     rcases nK l with h|h
     .left;have:((c:Int):Rat)<=((-1:Int):Rat):=by exact_mod_cast (show c<=-1 by omega)
      rwa [show(((-1:Int)):Rat)=-1 from rfl]at this
     .right;have:1<=c:=O;exact_mod_cast this
    rcases k with k|k<;>grind
 | c::d::r,_,h9,_,_=>simp at h9
theorem Big.near{ε x y:Rat}{f:Rat->Rat}(h:Big ε x f)(e:f x-f y<=ε/2)(g:f y-f x<=ε/2):Big (ε/2) y f:=by unfold Big at *;grind
theorem Zf8(x:Rat):Gn x=-1↔x<0:=by
 unfold Gn;by_cases h:x<0
 .rw [aF h];simp [h]
 .rw [aD h];by_cases e:x=0
  .rw [aF e];simp [h]
  .rw [aD e];simp [h]
theorem Yac(x:Rat):Gn (-x)=- Gn x:=by
 unfold Gn;by_cases h:x<0
 .rw [aF h,aD O4,aD O4];rfl
 .rw [aD h];by_cases e:x=0
  .rw [aF e,aD O4,aF O4];rfl
  .rw [aD e,aF O4]
theorem Zj4{f g:Rat->Rat}{r:List (Rat->Rat)}{x:Rat}(h:Gn (g x)≠0):vat (f::g::r) x=vat (g::r) x+(if Gn (f x)=- Gn (g x)then 1 else 0):=by unfold vat;simp only [bN];exact Yje h
def Tay(s t M:Rat)(p:List Int):Prop:=∀x y,s<=x->x<=y->y<=t->-(M*(y-x)*(y-x))<=Zb p y-Zb p x-(y-x)*Zb (ld p) x/\Zb p y-Zb p x-(y-x)*Zb (ld p) x<=M*(y-x)*(y-x)
theorem Zf4 {s:Rat}   (ha:Tr a) (hb:Tr b) (Z:cok f a b) {κ:Rat} (hκ:0<κ) (V:∀x,Zb (ld a) x=κ*Zb b x)
  {ε L L' M h:Rat} (e1:0<ε) (e2:∀x,s<=x->x<=t->Big ε x (Zb a)\/Big ε x (Zb b)) (l1:0<=L) (l2:Lip s t L (Zb a)) (a7:0<=L') (H:Lip s t L' (Zb b)) (m1:0<=M) (m2:Tay s t M a)
  (h5:0<h) (h3:h*(L+L')<=ε/2) (h7:h*M<=κ*ε/2) {u v:Rat} (hs:s<=u) (j:u<=v) (ht:v<=t) (hh:v-u<=h) :
  vat ((Nc f a b).map Zb) u-vat ((Nc f a b).map Zb) v=crs (Zb a) u v:=by
 have P:∀w,u<=w->w<=v->L*(w-u)<=ε/2/\L'*(w-u)<=ε/2:=λw k n=>by have p1:=aI (a:=L) (b:=h-(w-u)) O4 O4;have p2:=aI (a:=L') (b:=h-(w-u)) O4 O4;have p3:=aI (a:=L) (b:=h) O4 O4;have p4:=aI (a:=L') (b:=h) O4 O4;constructor<;>grind
 by_cases B:Big ε u (Zb a)
 .have hB:∀w,u<=w->w<=v->Big (ε/2) w (Zb a):=λw k n=>by obtain⟨x1,x2⟩:=l2 u w hs k O4;have:=P w k n;exact B.near O4 O4
  rw [Zdz ha hb Z j (show 0<ε/2 by grind) hB];have hv:=hB v j O4;have:crs (Zb a) u v=0:=by
   unfold crs;refine aD λ⟨_,N⟩=>?_;obtain⟨x1,x2⟩:=l2 u v hs j ht;have a4:=P v j O4;unfold Big at B hv;rcases B with hp|hp
   .have:0<Zb a v:=O4;have:=aY (show 0<Zb a u by grind) this;grind
   .have:0 < - Zb a v:=O4;have:=aY (show 0 < - Zb a u by grind) this;grind
  omega
 .have l:Big ε u (Zb b):=(e2 u hs O4).resolve_left B;have hB:∀w,u<=w->w<=v->Big (ε/2) w (Zb b):=λw k n=>by obtain⟨x1,x2⟩:=H u w hs k O4;have:=P w k n;exact l.near O4 O4
  have a0:b≠[]:=λe=>by rw [e]at l;unfold Big at l;have:Zb [] u=0:=rfl;rw [this]at l;grind
  obtain⟨g,hg,hd,a6,R,a2⟩:=Zjf Z a0;have hT:=Zdz hb (Zap ha) R j (show 0<ε/2 by grind) hB;obtain⟨r,hr,_,_,_⟩:=Zkr u v g b (Pw a b) hb (Zap ha) R;rw [a2,hr];rw [hr]at hT;simp only [bN]at hT ⊢;have a3:∃σ:Rat,(σ=1\/σ=-1)/\ε<σ*Zb b u/\∀w,u<=w->w<=v->0<σ*Zb b w:=by
   unfold Big at l;rcases l with hp|hp
   .refine⟨1,.inl rfl,O4,λw k n=>?_⟩;obtain⟨x1,x2⟩:=H u w hs k O4;have:=P w k n;grind
   .refine⟨-1,.inr rfl,O4,λw k n=>?_⟩;obtain⟨x1,x2⟩:=H u w hs k O4;have:=P w k n;grind
  obtain⟨σ,hσ,a5,Q⟩:=a3;have o:u<v->σ*Zb a u<σ*Zb a v:=λD=>by
   obtain⟨y1,y2⟩:=m2 u v hs j ht;rw [V u]at y1 y2;have hd:0<v-u:=O4;have z1:M*(v-u)<=κ*ε/2:=by have:=aI (a:=M) (b:=h-(v-u)) O4 O4;grind
   have z2:0<κ*(σ*Zb b u)-M*(v-u):=by have:=aY hκ (show 0<σ*Zb b u-ε by grind);have:=aY hκ e1;grind
   have z3:=aY hd z2;rcases hσ with rfl|rfl<;>grind
  have Y:∀w,u<=w->w<=v->Gn (Zb b w)≠0:=λw k n=>by
   have:=Q w k n;rcases hσ with rfl|rfl
   .rw [Cg O4];decide
   .rw [Ch O4];decide
  rw [Zj4 (Y u O4 j),Zj4 (Y v j O4),hT];have F:∀w,u<=w->w<=v->(Gn (Zb a w)=- Gn (Zb b w)↔σ*Zb a w<0):=λw k n=>by
   have:=Q w k n;rcases hσ with rfl|rfl
   .rw [Cg (x:=Zb b w) O4,Zf8];constructor<;>intro<;>grind
   .rw [Ch (x:=Zb b w) O4,show(-(-1:Int))=- -1 from rfl];have N:=Zf8 (-(Zb a w));rw [Yac]at N;constructor
    .intro h8;have:=N.1 O;grind
    .intro h8;have:=N.2 O4;omega
  rw [show(if Gn (Zb a u)=- Gn (Zb b u)then(1:Int)else 0)=if σ*Zb a u<0 then 1 else 0 from by simp only [F u O4 j]];rw [show(if Gn (Zb a v)=- Gn (Zb b v)then(1:Int)else 0)=if σ*Zb a v<0 then 1 else 0 from by simp only [F v j O4]];have S:crs (Zb a) u v=if σ*Zb a u<0/\¬σ*Zb a v<0 then 1 else 0:=by
   unfold crs;have a1:Zb a u*Zb a v=(σ*Zb a u)*(σ*Zb a v):=by rcases hσ with rfl|rfl<;>grind
   have hz:Zb a u≠0↔σ*Zb a u≠0:=by rcases hσ with rfl|rfl<;>constructor<;>intro N h8<;>exact N O4
   have W:(Zb a u≠0/\Zb a u*Zb a v<=0)↔(σ*Zb a u<0/\¬σ*Zb a v<0):=by
    rw [a1,hz];generalize hp:σ*Zb a u=p at *;generalize hq:σ*Zb a v=q at *;constructor
    .intro ⟨n1,n2⟩;rcases(show u<v\/u=v by grind)with D|G
     .have:=o D;rcases(show p<0\/0<p by grind)with I|I
      .refine⟨I,λn4=>?_⟩;have:=aY (show 0 < -p by grind) (show 0 < -q by grind);grind
      .have:=aY I (show 0<q by grind);grind
     .exfalso;have:q=p:=by rw [<-hp,<-hq,G]
      rw [this]at n2;rcases(show p<0\/0<p by grind)with I|I
      .have:=aY (show 0 < -p by grind) (show 0 < -p by grind);grind
      .have:=aY I I;grind
    .intro ⟨n1,n2⟩;refine⟨O4,?_⟩;have:=aI (show 0<=-p by grind) (show 0<=q by grind);grind
   simp only [W]
  rw [S];by_cases k1:σ*Zb a u<0<;>by_cases k2:σ*Zb a v<0
  .simp [k1,k2]
  .simp [k1,k2];omega
  .exfalso;rcases(show u<v\/u=v by grind)with D|G
   .have:=o D;grind
   .rw [G]at k1;exact k1 k2
  .simp [k1,k2]
theorem Zhv (κ:Rat){s:Rat}(w:Tr a)(B:Tr b)(G:a≠[])(g:cok f a b)(D:0<κ)(e:∀x,Zb (ld a) x=κ*Zb b x)(P:∀q,Tr q->Ed q a->Ed q b->q.length<=1) :
  ∃h:Rat,0<h/\∀u v,s<=u->u<=v->v<=t->v-u<=h->vat ((Nc f a b).map Zb) u-vat ((Nc f a b).map Zb) v=crs (Zb a) u v:=by
 obtain⟨ε,n,F⟩:=Zvx w B G P s t;obtain⟨L,l1,V⟩:=Ep s t a;obtain⟨l,S,k⟩:=Ep s t b;obtain⟨M,W,Y⟩:=Zg1 s t a;obtain⟨H,I,Z,h4⟩:=Kw (show(0:Rat)<1 by decide) (show 0<L+l by grind) (show 0<ε/2 by grind);obtain⟨h,o,h6,N⟩:=Kw I W (show 0<κ*ε/2 by have:=aY D n;grind);refine⟨h,o,λu v hs j R Q=>Zf4 w B g D e n F O4 V O4 k O4 Y o ?_ N hs j R Q⟩;have:=aI (a:=L+l) (b:=H-h) O4 O4;grind
theorem Yca:∀(n m:Nat) (f:Nat->Nat),(∀k,k<n->f k<m)->(∀a b,a<n->b<n->f a=f b->a=b)->n<=m
 | 0,_,_,_,_=>bB _
 | n+1,m,f,g,hi=>by
  have j:=g n O;have:=Yca n (m-1) (λk=>if f n<f k then f k-1 else f k) (λk D=>by
   have l:=g k O;have h:f k≠f n:=λe=>by have:=hi k n O O e;omega
   split<;>omega) (λa b w B e=>by
   have h:f a≠f n:=λe=>by have:=hi a n O O e;omega
   have o:f b≠f n:=λe=>by have:=hi b n O O e;omega
   refine hi a b O O ?_;split at e<;>split at e<;>omega)
  omega
theorem php{n:Nat}{f:Nat->Nat}(h:m<n)(w:∀k,k<n->f k<m):∃a b,a<n/\b<n/\a≠b/\f a=f b:=by refine bF λj=>?_;have:=Yca n m f w λa b l o e=>bF λg=>j ⟨a,b,l,o,g,e⟩;omega
def enc(B:Nat)(d:Nat->Nat):Nat->Nat
 | 0=>0
 | n+1=>enc B d n+d n*B^n
theorem Znb{B:Nat}{d:Nat->Nat} : ∀n,(∀i,i<n->d i<B)->enc B d n<B^n
 | 0,_=>by simp [enc]
 | n+1,h=>by have j:=Znb n λi hi=>h i O;have e:=h n O;have g:(d n+1)*B^n<=B*B^n:=aM _ e;rw [bI,mW]at g;rw [cC,aR (B^n) B];show enc B d n+d n*B^n<_;omega
theorem Zvi{B:Nat}{d e:Nat->Nat} : ∀n,(∀i,i<n->d i<B)->(∀i,i<n->e i<B)->enc B d n=enc B e n->∀i,i<n->d i=e i
 | 0,_,_,_,i,hi=>absurd hi (cN i)
 | n+1,g,j,h,i,hi=>by
  have w:=Znb n λi hi=>g i O;have D:=Znb n λi hi=>j i O;have h:enc B d n+d n*B^n=enc B e n+e n*B^n:=h;have o:0<B^n:=O;have l:d n=e n:=by
   have F:(enc B d n+d n*B^n)/B^n=d n:=by rw [mM _ _ o,dB w,bP]
   have G:(enc B e n+e n*B^n)/B^n=e n:=by rw [mM _ _ o,dB D,bP]
   rw [<-F,<-G,h]
  rcases bE i n with k|k
  .exact Zvi n (λi hi=>g i O) (λi hi=>j i O) (by rw [l]at h;omega) i k
  .rw [show i=n by omega];exact l
def dig(B k j:Nat):Nat:=k/B^j%B
theorem Znc(B k:Nat):∀n,enc B (dig B k) n=k%B^n
 | 0=>by simp [enc,mR]
 | n+1=>by show enc B (dig B k) n+dig B k n*B^n=_;rw [Znc B k n,cC,mS];unfold dig;rw [aR]
theorem Zhu (C:Int){f:Nat->Int} : ∀n,(∀i,i<n->-C<=f i/\f i<=C)->-((n:Int)*C)<=Yb f n/\Yb f n<=(n:Int)*C
 | 0,_=>by simp [Kn]
 | n+1,h=>by
  have g:=Zhu _ n λi hi=>h i O;have j:=h n O;have e:((n+1:Nat):Int)*C=(n:Int)*C+C:=by push_cast;grind
  rw [Yk,e];omega
theorem Zkg(f g:Nat->Int):∀n,Yb (λi=>f i-g i) n=Yb f n-Yb g n
 | 0=>by simp [Kn]
 | n+1=>by rw [Yk,Yk,Yk,Zkg f g n];omega
theorem siegel{N M A:Nat}(a0:M<N)(hA:0<A)(c:Nat->Nat->Int)(hc:∀i j,i<M->j<N->(c i j).natAbs<=A) :
  ∃x:Nat->Int,(∃j,j<N/\x j≠0)/\(∀j,j<N->(x j).natAbs<=(2*N*A)^M)/\∀i,i<M->Yb (λj=>c i j*x j) N=0:=by
 generalize hX:(2*N*A)^M=X;generalize V:N*(A*X)=W;let d:=λk j=>dig (X+1) k j;have F:∀k j,d k j<=X:=λk j=>nT (bR _ (mE X));let y:=λk i=>Yb (λj=>c i j*(d k j:Int)) N;have P:∀k i,i<M->-(W:Int)<=y k i/\y k i<=(W:Int):=λk i hi=>by
  have g:=Zhu ((A*X:Nat):Int) (f:=λj=>c i j*(d k j:Int)) N λj H=>by
   have h:=hc i j hi H;have w:(c i j*(d k j:Int)).natAbs<=A*X:=by rw [cJ,eC];exact aT h (F k j)
   omega
  have l:((N:Int)*((A*X:Nat):Int))=(W:Int):=by rw [<-V];push_cast;rfl
  rw [l]at g;exact g
 let e:=λk=>enc (2*W+1) (λi=>(y k i+(W:Int)).toNat) M;have G:∀k i,i<M->(y k i+(W:Int)).toNat<2*W+1:=λk i hi=>by have:=P k i hi;omega
 have I:(2*W+1)^M<(X+1)^N:=by
  have g:2*W+1<=(2*N*A)*(X+1):=by
   have:0<N*A:=fU O hA;have o:2*N*A*(X+1)=2*W+2*(N*A):=by rw [<-V];grind
   omega
  have h:=gD g M;rw [Nat.mul_pow,hX]at h;have w:(X+1)^(M+1)<=(X+1)^N:=dE O O;rw [cC]at w;have l:0<(X+1)^M:=bQ O;have h5:X*(X+1)^M<(X+1)^M*(X+1):=by rw [aR];exact iX O l
  omega
 obtain⟨a,b,ha,hb,D,hf⟩:=php (f:=e) I (λk _=>Znb M (G k));have Q:=Zvi M (G a) (G b) hf;refine⟨λj=>(d a j:Int)-(d b j:Int),?_,λj _=>?_,λi hi=>?_⟩
 .refine bF λh9=>D ?_;have Z:∀j,j<N->d a j=d b j:=λj H=>bF λB=>h9 ⟨j,H,λS=>B (by have S:(d a j:Int)-(d b j:Int)=0:=S;omega)⟩;have o:=Znc (X+1) a N;have R:=Znc (X+1) b N;rw [aW ha]at o;rw [aW hb]at R;have Y:∀n,n<=N->enc (X+1) (dig (X+1) a) n=enc (X+1) (dig (X+1) b) n:=λn=>by
   induction n with
   | zero=>intro _;rfl
   | succ n ih=>
    intro hn;have B:dig (X+1) a n=dig (X+1) b n:=Z n O;show enc _ _ n+dig (X+1) a n*_=enc _ _ n+dig (X+1) b n*_;rw [ih O,B]
  rw [<-o,<-R];exact Y N (aK _)
 .have g:=F a j;have h:=F b j;dsimp only;omega
 .have g:Yb (λj=>c i j*((d a j:Int)-(d b j:Int))) N=y a i-y b i:=by rw [<-Zkg];exact Yq λj _=>O4
  rw [g];have h:=Q i hi;have w:=P a i hi;have l:=P b i hi;omega
theorem Zf2(f:Nat->Int)(p:Nat):∀q,Yb f (p+q)=Yb f p+Yb (λk=>f (p+k)) q
 | 0=>by simp [Kn]
 | q+1=>by rw [<-fT,Yk,Yk,Zf2 f p q];omega
def sft(a:List Int)(t k:Nat):Int:=if k<=t then cf a (t-k)else 0
theorem Zje{U:List Int}{p:Nat}(h:U.length=p)(t:Nat):(ps U*ps a).c t=Yb (λk=>sft a t k*cf U k) p:=by rw [<-Zrc,<-h];refine Yq λk _=>?_;unfold sft;split<;>grind
theorem Zcb{U:List Int}{p t:Nat}(h:U.length<=p)(j:p+a.length<=t+1):(ps U*ps a).c t=0:=by
 rw [PS.mul_c];refine Hm λk g=>?_;rw [Px,Px];rcases bE k U.length with e|e
 .rw [Yl (p:=a) O,dS]
 .rw [Yl e,cY]
theorem Zf6 (a:List Int)(b:List Int)(lo:Nat){p q A:Nat}(B:0<A)(D:∀i,(cf a i).natAbs<=A)(F:∀i,(cf b i).natAbs<=A)(H:0<p+q)(I:p+a.length<=p+q+lo)(P:q+b.length<=p+q+lo) :
  ∃U V:List Int,U.length=p/\V.length=q/\((∃i,cf U i≠0)\/∃i,cf V i≠0)/\(∀i,(cf U i).natAbs<=(2*(p+q)*A)^(p+q-1))/\(∀i,(cf V i).natAbs<=(2*(p+q)*A)^(p+q-1))/\
   ∀t,lo<=t->(ps U*ps a).c t+(ps V*ps b).c t=0:=by
 obtain⟨x,⟨j,Q,e⟩,w,G⟩:=siegel (N:=p+q) (M:=p+q-1) (A:=A) O B (λi j=>if j<p then sft a (lo+i) j else sft b (lo+i) (j-p)) (λi j _ _=>by
  split<;>unfold sft<;>split
  .exact D _
  .simp
  .exact F _
  .simp)
 have l:∀i,cf (mk p x) i=if i<p then x i else 0:=λi=>Mh _ _ _
 have n:∀i,cf (mk q λk=>x (p+k)) i=if i<q then x (p+i)else 0:=λi=>Mh _ _ _
 refine⟨mk p x,mk q λk=>x (p+k),Yo _ _,Yo _ _,?_,λi=>?_,λi=>?_,λt R=>?_⟩
 .rcases bE j p with h|h
  .exact .inl ⟨j,by rw [l,aF h];exact e⟩
  .exact .inr ⟨j-p,by rw [n,aF O,show p+(j-p)=j by omega];exact e⟩
 .rw [l];split
  .exact w i O
  .exact bB _
 .rw [n];split
  .exact w _ O
  .exact bB _
 .rcases bE (t-lo) (p+q-1)with h|h
  .have o:=G (t-lo) h;rw [show lo+(t-lo)=t by omega,Zf2]at o;rw [Zje (Yo _ _),Zje (Yo _ _),<-o];congr 1
   .exact Yq λk g=>by rw [aF g,l,aF g]
   .exact Yq λk g=>by rw [aD O,n,aF g,show p+k-p=k by omega]
  .rw [Zcb (nX (Yo _ _)) O,Zcb (nX (Yo _ _)) O];rfl
theorem Zvy (t:Nat){U:List Int}{p X A:Nat}(h:U.length=p)(j:∀i,(cf U i).natAbs<=X)(l:∀i,(cf a i).natAbs<=A):((ps U*ps a).c t).natAbs<=p*(X*A):=by
 rw [Zje h];have e:=Zhu ((X*A:Nat):Int) (f:=λk=>sft a t k*cf U k) p λk _=>by
  have:(sft a t k*cf U k).natAbs<=X*A:=by
   rw [cJ,aR];refine aT (j k) ?_;unfold sft;split
   .exact l _
   .simp
  omega
 have g:((p:Int)*((X*A:Nat):Int))=((p*(X*A):Nat):Int):=by push_cast;rfl
 rw [g]at e;omega
theorem Zd6 (w:List Int)(q:List Int)(y:List Int)(n:Nat)(h:∀x,Zb w x=Zb q x*Zb y x)(D:Tr y)(k:y≠[])(B:∀i,n<=i->cf w i=0):tzl q=[]\/(tzl q).length+y.length<=n+1:=by
 by_cases g:tzl q=[]
 .exact .inl g
 .right;have o:∀i,cf w i=(ps (tzl q)*ps y).c i:=λi=>by rw [Ox (p:=w) (q:=lmul (tzl q) y) (λx=>by rw [Zq,Nh];exact h x) i,Gk,PS.mul_c];rfl
  have F:=aG.2 g;have G:=aG.2 k;have j:=Du y (p:=tzl q) (a:=(tzl q).length-1) (b:=y.length-1) (λi hi=>Yl O) (λi hi=>Yl O);rw [<-o]at j;have e:=bC ((Qa q).mem g) (D.mem k);rcases bE ((tzl q).length-1+(y.length-1)) n with l|l
  .omega
  .rw [B _ l]at j;exact absurd j.symm e
theorem Ga (v:List Int){f:List Int}(j:tzl v≠[])(h:∀x,Zb v x*Zb f x=0)(x:Rat):Zb f x=0:=by
 by_cases e:tzl f=[]
 .rw [<-Nh,e];rfl
 .exfalso;rcases Zd6 [] v (tzl f) 0 (λx=>by rw [Nh,h x];rfl) (Qa f) e (λi _=>Zbi i)with g|g
  .exact j g
  .have:=aG.2 e;have:=aG.2 j;omega
structure Inv (a b x y:List Int):Prop where
 ex:∃(α β γ:Int) (u' v' u v:List Int),α≠0/\β≠0/\γ≠0/\
  (∀t:Rat,(α:Rat)*Zb x t=Zb u' t*Zb a t+Zb v' t*Zb b t)/\(∀t:Rat,(β:Rat)*Zb y t=Zb u t*Zb a t+Zb v t*Zb b t)/\
  (∀t:Rat,Zb u' t*Zb v t-Zb u t*Zb v' t=(γ:Rat))/\(tzl v).length<=a.length-x.length+1/\(tzl v').length<=a.length-x.length+1
 xl:x.length<=b.length
 yl:y.length<x.length
theorem Zt6{L:Int}(g:Tr y)(e:y≠[])(j:z.length<=x.length)(h:∀t:Rat,(L:Rat)*Zb x t=Zb q t*Zb y t+(c:Rat)*Zb z t):tzl q=[]\/(tzl q).length+y.length<=x.length+1:=
 Zd6 (Oo (x.map λa=>L*a) (z.map λa=>(-c)*a)) _ _ x.length (λt=>by rw [Yw,Zg,Zg];have:=h t;push_cast;grind) g e λi hi=>by rw [Nl,Xo,Xo,Yl hi,Yl (p:=z) O];omega
theorem Co{n:Nat}(h:(tzl p).length<=m)(j:(tzl q).length<=n)(i:Nat)(hi:m+n<=i+1):cf (lmul p q) i=0:=by have g:cf (lmul p q) i=cf (lmul (tzl p) (tzl q)) i:=Ox (λx=>by rw [Zq,Zq,Nh,Nh]) i;rw [g,Gk];have e:=Zcb (U:=tzl p) (a:=tzl q) (p:=m) (t:=i) h O;rw [PS.mul_c]at e;exact e
def Zlq{n:Nat}(h:∀i,n<=i->cf p i=0):(tzl p).length<=n:=Ai h
theorem Zv7{n:Nat}(h:(tzl p).length<=n)(hi:n<=i):cf p i=0:=by rw [<-Lt];exact Yl O
theorem Inv.next{z':List Int}{L:Int}(R:Inv a b x y)(V:b.length<=a.length)(hx:Tr x)(Z:Tr y)(P:y≠[])(S:L≠0)(h:∀t:Rat,(L:Rat)*Zb x t=Zb q t*Zb y t+Zb z' t)(hz:Sim z' z)(k:z.length<y.length):Inv a b y z:=by
 obtain⟨⟨α,β,γ,u',F,u,v,hα,l,hγ,M,w,N,l1,l2⟩,xl,yl⟩:=R;obtain⟨m,n,W,Y,hs⟩:=hz;have j:∀t:Rat,(m:Rat)*Zb z' t=(n:Rat)*Zb z t:=λt=>by
  have:=Pv t (z'.map λa=>m*a) (z.map λa=>n*a) λi=>by rw [Xo,Xo,hs]
  rwa [Zg,Zg]at this
 have B:∀t:Rat,((L*m:Int):Rat)*Zb x t=Zb (q.map λa=>m*a) t*Zb y t+(n:Rat)*Zb z t:=λt=>by rw [Zg];push_cast;have:=h t;have:=j t;grind
 have e:=Zt6 Z P O B;have g:(tzl (q.map λa=>m*a)).length<=x.length-y.length+1:=by
  rcases e with D|D
  .rw [D];simp
  .omega
 generalize hQ:(q.map λa=>m*a)=Q at *;have o:∀t:Rat,((n*(α*β):Int):Rat)*Zb z t=Zb (Oo (u'.map λc=>(L*m*β)*c) ((lmul Q u).map λc=>(-α)*c)) t*Zb a t+Zb (Oo (F.map λc=>(L*m*β)*c) ((lmul Q v).map λc=>(-α)*c)) t*Zb b t:=λt=>by rw [Yw,Yw,Zg,Zg,Zg,Zg,Zq,Zq];have G:=B t;have H:=M t;have I:=w t;push_cast at G ⊢;have:(n:Rat)*(α*β)*Zb z t=α*β*(n*Zb z t):=O4;rw [this,show(n:Rat)*Zb z t=L*m*Zb x t-Zb Q t*Zb y t by grind];have:(α:Rat)*β*(L*m*Zb x t-Zb Q t*Zb y t)=L*m*β*(α*Zb x t)-α*Zb Q t*(β*Zb y t):=O4;rw [this,H,I];grind
 refine⟨⟨β,n*(α*β),-(L*m*β*γ),u,v,_,_,l,bC Y (bC hα l),?_,w,o,λt=>?_,?_,?_⟩,O,k⟩
 .have:=bC (bC (bC S W) l) hγ;omega
 .rw [Yw,Yw,Zg,Zg,Zg,Zg,Zq,Zq];have:=N t;push_cast;grind
 .refine Zlq λi hi=>?_;rw [Nl,Xo,Xo,Zv7 (p:=F) l2 O,Co g l1 i O];omega
 .omega
theorem Inv.first{z':List Int}{L:Int}(D:b.length<=a.length)(N:Tr a)(F:Tr b)(w:b≠[])(B:L≠0)(h:∀t:Rat,(L:Rat)*Zb a t=Zb q t*Zb b t+Zb z' t)(I:Sim z' z)(k:z.length<b.length):Inv a b b z:=by
 obtain⟨m,n,G,H,hs⟩:=I;have j:∀t:Rat,(m:Rat)*Zb z' t=(n:Rat)*Zb z t:=λt=>by
  have:=Pv t (z'.map λa=>m*a) (z.map λa=>n*a) λi=>by rw [Xo,Xo,hs]
  rwa [Zg,Zg]at this
 have l:∀t:Rat,((L*m:Int):Rat)*Zb a t=Zb (q.map λa=>m*a) t*Zb b t+(n:Rat)*Zb z t:=λt=>by rw [Zg];push_cast;have:=h t;have:=j t;grind
 have e:=Zt6 F w O l;have g:(tzl (q.map λa=>m*a)).length<=a.length-b.length+1:=by
  rcases e with o|o
  .rw [o];simp
  .omega
 generalize M:(q.map λa=>m*a)=Q at *;refine⟨⟨1,n,-(L*m),[],[1],[L*m],Q.map λc=>(-1)*c,O3,H,?_,λt=>?_,λt=>?_,λt=>?_,?_,?_⟩,aK _,k⟩
 .have:=bC B G;omega
 .rw [Qs];show _=(0:Rat)*_+_;grind
 .rw [Qs,Zg];have:=l t;push_cast at this ⊢;grind
 .rw [Qs,Qs];show(0:Rat)*_-_=_;push_cast;grind
 .refine Zlq λi hi=>?_;rw [Xo,Zv7 g O];omega
 .refine aB (Kl _) ?_;simp
def Zfb{n:Nat}(h:Sz n a)(i:Nat):(cf a i).natAbs<=2^n:=eP ((Qg n _).1 (h i))
theorem Ci(h:tzl p=[])(x:Rat):Zb p x=0:=by rw [<-Nh,h];rfl
def tzl_ne(h:cf p i≠0):tzl p≠[]:=λe=>h ((Mc p).1 e i)
def nn_eq{x a b:Nat}(e:x<=b)(g:b<=a):b-x+1+(a-x+1)=a+b-2*x+2:=O
theorem Inv.bound{n s:Nat}(hI:Inv a b x y)(a6:b.length<=a.length)(ha:Tr a)(hx:Tr x)(hy:Tr y)(h0:y≠[])(hp:Xb y=1)(na:Sz n a)(nb:Sz n b)(hs:a.length+b.length-2*x.length+2<=2^s) :
  Qk y<=(s+1+n)*(a.length+b.length-2*x.length+2):=by
 obtain⟨⟨α,β,γ,u',I,u,v,hα,hβ,hγ,e1,M,e3,l1,l2⟩,xl,yl⟩:=hI;have b3:=aG.2 h0;have b2:x≠[]:=λe=>by rw [e]at yl;simp at yl
 have H:a≠[]:=λe=>by
  have g:a.length=0:=by rw [e];rfl
  omega
 obtain⟨U,V,lU,lV,a9,bU,bV,hz⟩:=Zf6 a b (x.length-1) (p:=b.length-x.length+1) (q:=a.length-x.length+1) (A:=2^n) (bQ O3) (Zfb na) (Zfb nb) O O O;have hv:a.length+1<=(tzl v).length+x.length:=by
  refine bF λg=>?_;have a8:∀i,cf (Oo (a.map λc=>γ*c) ((lmul y I).map λc=>β*c)) i=cf (lmul (tzl v) (x.map λc=>α*c)) i:=λi=>Ox (λt=>by
   rw [Yw,Zg,Zg,Zq,Zq,Zg,Nh];have W:=e1 t;have F:=M t;have a3:=e3 t;have:Zb v t*(α*Zb x t)=(Zb u' t*Zb v t-Zb u t*Zb I t)*Zb a t+(Zb u t*Zb a t+Zb v t*Zb b t)*Zb I t:=by rw [W];grind
   rw [this,a3,<-F];grind) i
  have l:=a8 (a.length-1);rw [Nl,Xo,Xo,Co (m:=y.length) (n:=a.length-x.length+1) (Kl _) l2 _ O,Gk]at l;have P:=Zcb (U:=tzl v) (a:=x.map λc=>α*c) (p:=(tzl v).length) (t:=a.length-1) (aK _) (by rw [aQ];omega);rw [PS.mul_c]at P;have h3:Yb (λk=>cf (tzl v) k*cf (x.map λc=>α*c) (a.length-1-k)) (a.length-1+1)=0:=P;rw [h3]at l;have:=bC hγ (ha.mem H);omega
 have h:tzl v≠[]:=λe=>by rw [e]at hv;simp at hv;omega
 have Y:∀i,cf (Oo (lmul U a) (lmul V b)) i=(ps U*ps a).c i+(ps V*ps b).c i:=λi=>by rw [Nl,Gk,Gk,PS.mul_c,PS.mul_c];rfl
 generalize hR:Oo (lmul U a) (lmul V b)=R at Y;have rR:∀t,Zb R t=Zb U t*Zb a t+Zb V t*Zb b t:=λt=>by rw [<-hR,Yw,Zq,Zq]
 have lR:(tzl R).length<=x.length-1:=Zlq λi hi=>by rw [Y];exact hz i hi
 have hf:tzl (Oo (lmul U v) ((lmul u V).map λc=>(-1)*c))=[]:=by
  rcases Zd6 (Oo (lmul R v) ((lmul y V).map λc=>(-β)*c)) (Oo (lmul U v) ((lmul u V).map λc=>(-1)*c)) a (a.length-1) (λt=>by
   rw [Yw,Zg,Zq,Zq,Yw,Zg,Zq,Zq,rR];have F:=M t;push_cast;have:(-(β:Rat))*(Zb y t*Zb V t)=- (β*Zb y t)*Zb V t:=O4;rw [this,F];grind) ha H (λi hi=>by
   rw [Nl,Xo,Co lR l1 i O,Co (m:=y.length) (n:=a.length-x.length+1) (Kl _) (aB (Kl _) (nX lV)) i O];omega)with g|g
  .exact g
  .refine bF λh8=>?_;have:=aG.2 h8;omega
 have D:∀t,Zb U t*Zb v t=Zb u t*Zb V t:=λt=>by have:=Ci hf t;rw [Yw,Zg,Zq,Zq]at this;push_cast at this;grind
 have a4:∀t,Zb R t*Zb v t=β*Zb y t*Zb V t:=λt=>by rw [rR,M t];have:=D t;grind
 have S:∀t,(γ:Rat)*Zb V t=Zb v t*Zb (Oo (lmul u' V) ((lmul I U).map λc=>(-1)*c)) t:=λt=>by rw [Yw,Zg,Zq,Zq,<-e3 t];have:=D t;push_cast;grind
 generalize Oo (lmul u' V) ((lmul I U).map λc=>(-1)*c)=w at S;have hV:tzl V≠[]:=λe=>by
  rcases a9 with⟨i,hi⟩|⟨i,hi⟩
  .refine hi (Ox (p:=U) (q:=[]) (λt=>?_) i▸Zbi i);exact Ga v (f:=U) h (λt=>by have:=D t;rw [Ci e]at this;grind) t
  .exact tzl_ne hi e
 have b1:∃c:Int,c≠0/\∀t,Zb w t=(c:Rat):=by
  have j:tzl w≠[]:=λe=>hV ((Mc V).2 λi=>by have:=Ox (p:=V.map λc=>γ*c) (q:=[]) (λt=>by rw [Zg,S t,Ci e];show _=(0:Rat);grind) i;rw [Xo,Zbi]at this;exact(eU.1 this).resolve_left hγ)
  rcases Zd6 (V.map λc=>γ*c) w (tzl v) (a.length-x.length+1) (λt=>by rw [Zg,Nh,S t];grind) (Qa v) h (λi hi=>by rw [Xo,Yl O];omega)with g|g
  .exact absurd g j
  .have h8:=aG.2 j;have h7:(tzl w).length=1:=O
   match Q:tzl w,h7 with
   | [c],_=>
    refine⟨c,?_,λt=>by rw [<-Nh,Q,Qs]⟩;have:=(Qa w).mem j;rw [Q]at this;exact this
 obtain⟨c,a7,Q⟩:=b1;have o:Sim R y:=by
  refine⟨γ,β*c,hγ,bC hβ a7,λi=>?_⟩;have:=Ox (p:=R.map λd=>γ*d) (q:=y.map λd=>(β*c)*d) (λt=>by
   rw [Zg,Zg];push_cast;have l:Zb (Oo (R.map λd=>γ*d) (y.map λd=>(-(β*c))*d)) t=0:=Ga v h (λt=>by rw [Yw,Zg,Zg];push_cast;have W:=a4 t;have F:=S t;rw [Q]at F;have:Zb v t*(γ*Zb R t + -(β*c:Rat)*Zb y t)=γ*(Zb R t*Zb v t)-β*Zb y t*(Zb v t*c):=O4;rw [this,W,<-F];grind) t
   rw [Yw,Zg,Zg]at l;push_cast at l;grind) i
  rwa [Xo,Xo]at this
 have b0:Sz ((s+1+n)*(a.length+b.length-2*x.length+2)) R:=λi=>by
  rw [Y];have c1:=Zvy i lU bU (Zfb na);have c2:=Zvy i lV bV (Zfb nb);have a0:b.length-x.length+1+(a.length-x.length+1)=a.length+b.length-2*x.length+2:=nn_eq xl a6;rw [<-a0]at hs ⊢;generalize hN:b.length-x.length+1+(a.length-x.length+1)=N at *;generalize G:(2*N*2^n)^(N-1)=X at *;have c3:((ps U*ps a).c i+(ps V*ps b).c i).natAbs<=N*(X*2^n):=by rw [<-hN,bI];have:=lN ((ps U*ps a).c i) ((ps V*ps b).c i);omega
  refine(Qg _ _).2 (bA c3 ?_);have a5:0<X:=by rw [<-G];exact bQ (fU O (bQ O3))
  have c4:N*(X*2^n)<(2*N*2^n)^N:=by
   have e:(2*N*2^n)^N=X*(2*N*2^n):=by rw [<-G,<-cC,Nat.succ_eq_add_one,show N-1+1=N by omega]
   rw [e];have:0<N*(X*2^n):=fU O (fU a5 (bQ O3));have M:X*(2*N*2^n)=2*(N*(X*2^n)):=O4;omega
  have c5:2*N*2^n<=2^(s+1+n):=by rw [bK,cC];exact aM _ O
  have c6:=gD c5 N;rw [<-jP]at c6;exact cZ c4 c6
 have l:tzl R≠[]:=λe=>by obtain⟨m,k,hm,hk,Z⟩:=o;have:=Z (y.length-1);rw [(Mc R).1 e,dS]at this;exact bC hk (hy.mem h0) this.symm
 have B:Sim (tzl R) y:=by obtain⟨m,k,hm,hk,Z⟩:=o;exact⟨m,k,hm,hk,λi=>by rw [Lt];exact Z i⟩
 have P:=(Qe (Qa R)).trans B;have h3:∀i,(cf y i).natAbs=(cf (Yi (tzl R)) i).natAbs:=λi=>by
  rcases Zom (Yy (Qa R)) hy (λe=>l (aE (by rw [<-Zw,e];rfl))) (Kr (Qa R) l) hp P with g|g
  .rw [g]
  .rw [g i,iF]
 exact Pd λi=>by rw [h3];exact Fs b0.tzl i
def Zpk(g e K:Nat):Prop:=∀l,l<=e->(l+1)*(K*(g+e-2*l+2)+1)<=65536
def Zq2{e g l:Nat}(h:l<=m):K*(e+g-2*m+2)<=K*(e+g-2*l+2):=bD _ O
theorem Zew{C:Nat}(e:y≠[])(l:y.length<x.length)(g:Qk x<=C)(j:Qk y<=C)(h:(x.length+1)*(C+1)<=65536):Db x y=0:=by have n:=aG.2 e;unfold Db;rw [aD O,aD O];have k:(x.length-y.length+1)*(Qk y+1)<=x.length*(C+1):=aT O O;rw [bI,mW]at h;rw [aD O]
theorem Zxw(n:Inv a b x y)(g:b.length<=a.length)(j:Tr x)(l:Tr y)(e:y≠[]):Inv a b y (Yi (Xs x y)):=by
 obtain⟨k,s,hs⟩:=Bm x e;have h:=Mt (l.mem e) k;generalize cf y (y.length-1)^k=L at hs h;have o:∀t:Rat,(L:Rat)*Zb x t=Zb s t*Zb y t+Zb (Xs x y) t:=λt=>by have:=Fj L (-1) x s y (Xs x y) (λt=>by rw [hs t];omega) t;push_cast at this;grind
 exact n.next g j l e h o (Qe (Lx _ j)).symm (by rw [Zw];exact Qz x e)
theorem Zea(h:Tr p):Yi p=[]\/Xb (Yi p)=1:=by
 by_cases e:p=[]
 .left;rw [e];rfl
 .right;exact Kr h e
theorem Ev(g:Tr x)(e:y≠[]):(Pw x y).length<y.length:=by rw [Au _ g];exact Qz x e
theorem Zxv(n:Inv a b x y)(l:b.length<=a.length)(h:Tr x)(j:Tr y)(e:y≠[]):Inv a b y (Pw x y)/\(Pw x y=[]\/Xb (Pw x y)=1):=by
 have D:=aG.2 e;have B:=n.yl;obtain⟨r1,r2,k,u,w⟩:=Zd0 j e x.length x h O;have hs:=Zfe x.length h j e O O;have g:Tr (Zc2 (Bl x.length x y)):=Ob;have o:An y^k≠0:=Mt (by have:=Zd4 j e;omega) _;constructor
 .refine n.next (z':=Bl x.length x y) (q:=u) l h j e o (λt=>?_) ?_ (Ev h e)
  .have:=Fj (An y^k) (-1) x u y (Bl x.length x y) (λt=>by rw [w t];omega) t;push_cast at this ⊢;grind
  .rw [<-hs];exact Sim.trans ⟨1,-1,O3,O3,λi=>by rw [Fm];omega⟩ (Qe g).symm
 .rw [<-hs];exact Zea g
theorem Zvh{a b:List Int}{n s K:Nat}(h:b.length<=a.length)(G:Tr a)(N:Sz n a)(P:Sz n b)(hs:a.length+b.length<=2^s)(D:s+1+n<=K)(F:Zpk a.length b.length K) :
  ∀(f:Nat) (x y:List Int),Inv a b x y->Tr x->Tr y->(y=[]\/Xb y=1)->Qk x<=K*(a.length+b.length-2*x.length+2)->y.length<=f->eok f x y/\Qk (eu f x y)<=K*(a.length+b.length)
 | 0,x,y,g,o,w,H,l,S=>by have k:=g.yl;refine⟨aE O,aB l (bD _ (by have:=g.xl;omega))⟩
 | f+1,x,y,g,o,w,H,l,S=>by
  have B:=g.yl;have k:=g.xl;by_cases e:y=[]
  .subst e;refine⟨.inl rfl,?_⟩;rw [Zft];exact aB l (bD _ O)
  .have V:=aG.2 e;have Q:=g.bound h G o w e (H.resolve_left e) N P (s:=s) O;have j:Qk y<=K*(a.length+b.length-2*x.length+2):=aB Q (aM _ D);have R:=Zew e B l j (F x.length k);have I:=Lx y o;have M:=Zvh h G N P hs D F f y (Yi (Xs x y)) (Zxw g h o w e) w (Yy I) (Zea I) (aB j (Zq2 O)) (by rw [Zw];have:=Qz x e;omega);refine⟨.inr ⟨R,M.1⟩,?_⟩;rw [show eu (f+1) x y=eu f y (Yi (Xs x y)) by
     conv=>lhs;unfold eu
     rw [aD e]]
   exact M.2
theorem Zvz{a b:List Int}{n s K:Nat}(j:b.length<=a.length)(H:Tr a)(N:Sz n a)(P:Sz n b)(hs:a.length+b.length<=2^s)(F:s+1+n<=K)(G:Zpk a.length b.length K) :
  ∀(f:Nat) (x y:List Int),Inv a b x y->Tr x->Tr y->(y=[]\/Xb y=1)->Qk x<=K*(a.length+b.length-2*x.length+2)->y.length<=f->cok f x y/\∀p∈Nc f x y,Qk p<=K*(a.length+b.length)/\p.length<=a.length
 | 0,x,y,h,o,B,e,l,S=>by
  have w:=h.yl;have I:=h.xl;have g:y=[]:=aE O;refine⟨g,λp e=>?_⟩;have:p=x:=by unfold Nc at e;simpa using e
  rw [this];exact⟨aB l (bD _ O),O⟩
 | f+1,x,y,h,o,B,e,l,S=>by
  have D:=h.yl;have w:=h.xl;by_cases g:y=[]
  .subst g;refine⟨.inl rfl,λp e=>?_⟩;rw [Dq]at e;have:p=x:=by simpa using e
   rw [this];exact⟨aB l (bD _ O),O⟩
  .have Y:=aG.2 g;have Q:=h.bound j H o B g (e.resolve_left g) N P (s:=s) O;have k:Qk y<=K*(a.length+b.length-2*x.length+2):=aB Q (aM _ F);have R:=Zew g D l k (G x.length w);obtain⟨V,W⟩:=Zxv h j o B g;have M:=Zvz j H N P hs F G f y (Pw x y) V B (Zap o) W (aB k (Zq2 O)) (by have:=Ev o g;omega);refine⟨.inr ⟨R,O,M.1⟩,λp e=>?_⟩;unfold Nc at e;rw [aD g]at e;rcases bG.1 e with rfl|e
   .exact⟨aB l (bD _ O),O⟩
   .exact M.2 p e
theorem Yid{n s:Nat}(j:b.length<a.length)(h:Tr a)(l:Tr b)(F:Sz n a)(G:Sz n b)(hs:a.length+b.length<=2^s)(I:s+1+n<=K)(N:Zpk a.length b.length K)(P:(a.length+1)*(n+1)<=65536)(V:b.length<=f) :
  eok f a b/\Qk (eu f a b)<=K*(a.length+b.length):=by
 have R:=Pd F;have S:=Pd G;have Y:0<a.length:=O;have M:n<=K*(a.length+b.length):=aB (by omega:n<=K*1) (bD _ O);by_cases e:b=[]
 .subst e;cases f with
  | zero=>exact⟨rfl,by rw [Zft];omega⟩
  | succ f=>exact⟨.inl rfl,by rw [Zft];omega⟩
 .have W:=aG.2 e;obtain⟨g,rfl⟩:∃g,f=g+1:=⟨f-1,O⟩;have o:=Lx b h;obtain⟨k,q,B⟩:=Bm a e;have w:=Mt (l.mem e) k;generalize cf b (b.length-1)^k=L at B w;have Q:∀t:Rat,(L:Rat)*Zb a t=Zb q t*Zb b t+Zb (Xs a b) t:=λt=>by have:=Fj L (-1) a q b (Xs a b) (λt=>by rw [B t];omega) t;push_cast at this;grind
  have H:Inv a b b (Yi (Xs a b)):=Inv.first O h l e w Q (Qe o).symm (by rw [Zw];exact Qz a e);have D:=Zvh O h F G hs I N g b (Yi (Xs a b)) H l (Yy o) (Zea o) (aB (by omega:Qk b<=K*1) (bD _ O)) (by rw [Zw];have:=Qz a e;omega);refine⟨.inr ⟨Zew e j R S P,D.1⟩,?_⟩;rw [show eu (g+1) a b=eu g b (Yi (Xs a b)) by
    conv=>lhs;unfold eu
    rw [aD e]]
  exact D.2
theorem Yix{n s:Nat}(F:b.length<a.length)(l:Tr a)(o:Tr b)(H:Sz n a)(I:Sz n b)(hs:a.length+b.length<=2^s)(N:s+1+n<=K)(Q:Zpk a.length b.length K)(R:(a.length+1)*(n+1)<=65536)(Y:b.length<=f) :
  cok f a b/\∀p∈Nc f a b,Qk p<=K*(a.length+b.length)/\p.length<=a.length:=by
 have V:=Pd H;have W:=Pd I;have la:0<a.length:=O;have P:n<=K*(a.length+b.length):=aB (by omega:n<=K*1) (bD _ O);by_cases e:b=[]
 .subst e;have j:∀p∈Nc f a [],Qk p<=K*(a.length+([]:List Int).length)/\p.length<=a.length:=λp h=>by
   rw [Dq]at h;have:p=a:=by simpa using h
   rw [this];exact⟨O,aK _⟩
  cases f with
  | zero=>exact⟨rfl,j⟩
  | succ f=>exact⟨.inl rfl,j⟩
 .have Z:=aG.2 e;obtain⟨g,rfl⟩:∃g,f=g+1:=⟨f-1,O⟩;obtain⟨r1,r2,k,u,S⟩:=Zd0 o e a.length a l O;have w:=Zfe a.length l o e O O;have B:Tr (Zc2 (Bl a.length a b)):=Ob;have D:An b^k≠0:=Mt (by have:=Zd4 o e;omega) _;have M:Inv a b b (Pw a b):=by
   refine Inv.first (z':=Bl a.length a b) (q:=u) O l o e D (λt=>?_) ?_ (Ev l e)
   .have:=Fj (An b^k) (-1) a u b (Bl a.length a b) (λt=>by rw [S t];omega) t;push_cast at this ⊢;grind
   .rw [<-w];exact Sim.trans ⟨1,-1,O3,O3,λi=>by rw [Fm];omega⟩ (Qe B).symm
  have h:Pw a b=[]\/Xb (Pw a b)=1:=by rw [<-w];exact Zea B
  have G:=Zvz O l H I hs N Q g b (Pw a b) M o (Zap l) h (aB (by omega:Qk b<=K*1) (bD _ O)) (by have:=Ev l e;omega);refine⟨.inr ⟨Zew e F V W R,O,G.1⟩,λp h=>?_⟩;unfold Nc at h;rw [aD e]at h;rcases bG.1 h with rfl|h
  .exact⟨O,aK _⟩
  .exact G.2 p h
def al:List Int->List Int->List Int
 | [],g=>g
 | a::f,[]=>a::f
 | a::f,b::g=>(a+b)::al f g
def Cd(c:Int)(f:List Int):List Int:=f.map (c*·)
def ddl(k:Nat):List Int->List Int
 | []=>[]
 | b::g=>(k:Int)*b::ddl (k+1) g
def dl(f:List Int):List Int:=ddl 1 f.tail
def xl:List Int->List Int
 | []=>[]
 | a::f=>0::a::f
def fc:Nat->Int
 | 0=>1
 | k+1=>((k:Int)+1)*fc k
def Kz:Nat->List Int->List Int->Int
 | k,a::f,b::g=>fc k*(a*b)+Kz (k+1) f g
 | _,_,_=>0
theorem Zi5(k:Nat)(f:List Int):Kz k f []=0:=by cases f<;>rfl
theorem Yez(f:List Int):al f []=f:=by cases f<;>rfl
theorem Zwk:∀f g:List Int,al f g=al g f
 | [],g=>(Yez g).symm
 | a::f,[]=>rfl
 | a::f,b::g=>by show(a+b)::al f g=(b+a)::al g f;rw [Zwk f g,mC]
theorem Zrb:∀f g h:List Int,al (al f g) h=al f (al g h)
 | [],g,h=>rfl
 | a::f,[],h=>rfl
 | a::f,b::g,[]=>rfl
 | a::f,b::g,c::h=>by show(a+b+c)::al (al f g) h=(a+(b+c))::al f (al g h);rw [Zrb f g h,Int.add_assoc]
instance:Std.Commutative al:=⟨Zwk⟩
instance:Std.Associative al:=⟨Zrb⟩
theorem Zz6(c:Int):∀f g,Cd c (al f g)=al (Cd c f) (Cd c g)
 | [],g=>rfl
 | a::f,[]=>rfl
 | a::f,b::g=>by show c*(a+b)::Cd c (al f g)=(c*a+c*b)::al (Cd c f) (Cd c g);rw [Zz6 c f g,kK]
theorem Zt0(c d:Int):∀f,Cd (c+d) f=al (Cd c f) (Cd d f)
 | []=>rfl
 | a::f=>by show(c+d)*a::Cd (c+d) f=(c*a+d*a)::al (Cd c f) (Cd d f);rw [Zt0 c d f,lO]
theorem Zgz:∀f,Cd 1 f=f
 | []=>rfl
 | a::f=>by show 1*a::Cd 1 f=a::f;rw [Zgz f,fA]
theorem Ydm:∀k f g,ddl k (al f g)=al (ddl k f) (ddl k g)
 | k,[],g=>rfl
 | k,a::f,[]=>rfl
 | k,a::f,b::g=>by show(k:Int)*(a+b)::ddl (k+1) (al f g)=((k:Int)*a+(k:Int)*b)::al (ddl (k+1) f) (ddl (k+1) g);rw [Ydm (k+1) f g,kK]
theorem Zvq(c:Int):∀k f,ddl k (Cd c f)=Cd c (ddl k f)
 | k,[]=>rfl
 | k,a::f=>by show(k:Int)*(c*a)::ddl (k+1) (Cd c f)=c*((k:Int)*a)::Cd c (ddl (k+1) f);rw [Zvq c (k+1) f,lQ]
theorem Zqp:∀k f,ddl (k+1) f=al f (ddl k f)
 | k,[]=>rfl
 | k,a::f=>by show((k+1:Nat):Int)*a::ddl (k+1+1) f=(a+(k:Int)*a)::al f (ddl (k+1) f);rw [Zqp (k+1) f];congr 1;push_cast;grind
def dl_al:∀f g,dl (al f g)=al (dl f) (dl g)
 | [],g=>rfl
 | a::f,[]=>(Yez _).symm
 | a::f,b::g=>Ydm 1 f g
def dl_scl(c:Int):∀f,dl (Cd c f)=Cd c (dl f)
 | []=>rfl
 | a::f=>Zvq c 1 f
theorem dl_x:∀f,dl (xl f)=al f (xl (dl f))
 | []=>rfl
 | [a]=>by show(((1:Nat):Int)*a::[])=[a];rw [show((1:Nat):Int)=1 from rfl,fA]
 | a::b::f=>by show((1:Nat):Int)*a::ddl (1+1) (b::f)=(a+0)::al (b::f) (ddl 1 (b::f));rw [Zqp 1 (b::f),show((1:Nat):Int)=1 from rfl,fA,fN]
def xl_al:∀f g,xl (al f g)=al (xl f) (xl g)
 | [],g=>rfl
 | a::f,[]=>rfl
 | a::f,b::g=>rfl
theorem xl_scl(c:Int):∀f,xl (Cd c f)=Cd c (xl f)
 | []=>rfl
 | a::f=>by show 0::c*a::Cd c f=c*0::c*a::Cd c f;rw [dS]
theorem Gg:∀k f g,Kz k f g=Kz k g f
 | k,[],g=>(Zi5 k g).symm
 | k,a::f,[]=>rfl
 | k,a::f,b::g=>by show fc k*(a*b)+Kz (k+1) f g=fc k*(b*a)+Kz (k+1) g f;rw [Gg (k+1) f g,dJ a b]
theorem Zi8:∀k f g h,Kz k (al f g) h=Kz k f h+Kz k g h
 | k,[],g,h=>by show Kz k g h=0+Kz k g h;rw [lA]
 | k,a::f,[],h=>(fN _).symm
 | k,a::f,b::g,[]=>rfl
 | k,a::f,b::g,c::h=>by show fc k*((a+b)*c)+Kz (k+1) (al f g) h=fc k*(a*c)+Kz (k+1) f h+(fc k*(b*c)+Kz (k+1) g h);rw [Zi8 (k+1) f g h];grind
theorem Zi7(k:Nat)(h f g:List Int):Kz k h (al f g)=Kz k h f+Kz k h g:=by rw [Gg,Zi8,Gg k f,Gg k g]
theorem Zep(c:Int):∀k f g,Kz k (Cd c f) g=c*Kz k f g
 | k,[],g=>(dS c).symm
 | k,a::f,[]=>(dS c).symm
 | k,a::f,b::g=>by show fc k*(c*a*b)+Kz (k+1) (Cd c f) g=c*(fc k*(a*b)+Kz (k+1) f g);rw [Zep c (k+1) f g];grind
theorem Zm2(c:Int)(k:Nat)(f g:List Int):Kz k f (Cd c g)=c*Kz k f g:=by rw [Gg,Zep,Gg]
theorem Ycy:∀k f g,Kz (k+1) f g=Kz k f (ddl (k+1) g)
 | k,[],g=>rfl
 | k,a::f,[]=>rfl
 | k,a::f,b::g=>by show((k:Int)+1)*fc k*(a*b)+Kz (k+1+1) f g=fc k*(a*(((k+1:Nat):Int)*b))+Kz (k+1) f (ddl (k+1+1) g);rw [Ycy (k+1) f g];push_cast;grind
theorem fip_x:∀f g,Kz 0 (xl f) g=Kz 0 f (dl g)
 | [],g=>rfl
 | a::f,[]=>rfl
 | a::f,b::g=>by show fc 0*(0*b)+Kz 1 (a::f) g=Kz 0 (a::f) (ddl 1 g);rw [cY,dS,lA];exact Ycy 0 (a::f) g
theorem Ycv(f g:List Int):Kz 0 f (xl g)=Kz 0 (dl f) g:=by rw [Gg,fip_x,Gg]
def Mq:List Int->Nat->List Int->List Int
 | [],_,_=>[]
 | c::q,0,g=>al (Cd c g) (xl (Mq q 0 g))
 | c::q,j+1,g=>al (xl (Mq q (j+1) g)) (Mq q j g)
def Hq:List Int->Nat->List Int->List Int
 | [],_,_=>[]
 | c::p,0,f=>al (Cd c f) (Hq p 0 (dl f))
 | c::p,k+1,f=>al (Hq p (k+1) (dl f)) (Hq p k f)
theorem Zvo:∀q j g,dl (Mq q j g)=al (Mq q j (dl g)) (Cd ((j:Int)+1) (Mq q (j+1) g))
 | [],j,g=>rfl
 | c::q,0,g=>by
  show dl (al (Cd c g) (xl (Mq q 0 g)))=al (al (Cd c (dl g)) (xl (Mq q 0 (dl g)))) (Cd (((0:Nat):Int)+1) (al (xl (Mq q (0+1) g)) (Mq q 0 g)));rw [dl_al,dl_scl,dl_x,Zvo q 0 g,xl_al];rw [show((0:Nat):Int)+1=1 from rfl,Zgz,Zgz]
  ac_rfl
 | c::q,j+1,g=>by
  show dl (al (xl (Mq q (j+1) g)) (Mq q j g))=al (al (xl (Mq q (j+1) (dl g))) (Mq q j (dl g))) (Cd (((j+1:Nat):Int)+1) (al (xl (Mq q (j+1+1) g)) (Mq q (j+1) g)));rw [dl_al,dl_x,Zvo q (j+1) g,Zvo q j g,xl_al,xl_scl,Zz6];rw [show Cd (((j+1:Nat):Int)+1) (Mq q (j+1) g)=al (Cd ((j:Int)+1) (Mq q (j+1) g)) (Mq q (j+1) g) by rw [Zt0,Zgz];rfl]
  ac_rfl
theorem Zhb:∀q j f g,Kz 0 f (Mq q j g)=Kz 0 (Hq q j f) g
 | [],j,f,g=>Zi5 0 f
 | c::q,0,f,g=>by show Kz 0 f (al (Cd c g) (xl (Mq q 0 g)))=Kz 0 (al (Cd c f) (Hq q 0 (dl f))) g;rw [Zi7,Zi8,Zm2,Zep,Ycv,Zhb q 0 (dl f) g]
 | c::q,j+1,f,g=>by show Kz 0 f (al (xl (Mq q (j+1) g)) (Mq q j g))=Kz 0 (al (Hq q (j+1) (dl f)) (Hq q j f)) g;rw [Zi7,Zi8,Ycv,Zhb q (j+1) (dl f) g,Zhb q j f g]
def wfa:Nat->Nat->Int
 | j,0=>1
 | j,k+1=>((j:Int)+1)*wfa (j+1) k
theorem Zlm:∀k j,0<wfa j k
 | 0,j=>by show(0:Int)<1;decide
 | k+1,j=>gW O (Zlm k (j+1))
theorem Zi6:∀(p q:List Int) (j:Nat) (f g:List Int) (K:Nat),p.length<=K->Kz 0 (Mq p 0 f) (Mq q j g)=Yb (λk=>wfa j k*Kz 0 (Hq q (j+k) f) (Hq p k g)) K
 | [],q,j,f,g,K,_=>by rw [Hm (λk n=>by show wfa j k*Kz 0 (Hq q (j+k) f) []=0;rw [Zi5,dS])];rfl
 | c::p,q,j,f,g,K,hK=>by
  obtain⟨e,rfl⟩:∃e,K=e+1:=⟨K-1,by simp at hK;omega⟩;have o:p.length<=e:=by simpa using hK
  have w:=Zi6 p q j f (dl g) (e+1) O;have B:=Zi6 p q (j+1) f g e o;show Kz 0 (al (Cd c f) (xl (Mq p 0 f))) (Mq q j g)=_;rw [Zi8,Zep,fip_x,Zvo,Zi7,Zm2,w,B,Zhb];rw [Nm,Nm (λk=>wfa j k*Kz 0 (Hq q (j+k) f) (Hq (c::p) k g))];have h:Kz 0 (Hq q (j+0) f) (Hq (c::p) 0 g)=c*Kz 0 (Hq q j f) g+Kz 0 (Hq q j f) (Hq p 0 (dl g)):=by show Kz 0 (Hq q j f) (al (Cd c g) (Hq p 0 (dl g)))=_;rw [Zi7,Zm2]
  have l:Yb (λk=>wfa j (k+1)*Kz 0 (Hq q (j+(k+1)) f) (Hq (c::p) (k+1) g)) e=Yb (λk=>wfa j (k+1)*Kz 0 (Hq q (j+(k+1)) f) (Hq p (k+1) (dl g))) e+((j:Int)+1)*Yb (λk=>wfa (j+1) k*Kz 0 (Hq q (j+1+k) f) (Hq p k g)) e:=by rw [<-Ow,<-Gx];refine Yq λk n=>?_;show _*Kz 0 _ (al (Hq p (k+1) (dl g)) (Hq p k g))=_;rw [Zi7,show j+1+k=j+(k+1) by omega];show((j:Int)+1)*wfa (j+1) k*_=((j:Int)+1)*wfa (j+1) k*_+_;grind
  rw [h,l];show _=(1:Int)*_+_;show _*_+((1:Int)*_+_+_)=_;rw [show j+0=j from rfl];grind
theorem Zlw(a:Int):0<=a*a:=by
 rcases Int.le_total 0 a with h|h
 .exact dI h h
 .have:=dI (show 0<=-a by omega) (show 0<=-a by omega);rwa [Int.neg_mul_neg]at this
theorem Zfs:∀k,1<=fc k
 | 0=>by show(1:Int)<=1;decide
 | k+1=>by have h:=Zfs k;show 1<=((k:Int)+1)*fc k;have e:=jX (show(1:Int)<=(k:Int)+1 by omega) h O3 O;omega
theorem Ycz(k:Nat)(f:List Int)(b:Int)(g:List Int):Kz k f (b::g)=fc k*(cf f 0*b)+Kz (k+1) f.tail g:=by
 cases f with
 | nil=>show(0:Int)=fc k*(0*b)+Kz (k+1) [] g;rw [cY,dS];rfl
 | cons a f=>rfl
theorem Yea(f:List Int)(i:Nat):cf f.tail i=cf f (i+1):=by cases f<;>rfl
theorem Zm4:∀k (f e g:List Int),(∀i,cf f i=cf e i)->Kz k f g=Kz k e g
 | k,f,e,[],h=>by rw [Zi5,Zi5]
 | k,f,e,b::g,h=>by rw [Ycz,Ycz,h 0,Zm4 (k+1) f.tail e.tail g λi=>by rw [Yea,Yea,h]]
theorem Zm3:∀k f,0<=Kz k f f
 | k,[]=>fV _
 | k,a::f=>by show 0<=fc k*(a*a)+Kz (k+1) f f;have e:=Zm3 (k+1) f;have g:=dI (show 0<=fc k by have:=Zfs k;omega) (Zlw a);omega
theorem Ycx:∀k f i,cf f i*cf f i<=Kz k f f
 | k,[],i=>by rw [Yl O7];exact fV _
 | k,a::f,0=>by show a*a<=fc k*(a*a)+Kz (k+1) f f;have e:=Zm3 (k+1) f;have g:=eN (Zfs k) (Zlw a);omega
 | k,a::f,i+1=>by show cf f i*cf f i<=fc k*(a*a)+Kz (k+1) f f;have e:=Ycx (k+1) f i;have g:=dI (show 0<=fc k by have:=Zfs k;omega) (Zlw a);omega
def fcs:Nat->Nat->Int
 | k,0=>0
 | k,n+1=>fc k+fcs (k+1) n
theorem Yc0:∀n k,0<=fcs k n
 | 0,k=>fV _
 | n+1,k=>by have h:=Yc0 n (k+1);have:=Zfs k;show 0<=fc k+fcs (k+1) n;omega
theorem Ycw:∀n k (f:List Int) (A:Int),f.length<=n->(∀x∈f,x*x<=A)->0<=A->Kz k f f<=fcs k n*A
 | n,k,[],A,_,_,e=>dI (Yc0 n k) e
 | 0,k,a::f,A,h,_,_=>by simp at h
 | n+1,k,a::f,A,h,hx,e=>by have j:=Ycw n (k+1) f A (by simpa using h) (λx g=>hx x (bJ _ g)) e;have l:=iH (hx a (bX ..)) (show 0<=fc k by have:=Zfs k;omega);show fc k*(a*a)+Kz (k+1) f f<=(fc k+fcs (k+1) n)*A;rw [lO];omega
theorem Ztg:∀p k f,p.length<=k->Hq p k f=[]
 | [],k,f,_=>by cases k<;>rfl
 | c::p,0,f,h=>by simp at h
 | c::p,k+1,f,h=>by
  show al (Hq p (k+1) (dl f)) (Hq p k f)=[];have e:p.length<=k:=by simpa using h
  rw [Ztg p (k+1) _ O,Ztg p k _ e];rfl
theorem Yfa:∀p k f,p.length=k+1->Hq p k f=Cd (cf p k) f
 | [],k,f,h=>by simp at h
 | [c],0,f,h=>Yez _
 | c::d::p,0,f,h=>by simp at h
 | c::p,k+1,f,h=>by
  have e:p.length=k+1:=by simpa using h
  show al (Hq p (k+1) (dl f)) (Hq p k f)=Cd (cf p k) f;rw [Ztg p (k+1) _ O,Yfa p k f e];rfl
theorem Yef:∀f g i,cf (al f g) i=cf f i+cf g i
 | [],g,i=>by rw [Yl (p:=[]) O7,lA];rfl
 | a::f,[],i=>by rw [Yl (p:=[]) O7,fN];rfl
 | a::f,b::g,0=>rfl
 | a::f,b::g,i+1=>Yef f g i
def Yed(c:Int)(f:List Int)(i:Nat):cf (Cd c f) i=c*cf f i:=Zbj (p:=f) (f:=(c*·)) (dS c) i
theorem cf_xl0(f:List Int):cf (xl f) 0=0:=by cases f<;>rfl
theorem cf_xl(f:List Int)(i:Nat):cf (xl f) (i+1)=cf f i:=by cases f<;>rfl
theorem cf_Mq:∀p f i,cf (Mq p 0 f) i=(ps p*ps f).c i
 | [],f,i=>by rw [PS.mul_c,Hm (λk _=>by rw [Px,Yl O7,cY])];exact Yl (by simp [Mq])
 | c::p,f,0=>by show cf (al (Cd c f) (xl (Mq p 0 f))) 0=_;rw [Yef,Yed,cf_xl0,PS.mul_c,Nm,fN];exact(fN _).symm
 | c::p,f,i+1=>by show cf (al (Cd c f) (xl (Mq p 0 f))) (i+1)=_;rw [Yef,Yed,cf_xl,cf_Mq p f i,PS.mul_c,PS.mul_c,Nm _ (i+1)];refine aL (c*cf f (i+1)+·) (Yq λk e=>?_);show cf p k*cf f (i-k)=cf p k*cf f (i+1-(k+1));rw [show i+1-(k+1)=i-k by omega]
theorem Zx0{n L e:Nat}(hu:Tr u)(w:Tr v)(hs:Sz n s)(N:s≠[])(hl:s.length<=L)(W:fcs 0 L<=2^e*2^e)(h:s=Qc u v):Sz (n+e) u:=by
 have B:v≠[]:=λe=>N (by rw [h,e,Zc3]);obtain⟨m,I⟩:∃m,v.length=m+1:=⟨v.length-1,by have:=aG.2 B;omega⟩;have g:cf v m≠0:=by
  rcases w with w|w
  .exact absurd w B
  .rwa [I]at w
 have o:∀i,cf (Mq v 0 u) i=cf s i:=λi=>by rw [cf_Mq,h,Bp,Ki]
 have j:=Zi6 v v 0 u u (m+1) O;rw [Zm4 0 _ s _ o,Gg,Zm4 0 _ s _ o,Yk,bP,Yfa v m u I,Zep,Zm2]at j;have l:∀t,0<=Yb (λk=>wfa 0 k*Kz 0 (Hq v (0+k) u) (Hq v k u)) t:=λt=>by
  induction t with
  | zero=>exact fV _
  | succ t ih=>
   rw [Yk,bP];have:=dI (show 0<=wfa 0 t by have:=Zlm t 0;omega) (Zm3 0 (Hq v t u));omega
 have hr:=l m;have V:1<=cf v m*cf v m:=by
  have h1:=Zlw (cf v m);have h2:cf v m*cf v m≠0:=λe=>by rcases eU.1 e with q|q<;>exact g q
  omega
 have Z:=Zm3 0 u;have h3:Kz 0 u u<=cf v m*(cf v m*Kz 0 u u):=by have:=eN V Z;rw [eT]at this;omega
 have h4:Kz 0 u u<=wfa 0 m*(cf v m*(cf v m*Kz 0 u u)):=by have:=eN (show 1<=wfa 0 m from Zlm m 0) (show 0<=cf v m*(cf v m*Kz 0 u u) by omega);omega
 intro i;rw [Qg];have h5:=Ycx 0 u i;have R:∀x∈s,x*x<=(2^n-1)*(2^n-1):=λx hx=>by
  have hb:x.natAbs<2^n:=(Qg n _).1 (hs.mem hx);have S:((2^n:Nat):Int)=2^n:=by push_cast;rfl
  have p1:x<=2^n-1:=O;have p2:-(2^n-1)<=x:=O;generalize (2:Int)^n-1=y at *;have:=dI (show 0<=y-x by omega) (show 0<=y+x by omega);grind
 have hp:(1:Int)<=2^n:=by exact_mod_cast bQ (n:=n) (show 0<2 by decide)
 have M:(1:Int)<=2^e:=by exact_mod_cast bQ (n:=e) (show 0<2 by decide)
 have h6:=Ycw L 0 s _ hl R (dI O O);have h7:cf u i*cf u i<=(2^e*2^e)*((2^n-1)*(2^n-1)):=by have:=eN W (show(0:Int)<=(2^n-1)*(2^n-1)from dI O O);omega
 rcases bE (cf u i).natAbs (2^(n+e))with G|F
 .exact G
 .exfalso;have H:(2^n*2^e:Int)<=((cf u i).natAbs:Int):=by rw [<-Int.pow_add];exact_mod_cast F
  have Q:((cf u i).natAbs:Int)*((cf u i).natAbs:Int)=cf u i*cf u i:=Int.natAbs_mul_self;have D:(2^n*2^e:Int)*(2^n*2^e)<=((cf u i).natAbs:Int)*((cf u i).natAbs:Int):=jX H H (dI O O) O;rw [Q]at D;generalize (2:Int)^n=X at *;generalize (2:Int)^e=Y at *;have P:(Y*Y)*((X-1)*(X-1))<(Y*Y)*(X*X):=by have hy:=jX M M O3 O;refine Int.mul_lt_mul_of_pos_left ?_ O;grind
  grind
def kkR(R:Nat):Nat->Nat
 | 0=>0
 | d+1=>2*(R+1)*kkR R d+1
def Aw (L:Nat)(R:Nat){n e:Nat}(o:Tr u)(w:Tr v)(hs:Sz n s)(g:s≠[])(l:Tr s)(k:s.length<=L)(B:2*L<=R+2)(j:fcs 0 L<=2^e*2^e)(h:s=Qc u v):Sz (n+e) u:=Zx0 o w hs g k j h
theorem num13{e g:Nat}(k:e<=13)(n:g+1=e)(j:K<=600):Zpk e g K:=λl o=>by have h:∀l,l<=12->(l+1)*(600*(27-2*l)+1)<=65536:=O3;refine aB (bD _ (Nat.succ_le_succ (aT j O))) (h l O)
theorem chH{n:Nat}(F:Nat)(w:Tr xs)(B:xs≠[])(hs:Sz n xs)(hn:n<=350)(hl:xs.length<=13)(hb:(xs.length+2)*(xs.length+2)*(n+13)<=65536)(hF:xs.length<=F+1) :
  Ce F xs/\Sz (n+15) (sqf F xs)/\(sqf F xs).length<=xs.length/\∀p∈chn F xs,Qk p<=(n+26)*25/\p.length<=xs.length:=by
 have e:=Zrl hs;have Z:=Qy w;have k:Tr (Xa xs):=Ok (Yy w);have S:=Bg e O;have Y:=Of (Xa xs);have l:Tr (Ys (Xa xs)):=Ov k;have m1:=Pd e;have m2:=Pd S;have l0:=aG.2 B;have G:gA (Xa xs) (Ys (Xa xs))=Yi (Xa xs):=aD O;have H:gB (Xa xs) (Ys (Xa xs))=Yi (Ys (Xa xs)):=aD O;have j:eok F (gA (Xa xs) (Ys (Xa xs))) (gB (Xa xs) (Ys (Xa xs))):=by
  rw [G,H];refine(Yid (n:=n+5) (s:=5) (K:=n+11) (by rw [Zw,Zw];omega) (Yy k) (Yy l) (Fs (e.mono O)) (Fs S) ?_ O ?_ ?_ ?_).1
  .rw [Zw,Zw];omega
  .rw [Zw,Zw];exact num13 O O O
  .rw [Zw];exact aB (aT (show(Xa xs).length+1<=14 by omega) (show n+5+1<=400 by omega)) O3
  .rw [Zw];omega
 obtain⟨f1,f2,f3,f4,f5,f6⟩:=Pu F w B j;have D:=Zds F k l;have g:=Zij w B;have Q:fcs 0 13<=2^15*2^15:=O6;have o:=Aw 13 24 f2 D e g k O O3 Q f4;have I:=Aw 13 24 D f2 e g k O O3 Q (by rw [Bp];exact f4);have M:=On f2 D f3 f5;rw [<-f4]at M;have lg:=aG.2 f5;have lq:=aG.2 f3;have mg:=Pd I;have P:(sqf F xs).length<=xs.length:=O;have N:=Bg o O;have V:=Of (sqf F xs);have R:=Yix (a:=sqf F xs) (b:=Yi (Ys (sqf F xs))) (n:=n+15+5) (s:=5) (K:=n+26) (f:=F) (by rw [Zw];omega) f2 (Yy (Ov f2)) (o.mono O) (Fs N) (by rw [Zw];omega) O (by rw [Zw];exact num13 O O O) (aB (aT (show(sqf F xs).length+1<=14 by omega) (show n+15+5+1<=500 by omega)) O3) (by rw [Zw];omega);refine⟨⟨⟨λi _=>aB (Zso e O i) O,?_,j,?_,f1⟩,λi _=>aB (Zso o O i) O,R.1⟩,o,P,λp hp=>?_⟩
 .intro h;have h3:(max (Xa xs).length (Ys (Xa xs)).length+2)*(max (Xa xs).length (Ys (Xa xs)).length+2)*(max (Qk (Xa xs)) (Qk (Ys (Xa xs)))+8)<=(xs.length+2)*(xs.length+2)*(n+13):=aT (aT O O) O;have:=h.2.2;omega
 .unfold Db;rw [aD O];split
  .rfl
  .have:((Xa xs).length-(Om F (Xa xs) (Ys (Xa xs))).length+1)*(Qk (Om F (Xa xs) (Ys (Xa xs)))+1)<=14*500:=aT O O;rw [aD O]
 .obtain⟨W,a2⟩:=R.2 p hp;refine⟨aB W (bD _ ?_),O⟩;rw [Zw];omega
theorem chG{n:Nat}(F:Nat)(j:Tr xs)(e:xs≠[])(hs:Sz n xs)(h:n<=350)(k:xs.length<=11)(g:xs.length<=F+1) :
  Ce F xs/\Sz (n+15) (sqf F xs)/\(sqf F xs).length<=xs.length/\∀p∈chn F xs,Qk p<=(n+26)*25/\p.length<=xs.length:=
 chH F j e hs h O (aB (aT (aT (show _<=13 by omega) (show _<=13 by omega)) (show _<=363 by omega)) O3) g
theorem Dv.ed{g:List Int}(h:Dv g a):Ed g a:=by obtain⟨k,s,e,h⟩:=h;refine⟨k,s,e,λx=>?_⟩;have:=Fj k 0 a s g [] (λt=>by rw [h t];omega) x;push_cast at this;grind
theorem Zji{F:Nat}(o:Tr xs)(j:xs≠[])(k:Ce F xs)(s t:Rat) :
  ∃h:Rat,0<h/\∀u v,s<=u->u<=v->v<=t->v-u<=h->vat ((chn F xs).map Zb) u-vat ((chn F xs).map Zb) v=crs (Zb (sqf F xs)) u v:=by
 have g:=k.1.2.2.1;obtain⟨f1,f2,f3,f4,f5,f6⟩:=Pu F o j g;have e:=Ov f2;by_cases w:Ys (sqf F xs)=[]
 .refine Zhv 1 f2 (Yy e) f3 k.2.2 O3 (λx=>?_) λq n a b=>?_
  .rw [<-Mz,w];show(0:Rat)=1*0;grind
  .exact Zdw o j g n a (b.sim (Qe e))
 .have l:0<Xb (Ys (sqf F xs)):=by have B:=Bq e w;have D:=Ni (Ys (sqf F xs));omega
  refine Zhv (Xb (Ys (sqf F xs)):Rat) f2 (Yy e) f3 k.2.2 (by exact_mod_cast l) (λx=>?_) λq n a b=>?_
  .rw [<-Mz,<-Zg];exact Pv x _ _ λi=>by rw [Xo,dJ,Hf]
  .exact Zdw o j g n a (b.sim (Qe e))
theorem Yhz{g:List Int}(F:∀x:Rat,Zb p x=Zb s x*Zb g x)(hg:Tr g)(g0:g≠[])(N:Ed g (ld p))(B:Irr q)(Q:Ed q p):Ed q s:=by
 refine bF λD=>?_;have l:=B.1;have o:=B.2.1;have P:¬Ed q (ld q):=λh=>by have Y:Ed q (Ys q):=h.congr λx=>(Mz q x).symm;have Z:=Of q;have:=(Y.len l (Ov l) (λe=>by rw [e]at Z;simp at Z;omega)).2;omega
 obtain⟨c1,m1,k1,e1⟩:=Q;obtain⟨j,m,k2,e2⟩:=N;have S:∀k,Ed (Hb q k) g:=λk=>by
  induction k with
  | zero=>exact⟨1,g,O3,λx=>by rw [show Hb q 0=[1]from rfl,Qs];push_cast;grind⟩
  | succ k ih=>
   cases k with
   | zero=>
    have M:Ed q g:=(Bs s g m1 _ B k1 (λx=>by rw [<-F x];exact e1 x)).resolve_left D;exact M.congr_l λx=>by rw [Hx,show Hb q 0=[1]from rfl,Qs];push_cast;grind
   | succ k=>
    obtain⟨c,u,kc,eu⟩:=ih;have hd:∀x:Rat,(c:Rat)*Zb (ld g) x=Zb (ld u) x*Zb (Hb q (k+1)) x+Zb u x*(((k:Rat)+1)*(Zb (Hb q k) x*Zb (ld q) x)):=λx=>by have:=Fu (g.map λa=>c*a) (lmul u (Hb q (k+1))) (λy=>by rw [Zg,Zq];exact eu y) x;rwa [Cj,Er,Zl7]at this
    have hp:∀x:Rat,Zb (ld p) x=Zb (ld s) x*Zb g x+Zb s x*Zb (ld g) x:=λx=>by have:=Fu p (lmul s g) (λy=>by rw [Zq];exact F y) x;rwa [Er]at this
    have hz:∀x:Rat,Zb (Oo ((lmul (lmul s u) (ld q)).map λa=>(j*((k:Int)+1))*a) ((lmul (Oo ((lmul s (ld u)).map λa=>j*a) ((lmul (Oo m ((ld s).map λa=>(-j)*a)) u).map λa=>(-1)*a)) q))) x=0:=λx=>by
     refine Ga (Hb q k) (λe=>?_) (λx=>?_) x
     .rw [Cw (Bn l o k).1]at e;have:=(Bn l o k).2;rw [e]at this;simp at this
     .rw [Yw,Zg,Zq,Zq,Zq,Yw,Zg,Zq,Zg,Zq,Yw,Zg];have H:=e2 x;have V:=hp x;have W:=hd x;have G:=eu x;rw [Hx]at W G;push_cast;have b1:(j:Rat)*Zb s x*(c*Zb (ld g) x)=(Zb m x-j*Zb (ld s) x)*(c*Zb g x):=by
       have:(j:Rat)*Zb s x*(c*Zb (ld g) x)=c*(j*(Zb (ld p) x-Zb (ld s) x*Zb g x)):=by rw [V];grind
       rw [this];have:(c:Rat)*(j*(Zb (ld p) x-Zb (ld s) x*Zb g x))=c*(j*Zb (ld p) x)-c*j*Zb (ld s) x*Zb g x:=O4;rw [this,H];grind
      rw [W,G]at b1;grind
    have M:=Bs (lmul s u) (ld q) (Oo ((lmul (Oo m ((ld s).map λa=>(-j)*a)) u)) ((lmul s (ld u)).map λa=>(-j)*a)) (j*((k:Int)+1)) B (bC k2 O) (λx=>by have:=hz x;rw [Yw,Zg,Zq,Zq,Zq,Yw,Zg,Zq,Zg,Zq,Yw,Zg]at this;rw [Zq,Yw,Zq,Yw,Zg,Zg,Zq];push_cast at this ⊢;grind)
    have Y:=Bs s u [] 1 B O3;have h7:Ed q u:=by obtain⟨n,w,R,I⟩:=M.resolve_right P;exact(Bs s u w n B R (λx=>by have:=I x;rwa [Zq]at this)).resolve_left D
    obtain⟨n,w,R,I⟩:=h7;refine⟨n*c,w,bC R kc,λx=>?_⟩;have G:=eu x;have a5:=I x;rw [Hx q (k+1)];push_cast;have:(n:Rat)*c*Zb g x=n*(c*Zb g x):=O4;rw [this,G];have:(n:Rat)*(Zb u x*Zb (Hb q (k+1)) x)=(n*Zb u x)*Zb (Hb q (k+1)) x:=O4;rw [this,a5];grind
 obtain⟨H,V⟩:=Bn l o g.length;have:=((S g.length).len H hg g0).2;omega
theorem Yhm(g:d≠0):Irr [-r,d]:=by have e:Tr [-r,d]:= .inr g;refine⟨e,O7,λq j h=>?_⟩;have:=(h.len j e O7).2;simp at this ⊢;omega
theorem Zg3(r d:Int)(x:Rat):Zb [-r,d] x=(d:Rat)*x-r:=by show((-r:Int):Rat)+x*((d:Rat)+x*0)=_;push_cast;grind
theorem Ygk(D:Tr p)(j:d≠0)(h:Zb p ((r:Rat)/d)=0):Ed [-r,d] p:=by
 have n:(d:Rat)≠0:=by exact_mod_cast j
 have w:Tr [-r,d]:= .inr j;obtain⟨k,s,hs⟩:=Bm p (q:=[-r,d]) O7;have g:=Mt (w.mem O7) k;generalize cf [-r,d] ([-r,d].length-1)^k=L at hs g;have l:∀x,(L:Rat)*Zb p x=Zb s x*Zb [-r,d] x+Zb (Xs p [-r,d]) x:=λx=>by have:=Fj L (-1) p s [-r,d] (Xs p [-r,d]) (λt=>by rw [hs t];omega) x;push_cast at this;grind
 have o:=Qz p (q:=[-r,d]) O7;have B:∀x,Zb (Xs p [-r,d]) x=0:=λx=>by
  have e:=l ((r:Rat)/d);rw [h,Zg3]at e
  match hr:Xs p [-r,d],o with
  | [],_=>rfl
  | [c],_=>
   rw [hr,Qs]at e;rw [Qs];have:(d:Rat)*(r/d)=r:=O4;rw [this]at e;grind
 exact⟨L,s,g,λx=>by rw [l x,B x];grind⟩
theorem Ed.root(g:d≠0)(h:Ed [-r,d] p):Zb p ((r:Rat)/d)=0:=by
 obtain⟨k,s,l,h⟩:=h;have j:(d:Rat)≠0:=by exact_mod_cast g
 have n:(k:Rat)≠0:=by exact_mod_cast l
 have e:=h ((r:Rat)/d);rw [Zg3]at e;have:(d:Rat)*(r/d)=r:=O4;rw [this]at e;grind
theorem Zzl{F:Nat}(j:Tr xs)(l:xs≠[])(g:eok F (gA (Xa xs) (Ys (Xa xs))) (gB (Xa xs) (Ys (Xa xs))))(k:d≠0)(h:Zb xs ((r:Rat)/d)=0):Zb (sqf F xs) ((r:Rat)/d)=0:=by
 obtain⟨f1,f2,f3,f4,f5,f6⟩:=Pu F j l g;have hs:Tr (Xa xs):=Ok (Yy j);have e:Tr (Ys (Xa xs)):=Ov hs;have n:Ed [-r,d] (Xa xs):=(Ygk j k h).sim ((Qe j).symm.trans (Kc _).symm);have o:∀x:Rat,Zb (Xa xs) x=Zb (sqf F xs) x*Zb (Om F (Xa xs) (Ys (Xa xs))) x:=λx=>by
  have:Zb (Xa xs) x=Zb (Qc (sqf F xs) (Om F (Xa xs) (Ys (Xa xs)))) x:=by rw [<-f4]
  rw [this,Yp]
 have w:Ed (Om F (Xa xs) (Ys (Xa xs))) (ld (Xa xs)):=((Zby hs e g).2.ed).congr λx=>Mz _ x;exact(Yhz o (Zds _ hs e) f5 w (Yhm k) n).root k
def Away(s t:Rat)(f:Rat->Rat):Prop:=∃δ:Rat,0<δ/\∀x,s<=x->x<=t->δ<=f x\/f x<=-δ
theorem Away.mul{s:Rat}{f g h:Rat->Rat}(F:Away s t f)(G:Away s t g)(e:∀x,h x=f x*g x):Away s t h:=by
 obtain⟨a,l,n⟩:=F;obtain⟨b,o,w⟩:=G;refine⟨a*b,aY l o,λx j k=>?_⟩;rw [e x];rcases n x j k with B|B<;>rcases w x j k with D|D
 .left;have:=aI (a:=f x-a) (b:=g x) O4 O4;have:=aI (a:=a) (b:=g x-b) O4 O4;grind
 .right;have:=aI (a:=f x-a) (b:=- g x) O4 O4;have:=aI (a:=a) (b:=- g x-b) O4 O4;grind
 .right;have:=aI (a:=- f x-a) (b:=g x) O4 O4;have:=aI (a:=a) (b:=g x-b) O4 O4;grind
 .left;have:=aI (a:=- f x-a) (b:=- g x) O4 O4;have:=aI (a:=a) (b:=- g x-b) O4 O4;grind
theorem Away.lin{s:Rat}(j:0<d)(h:(r:Rat)<d*s\/(d:Rat)*t<r):Away s t (Zb [-r,d]):=by
 have k:(0:Rat)<(d:Rat):=by exact_mod_cast j
 rcases h with h|h
 .refine⟨d*s-r,O4,λx e g=> .inl ?_⟩;rw [Zg3];have:=aI (a:=(d:Rat)) (b:=x-s) O4 O4;grind
 .refine⟨r-d*t,O4,λx e g=> .inr ?_⟩;rw [Zg3];have:=aI (a:=(d:Rat)) (b:=t-x) O4 O4;grind
theorem Away.sq(s t:Rat):Away s t (Zb [1,0,1]):=⟨1,O3,λx _ _=>by
 left;show(1:Rat)<=((1:Int):Rat)+x*(((0:Int):Rat)+x*(((1:Int):Rat)+x*0));have:0<=x*x:=by
  rcases(show 0<=x\/x<0 by grind)with h|h
  .exact aI h h
  .have:=aI (a:=-x) (b:=-x) O4 O4;grind
 push_cast;grind⟩
theorem Away.one(s t:Rat):Away s t (Zb [1]):=⟨1,O3,λx _ _=>by left;rw [Qs];exact iI⟩
def cntP(P:Int->Prop)[DecidablePred P](m:Int):Nat->Int
 | 0=>0
 | n+1=>cntP P m n+(if P (m+n+1)then 1 else 0)
def eB(K C:Nat):Nat->Nat
 | 0=>0
 | n+1=>C+K*eB K C n
def eL(K C:Nat):Nat->Nat
 | 0=>0
 | n+1=>K*eL K C n+eB K C n
def eM(K C:Nat):Nat->Nat
 | 0=>0
 | n+1=>eL K C n+K*eM K C n
theorem Iv{a b:Nat}(h:a<=b):(a:Rat)<=(b:Rat):=by exact_mod_cast h
theorem Yee{C:Nat}(h:c.natAbs<=C):-(C:Rat)<=(c:Rat)/\(c:Rat)<=(C:Rat):=by
 have e:((-(C:Int):Int):Rat)<=(c:Rat):=by exact_mod_cast (show -(C:Int)<=c by omega)
 have g:(c:Rat)<=(((C:Nat):Int):Rat):=by exact_mod_cast (show c<=(C:Int) by omega)
 push_cast at e g;constructor<;>grind
def Znn{C:Nat}(h:∀i,(cf (c::p) i).natAbs<=C):c.natAbs<=C/\∀i,(cf p i).natAbs<=C:=⟨h 0,λi=>h (i+1)⟩
theorem Zl4{K C:Nat} : ∀(n:Nat) (p:List Int),p.length<=n->(∀i,(cf p i).natAbs<=C)->∀x:Rat,-(K:Rat)<=x->x<=(K:Rat)->-(eB K C n:Rat)<=Zb p x/\Zb p x<=(eB K C n:Rat)
 | n,[],_,_,x,_,_=>by have h:(0:Rat)<=(eB K C n:Rat):=Iv (bB _);show -(eB K C n:Rat)<=0/\(0:Rat)<=(eB K C n:Rat);constructor<;>grind
 | 0,c::p,hl,_,_,_,_=>absurd hl O7
 | n+1,c::p,hl,hc,x,h1,h2=>by
  obtain⟨g,j⟩:=Znn hc;obtain⟨k,l⟩:=Zl4 n p (by simpa using hl) j x h1 h2;obtain⟨w,B⟩:=Yee g;have o:(0:Rat)<=(K:Rat):=Iv (bB _);obtain⟨f1,f2⟩:=Zac h1 h2 k l o;have e:((eB K C (n+1):Nat):Rat)=(C:Rat)+(K:Rat)*(eB K C n:Rat):=by show((C+K*eB K C n:Nat):Rat)=_;push_cast;rfl
  rw [e,show Zb (c::p) x=(c:Rat)+x*Zb p x from rfl];constructor<;>grind
theorem Zl3{K C:Nat} : ∀(n:Nat) (p:List Int),p.length<=n->(∀i,(cf p i).natAbs<=C)->Lip (-(K:Rat)) (K:Rat) (eL K C n:Rat) (Zb p)
 | n,[],_,_,x,y,_,k,_=>by have h:(0:Rat)<=(eL K C n:Rat):=Iv (bB _);have:=aI (a:=(eL K C n:Rat)) (b:=y-x) h O4;show(0:Rat)-0<=_/\(0:Rat)-0<=_;constructor<;>grind
 | 0,c::p,hl,_,_,_,_,_,_=>absurd hl O7
 | n+1,c::p,hl,hc,x,y,h1,k,h2=>by
  obtain⟨o,j⟩:=Znn hc;obtain⟨w,B⟩:=Zl3 n p (by simpa using hl) j x y h1 k h2;obtain⟨D,F⟩:=Zl4 n p (by simpa using hl) j y O4 h2;have l:(0:Rat)<=(K:Rat):=Iv (bB _);obtain⟨f1,f2⟩:=Zac (q:=x) (g:=Zb p x-Zb p y) (e:=(eL K C n:Rat)*(y-x)) h1 O4 O4 O4 l;have G:=aI (a:=(eB K C n:Rat)-Zb p y) (b:=y-x) O4 O4;have H:=aI (a:=(eB K C n:Rat)+Zb p y) (b:=y-x) O4 O4;have e:((eL K C (n+1):Nat):Rat)=(K:Rat)*(eL K C n:Rat)+(eB K C n:Rat):=by show((K*eL K C n+eB K C n:Nat):Rat)=_;push_cast;rfl
  rw [e,show Zb (c::p) x=(c:Rat)+x*Zb p x from rfl,show Zb (c::p) y=(c:Rat)+y*Zb p y from rfl];constructor<;>grind
theorem Yal{K C:Nat} : ∀(n:Nat) (p:List Int),p.length<=n->(∀i,(cf p i).natAbs<=C)->Tay (-(K:Rat)) (K:Rat) (eM K C n:Rat) p
 | n,[],_,_,x,y,_,j,_=>by have h:(0:Rat)<=(eM K C n:Rat):=Iv (bB _);have B:=aI (a:=y-x) (b:=y-x) O4 O4;have:=aI h B;show -((eM K C n:Rat)*(y-x)*(y-x))<=(0:Rat)-0-(y-x)*0/\(0:Rat)-0-(y-x)*0<=(eM K C n:Rat)*(y-x)*(y-x);constructor<;>grind
 | 0,c::p,hl,_,_,_,_,_,_=>absurd hl O7
 | n+1,c::p,hl,hc,x,y,hs,j,ht=>by
  obtain⟨F,k⟩:=Znn hc;obtain⟨o,w⟩:=Yal n p (by simpa using hl) k x y hs j ht;obtain⟨G,H⟩:=Zl3 n p (by simpa using hl) k x y hs j ht;have D:(0:Rat)<=(K:Rat):=Iv (bB _);have l:0<=y-x:=O4;obtain⟨f1,f2⟩:=Zac (q:=x) (Q:=(K:Rat)) (g:=Zb p y-Zb p x-(y-x)*Zb (ld p) x) (e:=(eM K C n:Rat)*(y-x)*(y-x)) hs O4 o w D;have I:=aI (a:=y-x) (b:=(eL K C n:Rat)*(y-x)-(Zb p y-Zb p x)) l O4;have M:=aI (a:=y-x) (b:=(eL K C n:Rat)*(y-x)+(Zb p y-Zb p x)) l O4;have e:((eM K C (n+1):Nat):Rat)=(eL K C n:Rat)+(K:Rat)*(eM K C n:Rat):=by show((eL K C n+K*eM K C n:Nat):Rat)=_;push_cast;rfl
  rw [e,Zd3,show Zb (c::p) y=(c:Rat)+y*Zb p y from rfl,show Zb (c::p) x=(c:Rat)+x*Zb p x from rfl];constructor<;>grind
theorem Zsu{A:Nat}(w:Tr a)(hb:Tr b)(Y:2<=a.length)(lb:b.length+1=a.length)(hA:0<A)(na:∀i,(cf a i).natAbs<=A)(nb:∀i,(cf b i).natAbs<=A)(hc:∀q,Tr q->Ed q a->Ed q b->q.length<=1) :
  ∃(U V:List Int) (c:Int),c≠0/\U.length+2=a.length/\V.length+1=a.length/\(∀i,(cf U i).natAbs<=(2*(2*a.length-3)*A)^(2*a.length-4))/\(∀i,(cf V i).natAbs<=(2*(2*a.length-3)*A)^(2*a.length-4))/\
   ∀x,(c:Rat)=Zb U x*Zb a x+Zb V x*Zb b x:=by
 obtain⟨U,V,lU,lV,k,B,D,hz⟩:=Zf6 a b 1 (p:=a.length-2) (q:=a.length-1) hA na nb O O O;have l:¬(tzl U=[]/\tzl V=[]):=λ⟨h1,h2⟩=>by
  rcases k with⟨i,hi⟩|⟨i,hi⟩
  .exact hi ((Mc U).1 h1 i)
  .exact hi ((Mc V).1 h2 i)
 clear k;rw [show a.length-2+(a.length-1)=2*a.length-3 by omega]at B D;rw [show 2*a.length-3-1=2*a.length-4 by omega]at B D;have j:a≠[]:=λe=>by rw [e]at Y;simp at Y
 have M:∀i,cf (Oo (lmul U a) (lmul V b)) i=(ps U*ps a).c i+(ps V*ps b).c i:=λi=>by rw [Nl,Gk,Gk,PS.mul_c,PS.mul_c];rfl
 have I:∀t,Zb (Oo (lmul U a) (lmul V b)) t=Zb U t*Zb a t+Zb V t*Zb b t:=λt=>by rw [Yw,Zq,Zq]
 generalize Oo (lmul U a) (lmul V b)=R at M I;have W:∀t,Zb R t=(cf R 0:Rat):=λt=>by
  rw [<-Qs (cf R 0) t];refine Pv t _ _ λi=>?_
  match i with
  | 0=>rfl
  | i+1=>rw [M,hz (i+1) O,Yl O7]
 refine⟨U,V,cf R 0,λh0=>?_,O,O,B,D,λx=>by rw [<-I,W]⟩;have n:∀t,Zb U t*Zb a t+Zb V t*Zb b t=0:=λt=>by rw [<-I,W,h0];rfl
 obtain⟨g,P,Q,h,N,Z,F⟩:=Zjp _ a b w hb (aK _);have hl:=hc g h N Z;have hg:=(N.len h w j).1;have o:tzl V=[]:=by
  refine bF λo=>?_
  match g,hg,hl,h,F with
  | [c],_,_,h,F=>
   have H:c≠0:=h.mem O7;have hd:Ed a (tzl V):=⟨c,Oo (lmul P V) ((lmul Q U).map λz=>(-1)*z),H,λx=>by have S:=F x;rw [Qs]at S;rw [Nh,Yw,Zg,Zq,Zq,S];have:=n x;have e:Zb V x*Zb b x=- (Zb U x*Zb a x):=O4;have:(Zb P x*Zb a x+Zb Q x*Zb b x)*Zb V x=Zb P x*Zb V x*Zb a x+Zb Q x*(Zb V x*Zb b x):=O4;rw [this,e];push_cast;grind⟩
   have:=(hd.len w (Qa V) o).2;have:=Kl V;omega
  | c::d::r,_,h9,_,_=>simp at h9
 have G:tzl U=[]:=by
  refine bF λG=>?_;have:∀t,Zb a t=0:=Ga U G λt=>by have:=n t;rw [Ci o]at this;grind
  exact w.mem j (Zl6 this _)
 exact l ⟨G,o⟩
def Ztz(K A n e:Nat):Bool:=
 let X:=(2*(2*n-3)*A)^(2*n-4);let W:=eB K X (n-1)
 Nat.ble (2*(2*W+1)*(2*eL K A n)) (2^e) && Nat.ble (2*(2*W+1)*eM K A n) (2^e)
theorem big_or  {A n e:Nat} (hK:0<K) (Y:0<A) (Z:Tr a) (hb:Tr b) (hn:a.length=n) (h2:2<=n) (lb:b.length+1=a.length) (na:∀i,(cf a i).natAbs<=A) (nb:∀i,(cf b i).natAbs<=A) (hc:∀q,Tr q->Ed q a->Ed q b->q.length<=1)
  (x:Rat) (B:-(K:Rat)<=x) (D:x<=(K:Rat)):Big (1/((2*eB K ((2*(2*n-3)*A)^(2*n-4)) (n-1)+1:Nat):Rat)) x (Zb a)\/Big (1/((2*eB K ((2*(2*n-3)*A)^(2*n-4)) (n-1)+1:Nat):Rat)) x (Zb b):=by
 obtain⟨U,V,c,S,lU,lV,o,w,k⟩:=Zsu Z hb O lb Y na nb hc;rw [hn]at o w;generalize (2*(2*n-3)*A)^(2*n-4)=X at *;obtain⟨u1,u2⟩:=Zl4 (n-1) U O o x B D;obtain⟨v1,v2⟩:=Zl4 (n-1) V O w x B D;generalize eB K X (n-1)=W at *;have G:(0:Rat)<=(W:Rat):=Iv (bB _);have F:(0:Rat)<((2*W+1:Nat):Rat):=by
   have:(((0:Nat)):Rat)<((2*W+1:Nat):Rat):=by exact_mod_cast mE _
   exact this
 have g:((2*W+1:Nat):Rat)=2*(W:Rat)+1:=by push_cast;rfl
 generalize H:1/((2*W+1:Nat):Rat)=ε;have l:ε*(2*(W:Rat)+1)=1:=by rw [<-H,g];rw [g]at F;grind
 have a0:0<=ε:=by rw [<-H];have:=fX.2 F;rw [iY];grind
 by_cases I:Big ε x (Zb a)
 .exact .inl I
 .by_cases M:Big ε x (Zb b)
  .exact .inr M
  .exfalso;obtain⟨N,P⟩:=Zb2 I;obtain⟨Q,R⟩:=Zb2 M;obtain⟨q1,q2⟩:=Zac u1 u2 N P G;obtain⟨r1,r2⟩:=Zac v1 v2 Q R G;have h4:=k x;have j:(c:Rat)<=-1\/1<=(c:Rat):=by
    rcases nK S with h|h
    .left;have:((c:Int):Rat)<=((-1:Int):Rat):=by exact_mod_cast (show c<=-1 by omega)
     rwa [show(((-1:Int)):Rat)=-1 from rfl]at this
    .right;have:1<=c:=O;exact_mod_cast this
   have a3:0<ε:=by
    rcases(show ε=0\/0<ε by grind)with h|h
    .rw [h]at l;grind
    .exact h
   rcases j with j|j<;>grind
theorem two_pow_pos(e:Nat):(0:Rat)<((2^e:Nat):Rat):=by have:0<2^e:=bQ O3;exact_mod_cast this
theorem Yjc  {F A n e:Nat} (hx:Tr xs) (h0:xs≠[]) (hC:Ce F xs) (hK:0<K) (hA:0<A) (hn:(sqf F xs).length=n) (h2:2<=n) (Y:∀i,(cf (sqf F xs) i).natAbs<=A) (nb:∀i,(cf (Ys (sqf F xs)) i).natAbs<=A) (hs:Ztz K A n e=true)
  {u v:Rat} (h1:-(K:Rat)<=u) (V:u<=v) (h3:v<=(K:Rat)) (hh:v-u<=1/((2^e:Nat):Rat)) :
  vat ((chn F xs).map Zb) u-vat ((chn F xs).map Zb) v=crs (Zb (sqf F xs)) u v:=by
 have G:=hC.1.2.2.1;obtain⟨f1,f2,f3,f4,f5,f6⟩:=Pu F hx h0 G;have g:=Ov f2;have B:=Of (sqf F xs);have hd:Ys (sqf F xs)≠[]:=λe=>by rw [e]at B;simp at B;omega
 have S:1<=Xb (Ys (sqf F xs)):=by have h1:=Bq g hd;have h2:=Ni (Ys (sqf F xs));omega
 have a1:(1:Rat)<=(Xb (Ys (sqf F xs)):Rat):=by exact_mod_cast S
 have H:∀i,(cf (Yi (Ys (sqf F xs))) i).natAbs<=A:=λi=>by have h5:=Hf (Ys (sqf F xs)) i;have h6:=nb i;rw [<-h5,cJ]at h6;have:(cf (Yi (Ys (sqf F xs))) i).natAbs*1<=(cf (Yi (Ys (sqf F xs))) i).natAbs*(Xb (Ys (sqf F xs))).natAbs:=bD _ O;omega
 have l:∀q,Tr q->Ed q (sqf F xs)->Ed q (Yi (Ys (sqf F xs)))->q.length<=1:=λq hq a b=>Zdw hx h0 G hq a (b.sim (Qe g));have R:(Yi (Ys (sqf F xs))).length+1=(sqf F xs).length:=by rw [Zw];omega
 have j:=big_or (e:=e) hK hA f2 (Yy g) hn h2 R Y H l;unfold Ztz at hs;simp only [aP,Nat.ble_eq]at hs;obtain⟨s1,s2⟩:=hs;generalize (2*(2*n-3)*A)^(2*n-4)=X at *;generalize eB K X (n-1)=W at *;have hD:(0:Rat)<((2*W+1:Nat):Rat):=by
   have:(((0:Nat)):Rat)<((2*W+1:Nat):Rat):=by exact_mod_cast mE _
   exact this
 have hP:=two_pow_pos e;have Z:=Iv s1;have a0:=Iv s2;have c1:((2*(2*W+1)*(2*eL K A n):Nat):Rat)=2*((2*W+1:Nat):Rat)*(2*(eL K A n:Rat)):=by push_cast;rfl
 have c2:((2*(2*W+1)*eM K A n:Nat):Rat)=2*((2*W+1:Nat):Rat)*(eM K A n:Rat):=by push_cast;rfl
 rw [c1]at Z;rw [c2]at a0;have hi:=fX.2 hD;have Q:=fX.2 hP;have o:((2*W+1:Nat):Rat)*((2*W+1:Nat):Rat)⁻¹=1:=O4;have w:((2^e:Nat):Rat)*((2^e:Nat):Rat)⁻¹=1:=O4;rw [iY,oE]at hh;simp only [iY,oE]at j;generalize ((2*W+1:Nat):Rat)=D at *;generalize ((2^e:Nat):Rat)=P at *;have k:(0:Rat)<=(eL K A n:Rat):=Iv (bB _);have N:(0:Rat)<=(eM K A n:Rat):=Iv (bB _);refine Zf4 (s:=-(K:Rat)) (t:=(K:Rat)) (κ:=(Xb (Ys (sqf F xs)):Rat)) (ε:=D⁻¹) (L:=(eL K A n:Rat)) (L':=(eL K A n:Rat)) (M:=(eM K A n:Rat)) (h:=P⁻¹) f2 (Yy g) hC.2.2 O4 (λx=>?_) hi j k (Zl3 n _ O Y) k (Zl3 n _ O H) N (Yal n _ O Y) Q ?_ ?_ h1 V h3 hh
 .rw [<-Mz,<-Zg];exact Pv x _ _ λi=>by rw [Xo,dJ,Hf]
 .-- P⁻¹ * (2 L) ≤ D⁻¹ / 2
  have t1:=aI (a:=P⁻¹*D⁻¹) (b:=P-2*D*(2*(eL K A n:Rat))) (by have:=aY Q hi;grind) O4;have I:P⁻¹*D⁻¹*(P-2*D*(2*(eL K A n:Rat)))=D⁻¹*(P*P⁻¹)-2*P⁻¹*(D*D⁻¹)*(2*(eL K A n:Rat)):=O4;rw [I,o,w]at t1;grind
 .have t1:=aI (a:=P⁻¹*D⁻¹) (b:=P-2*D*(eM K A n:Rat)) (by have:=aY Q hi;grind) O4;have I:P⁻¹*D⁻¹*(P-2*D*(eM K A n:Rat))=D⁻¹*(P*P⁻¹)-2*P⁻¹*(D*D⁻¹)*(eM K A n:Rat):=O4;rw [I,o,w]at t1;have t2:=aI (a:=(Xb (Ys (sqf F xs)):Rat)-1) (b:=D⁻¹) O4 O4;grind
theorem Zjj{F:Nat}(R:Tr xs)(I:xs≠[])(P:Ce F xs){s:Rat}(o:s<=t):vat ((chn F xs).map Zb) t<=vat ((chn F xs).map Zb) s:=by
 obtain⟨h,M,B⟩:=Zji R I P s t;have G:∀f u v,0<=crs f u v:=λf u v=>by unfold crs;split<;>decide
 have w:∀n:Nat,∀y,s<=y->y<=t->y-s<=(n:Rat)*h->vat ((chn F xs).map Zb) y<=vat ((chn F xs).map Zb) s:=λn=>by
  induction n with
  | zero=>
    intro y e g j;have:y=s:=by simp at j;grind
    rw [this];exact fV _
  | succ n H=>
   intro y e g j;have D:((n+1:Nat):Rat)*h=(n:Rat)*h+h:=by push_cast;grind
   rcases(show y-s<=(n:Rat)*h\/(n:Rat)*h<y-s by grind)with k|k
   .exact H y e g k
   .have N:(0:Rat)<=(n:Rat)*h:=aI (by exact_mod_cast bB n) O4;rcases(show s<=y-h\/y-h<s by grind)with l|l
    .have a:=H (y-h) l O4 O4;have b:=B (y-h) y l O4 g O4;have c:=G (Zb (sqf F xs)) (y-h) y;omega
    .have b:=B s y O4 e g O4;have c:=G (Zb (sqf F xs)) s y;omega
 have e:∃n:Nat,t-s<=(n:Rat)*h:=by
  have g:0<h⁻¹:=fX.2 M;refine⟨((t-s)*h⁻¹).ceil.toNat,?_⟩;have j:=@oD ((t-s)*h⁻¹);have D:((((t-s)*h⁻¹).ceil:Int):Rat)<=((((t-s)*h⁻¹).ceil.toNat:Nat):Rat):=by have:((t-s)*h⁻¹).ceil<=((((t-s)*h⁻¹).ceil.toNat:Nat):Int):=lP _;exact_mod_cast this
  have k:=dH (nW j D) (show 0<=h by grind);have N:(t-s)*h⁻¹*h=t-s:=O4;grind
 obtain⟨n,Q⟩:=e;exact w n t o O4 Q
end Go.Sky

