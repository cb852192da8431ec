/- Rules, arithmetic and contracts: part 6. No conditions but those that each theorem names. -/
import Derived.Test.YtpmihempjefadaaGreatAo04
set_option linter.all false
namespace Go.Sky
variable{xs x p q a b s u y v z:List Int}{ls:List (List Int)}{f m i K:Nat}{c d r:Int}{t:Rat}
theorem Ykz{F:Nat}(o:Tr xs)(l:xs≠[])(j:eok F (gA (Xj xs) (Xb (Xj xs))) (gB (Xj xs) (Xb (Xj xs)))):∃g:List Int,∀x,Zb xs x=Zb (sqf F xs) x*Zb g x:=by
 obtain⟨f1,f2,f3,f4,f5,f6⟩:=Nf F o l j;have h:∃k:Int,∀i,cf xs i=k*cf (Xj xs) i:=by
  unfold Xj Hz;split
  .refine⟨-Xl xs,λi=>?_⟩;rw [Qo,<-Fi xs i];grind
  .refine⟨Xl xs,λi=>?_⟩;rw [<-Fi xs i];grind
 obtain⟨k,h⟩:=h;refine⟨(Nz F (Xj xs) (Xb (Xj xs))).map λa=>k*a,λx=>?_⟩;have n:Zb (Xj xs) x=Zb (sqf F xs) x*Zb (Nz F (Xj xs) (Xb (Xj xs))) x:=by
  have:=Dt 1 0 (Xj xs) (sqf F xs) (Nz F (Xj xs) (Xb (Xj xs))) [] (λt=>by have e:=He (sqf F xs) (Nz F (Xj xs) (Xb (Xj xs))) t;rw [<-f4]at e;rw [e];omega) x
  push_cast at this;grind
 have e:Zb xs x=Zb ((Xj xs).map λa=>k*a) x:=Ng x _ _ λi=>by rw [Qh];exact h i
 rw [e,Zg,Zg,n];grind
theorem Yj1{x:Rat}{f:List Int->Int}(h:∀p∈ls,Er (Zb p x)=f p):vat (ls.map Zb) x=chg (ls.map f):=by unfold vat;rw [iC];exact aL chg (kX λp e=>h p e)
def Yne{F:Nat}{X Y:Int}(e:0<Y):cnt F xs X Y=vat ((chn F xs).map Zb) ((X:Rat)/(Y:Rat)):=
 (Yj1 λp _=>(Zpr e p).symm).symm
theorem Zzd(t:Int):∀p:List Int,Zb p (t:Rat)=((ev1 p t:Int):Rat)
 | []=>rfl
 | c::p=>by have h:=Zzd t p;rw [show Zb (c::p) (t:Rat)=(c:Rat)+(t:Rat)*Zb p (t:Rat)from rfl,show ev1 (c::p) t=c+t*ev1 p t from rfl,h];push_cast;rfl
theorem Zol(h:∀x:Rat,Zb p x=0)(i:Nat):cf p i=0:=by
 by_cases j:cf p i=0
 .exact j
 .exfalso;have:=Zrv p.length p ((List.range p.length).map λn:Nat=>(n:Int)) rfl ⟨i,j⟩ (by
   refine List.Pairwise.map _ (λa b g=>?_) List.nodup_range;intro e;exact g (by exact_mod_cast e)) (λt l=>by
   have k:=Zzd t p;rw [h]at k;exact_mod_cast k.symm)
  simp at this
theorem Mi(h:∀x:Rat,Zb p x=Zb q x)(i:Nat):cf p i=cf q i:=by have e:=Zol (p:=Mb p (q.map λa=>(-1)*a)) (λx=>by rw [Xd,Zg,h x];push_cast;grind) i;rw [My,Qh]at e;omega
def Mt(p:List Int)(x:Rat):Zb (tzl p) x=Zb p x:=Ng x _ _ λi=>Ik p i
theorem Yv(p q:List Int)(x:Rat):Zb (Qr p q) x=Zb p x*Zb q x:=by rw [<-Zp];exact Ng x _ _ λi=>by rw [He,Em,PS.mul_c];rfl
theorem Pi(c:Int)(x:Rat):Zb [c] x=(c:Rat):=by show(c:Rat)+x*0=c;grind
def ld:List Int->List Int
 | []=>[]
 | _::p=>Mb p (0::ld p)
theorem Zfn(c:Int)(p:List Int)(x:Rat):Zb (ld (c::p)) x=Zb p x+x*Zb (ld p) x:=by rw [show ld (c::p)=Mb p (0::ld p)from rfl,Xd];show Zb p x+(((0:Int):Rat)+x*Zb (ld p) x)=_;push_cast;grind
theorem Zgn:∀(p:List Int) (i:Nat),cf (ld p) i=cf p (i+1)*((i:Int)+1)
 | [],i=>by rw [Zc5,show ld []=[]from rfl,Zc5,dC]
 | c::p,0=>by rw [show ld (c::p)=Mb p (0::ld p)from rfl,My];show cf p 0+0=cf p 0*_;simp
 | c::p,i+1=>by have h:=Zgn p i;rw [show ld (c::p)=Mb p (0::ld p)from rfl,My];show cf p (i+1)+cf (ld p) i=cf p (i+1)*_;rw [h];push_cast;grind
theorem Km(p:List Int)(x:Rat):Zb (Xb p) x=Zb (ld p) x:=Ng x _ _ λi=>by rw [Zgm,Zgn]
theorem Cd (p:List Int)(q:List Int)(h:∀x,Zb p x=Zb q x)(x:Rat):Zb (ld p) x=Zb (ld q) x:=Ng x _ _ λi=>by rw [Zgn,Zgn,Mi h]
theorem Yk6(p q:List Int)(x:Rat):Zb (ld (Mb p q)) x=Zb (ld p) x+Zb (ld q) x:=by rw [<-Xd];exact Ng x _ _ λi=>by rw [Zgn,My,My,Zgn,Zgn];grind
theorem Aq(c:Int)(p:List Int)(x:Rat):Zb (ld (p.map λa=>c*a)) x=(c:Rat)*Zb (ld p) x:=by rw [<-Zg];exact Ng x _ _ λi=>by rw [Zgn,Qh,Qh,Zgn];grind
theorem Cu(x:Rat):∀p q:List Int,Zb (ld (lmul p q)) x=Zb (ld p) x*Zb q x+Zb p x*Zb (ld q) x
 | [],q=>by show(0:Rat)=0*Zb q x+0*Zb (ld q) x;grind
 | c::p,q=>by have h:=Cu x p q;rw [show lmul (c::p) q=Mb (q.map λa=>c*a) (0::lmul p q)from rfl,Yk6,Aq,Zfn,Zfn,h,Zp,show Zb (c::p) x=(c:Rat)+x*Zb p x from rfl];grind
def Ed(g a:List Int):Prop:=∃(k:Int) (s:List Int),k≠0/\∀x:Rat,(k:Rat)*Zb a x=Zb s x*Zb g x
theorem Ed.refl(a:List Int):Ed a a:=⟨1,[1],O3,λx=>by rw [Pi]⟩
theorem Ed.nil(g:List Int):Ed g []:=⟨1,[],O3,λx=>by show(((1:Int)):Rat)*0=0*Zb g x;grind⟩
theorem Ed.trans{c:List Int} : Ed a b->Ed b c->Ed a c:=λ⟨k,s,j,h⟩ ⟨m,u,l,e⟩=>
 ⟨k*m,lmul u s,bG j l,λx=>by have n:=h x;have g:=e x;rw [Zp];push_cast;have:(k:Rat)*m*Zb c x=k*(m*Zb c x):=O4;rw [this,g];grind⟩
theorem Ed.congr{g:List Int}(h:Ed g a)(e:∀x,Zb a x=Zb b x):Ed g b:=by obtain⟨k,s,j,h⟩:=h;exact⟨k,s,j,λx=>by rw [<-e x];exact h x⟩
theorem Ed.congr_l{g j:List Int}(h:Ed g a)(e:∀x,Zb g x=Zb j x):Ed j a:=by obtain⟨k,s,l,h⟩:=h;exact⟨k,s,l,λx=>by rw [<-e x];exact h x⟩
theorem Ed.sim{g:List Int}(h:Ed g a)(e:Sim a b):Ed g b:=by
 obtain⟨k,s,o,h⟩:=h;obtain⟨m,n,B,w,e⟩:=e;refine⟨k*n,s.map λc=>m*c,bG o w,λx=>?_⟩;have j:Zb (a.map λc=>m*c) x=Zb (b.map λc=>n*c) x:=Ng x _ _ λi=>by rw [Qh,Qh,e]
 rw [Zg,Zg]at j;rw [Zg];have:=h x;push_cast;have l:(k:Rat)*n*Zb b x=k*(n*Zb b x):=O4;rw [l,<-j];grind
theorem Ed.lin{g c:List Int}(w:Ed g a)(B:Ed g b)(s:List Int)(L:Int)(o:L≠0)(h:∀x,(L:Rat)*Zb c x=Zb s x*Zb a x+Zb b x):Ed g c:=by obtain⟨k,u,D,j⟩:=w;obtain⟨m,v,F,l⟩:=B;refine⟨L*(k*m),Mb ((lmul s u).map λc=>m*c) (v.map λc=>k*c),bG o (bG D F),λx=>?_⟩;have j:=j x;have l:=l x;have h:=h x;rw [Xd,Zg,Zg,Zp];push_cast;have e:(L:Rat)*(k*m)*Zb c x=k*m*(L*Zb c x):=O4;rw [e,h];have n:(k:Rat)*m*(Zb s x*Zb a x+Zb b x)=m*Zb s x*(k*Zb a x)+k*(m*Zb b x):=O4;rw [n,j,l];grind
theorem Zv5{g:List Int}{k:Int}(M:k≠0)(I:Tr g)(H:Tr a)(G:a≠[])(h:∀x:Rat,(k:Rat)*Zb a x=Zb s x*Zb g x):g≠[]/\tzl s≠[]/\(tzl s).length+g.length<=a.length+1:=by
 have o:∀i,k*cf a i=(ps (tzl s)*ps g).c i:=λi=>by have j:=Mi (p:=a.map λc=>k*c) (q:=lmul (tzl s) g) (λx=>by rw [Zg,Zp,Mt];exact h x) i;rw [Qh,Em]at j;rw [j,PS.mul_c];rfl
 have F:∀i,k*cf a i=0->cf a i=0:=λi hi=>(fA.1 hi).resolve_left M;have l:=H.mem G;have j:tzl s≠[]:=λe=>l (F _ (by rw [o,e,Kd (λt=>Yo (bI _))]));have n:g≠[]:=λe=>l (F _ (by rw [o,e,PS.mul_comm',Kd (λt=>Yo (bI _))]));refine⟨n,j,?_⟩;have N:=aH.2 j;have P:=aH.2 n;have B:=Bu g (p:=tzl s) (a:=(tzl s).length-1) (b:=g.length-1) (λi hi=>Yo O) (λi hi=>Yo O);rw [<-o]at B;have w:=bG ((Qq s).mem j) (I.mem n);rcases aX ((tzl s).length-1+(g.length-1)) a.length with D|D
 .omega
 .rw [Yo D,eC]at B;exact absurd B.symm w
theorem Ed.len{g:List Int}(h:Ed g a)(o:Tr g)(n:Tr a)(l:a≠[]):g≠[]/\g.length<=a.length:=by obtain⟨k,s,w,h⟩:=h;obtain⟨e,j,B⟩:=Zv5 w o n l h;have:=aH.2 j;exact⟨e,O⟩
theorem Ed.same{g:List Int}(h:Ed g a)(D:Tr g)(w:Tr a)(o:a≠[])(H:g.length=a.length):Ed a g:=by
 obtain⟨k,s,F,h⟩:=h;obtain⟨G,j,n⟩:=Zv5 F D w o h;have e:=aH.2 j
 match hs:tzl s,e,n with
 | [c],_,_=>
  have B:c≠0:=by have:=(Qq s).mem j;rw [hs]at this;exact this
  refine⟨c,[k],B,λx=>?_⟩;have l:=h x;rw [<-Mt s,hs,Pi]at l;rw [Pi];exact l.symm
 | c::d::r,_,h9=>simp at h9;omega
theorem Zlz:∀(n:Nat) (a b:List Int),Tr a->Tr b->b.length<=n->∃g A B:List Int,Tr g/\Ed g a/\Ed g b/\∀x,Zb g x=Zb A x*Zb a x+Zb B x*Zb b x
 | n,a,[],j,l,_=>⟨a,[1],[],j,Ed.refl a,Ed.nil a,λx=>by rw [Pi];show _=_+0*(0:Rat);push_cast;grind⟩
 | 0,a,c::r,_,_,hl=>absurd hl O8
 | n+1,a,c::b',j,l,hl=>by
  have h:(c::b')≠[]:=O8;generalize c::b'=b at *;obtain⟨k,s,hs⟩:=Zaw a h;have w:=Ke (l.mem h) k;generalize cf b (b.length-1)^k=L at hs w;have I:=Pr a h;obtain⟨g,A,B,F,o,G,H⟩:=Zlz n b (Qk a b) l (Ip _ j) O;have D:∀x,(L:Rat)*Zb a x=Zb s x*Zb b x+Zb (Qk a b) x:=λx=>by have:=Dt L (-1) a s b (Qk a b) (λt=>by rw [hs t];omega) x;push_cast at this;grind
  refine⟨g,B.map λc=>L*c,Mb A ((lmul B s).map λc=>(-1)*c),F,o.lin G s L w D,o,λx=>?_⟩;rw [Zg,Xd,Zg,Zp,H x];have:=D x;have e:Zb (Qk a b) x=L*Zb a x-Zb s x*Zb b x:=O4;rw [e];push_cast;grind
def Irr(q:List Int):Prop:=Tr q/\2<=q.length/\∀d,Tr d->Ed d q->d.length<=1\/d.length=q.length
theorem Zdr(h:2<=q.length):q≠[]:=λe=>by rw [e]at h;simp at h
theorem Yf1:∀(n:Nat) (q:List Int),q.length<=n->Tr q->2<=q.length->∃p,Irr p/\Ed p q
 | 0,q,B,_,j=>O
 | n+1,q,B,l,j=>by
  by_cases h:Irr q
  .exact⟨q,h,Ed.refl q⟩
  .have:∃d,Tr d/\Ed d q/\¬(d.length<=1\/d.length=q.length):=by refine bJ λw=>h ⟨l,j,λd e g=>bJ λo=>w ⟨d,e,g,o⟩⟩
   obtain⟨d,e,g,G⟩:=this;have D:=(g.len e l (Zdr j)).2;obtain⟨p,F,k⟩:=Yf1 n d O e O;exact⟨p,F,k.trans g⟩
theorem Za2 (f:List Int)(h:List Int)(m:List Int)(k:Int)(R:Irr q)(Q:k≠0)(e:∀x:Rat,(k:Rat)*(Zb f x*Zb h x)=Zb m x*Zb q x):Ed q f\/Ed q h:=by
 obtain⟨j,n,F⟩:=R;obtain⟨g,A,B,l,o,H,w⟩:=Zlz _ q (tzl f) j (Qq f) (aI _);have P:=(o.len l j (Zdr n)).1;rcases F g l o with D|D
 .right
  match g,P,D,l,w with
  | [c],_,_,l,w=>
   have N:c≠0:=l.mem O8;refine⟨c*k,Mb ((lmul A h).map λc=>k*c) (lmul B m),bG N Q,λx=>?_⟩;have G:=w x;have M:=e x;rw [Pi,Mt]at G;rw [Xd,Zg,Zp,Zp];push_cast;rw [G];have:(Zb A x*Zb q x+Zb B x*Zb f x)*k*Zb h x=k*Zb A x*Zb q x*Zb h x+Zb B x*(k*(Zb f x*Zb h x)):=O4;rw [this,M];grind
  | c::d::r,_,h9,_,_=>simp at h9
 .left;have I:=o.same l j (Zdr n) D;exact(I.trans H).congr λx=>Mt f x
def Fe(q:List Int):Nat->List Int
 | 0=>[1]
 | n+1=>Qr q (Fe q n)
theorem Zax{q:List Int}(j:Tr q)(g:2<=q.length):∀n,Tr (Fe q n)/\n+1<=(Fe q n).length
 | 0=>⟨.inr (show cf [1] 0≠0 by decide),aI _⟩
 | n+1=>by obtain⟨k,h⟩:=Zax j g n;refine⟨Qp,?_⟩;show n+1+1<=(Qr q (Fe q n)).length;rw [Ma j k (Zdr g) (λe=>by rw [e]at h;simp at h)];omega
def Fw(q:List Int)(n:Nat)(x:Rat):Zb (Fe q (n+1)) x=Zb q x*Zb (Fe q n) x:=Yv _ _ _
theorem Zom(q:List Int):∀(n:Nat) (x:Rat),Zb (ld (Fe q (n+1))) x=((n:Rat)+1)*(Zb (Fe q n) x*Zb (ld q) x)
 | n,x=>by
  have e:Zb (ld (Fe q (n+1))) x=Zb (ld (lmul q (Fe q n))) x:=Cd _ _ (λy=>by rw [Fw,Zp]) x;rw [e,Cu]
  match n with
  | 0=>
   rw [show Zb (ld (Fe q 0)) x=0 from by rw [show Fe q 0=[1]from rfl,Zfn];show(0:Rat)+x*0=0;grind];simp;grind
  | n+1=>
   rw [Zom q n x,Fw];push_cast;grind
theorem Ydj{g u:List Int}{c:Int}{k:Nat}(H:∀x:Rat,Zb p x=Zb s x*Zb g x)(G:∀d,Tr d->Ed d p->Ed d (ld p)->Ed d g)(hq:Irr q)(Z:Ed q s)(h2:Ed q (ld s))(hk:Ed (Fe q k) g):Ed (Fe q (k+1)) g:=by
 obtain⟨n,w,I⟩:=hq;obtain⟨l,h,k1,N⟩:=Z;obtain⟨B,s2,k2,W⟩:=h2;have V:∀x:Rat,(l:Rat)*Zb (ld s) x=Zb (ld h) x*Zb q x+Zb h x*Zb (ld q) x:=λx=>by have:=Cd (s.map λa=>l*a) (lmul h q) (λy=>by rw [Zg,Zp];exact N y) x;rwa [Aq,Cu]at this
 have h3:Ed q h:=by
  rcases Za2 h (ld q) (Mb (s2.map λa=>l*a) ((ld h).map λa=>(-B)*a)) _ ⟨n,w,I⟩ k2 (λx=>by have M:=V x;have Q:=W x;rw [Xd,Zg,Zg];push_cast;have:(B:Rat)*(Zb h x*Zb (ld q) x)=l*(B*Zb (ld s) x)-B*(Zb (ld h) x*Zb q x):=O4;rw [this,Q];grind)with h9|h9
  .exact h9
  .exfalso;have h8:Ed q (Xb q):=h9.congr λx=>(Km q x).symm;have P:=Nt q;have:=(h8.len n (Mg n) (λe=>by rw [e]at P;simp at P;omega)).2;omega
 obtain⟨o,j,k3,Y⟩:=h3;obtain⟨c,u,kc,eu⟩:=hk;have F:∀x:Rat,((l*o*c:Int):Rat)*Zb p x=Zb (lmul j u) x*Zb (Fe q (k+1+1)) x:=λx=>by rw [H x,Zp,Fw,Fw];push_cast;have M:=N x;have R:=Y x;have S:=eu x;have:(l:Rat)*o*c*(Zb s x*Zb g x)=o*(l*Zb s x)*(c*Zb g x):=O4;rw [this,M,S];have:(o:Rat)*(Zb h x*Zb q x)*(Zb u x*Zb (Fe q k) x)=(o*Zb h x)*Zb q x*(Zb u x*Zb (Fe q k) x):=O4;rw [this,R];grind
 have D:l*o*c≠0:=bG (bG k1 k3) kc;generalize l*o*c=C at F D;have hD:∀x:Rat,(C:Rat)*Zb (ld p) x=Zb (ld (lmul j u)) x*Zb (Fe q (k+1+1)) x+Zb (lmul j u) x*((((k+1:Nat):Rat)+1)*(Zb (Fe q (k+1)) x*Zb (ld q) x)):=λx=>by have:=Cd (p.map λa=>C*a) (lmul (lmul j u) (Fe q (k+1+1))) (λy=>by rw [Zg,Zp];exact F y) x;rwa [Aq,Cu,Zom]at this
 refine G _ (Zax n w _).1 ⟨C,lmul (lmul j u) q,D,λx=>?_⟩ ⟨C,Mb (lmul (ld (lmul j u)) q) ((lmul (lmul j u) (ld q)).map λa=>((k+2:Nat):Int)*a),D,λx=>?_⟩
 .rw [F x,Zp _ (lmul j u),Fw q (k+1)];grind
 .rw [hD x,Xd,Zg,Zp _ (ld (lmul j u)),Zp _ (lmul j u),Fw q (k+1)];push_cast;grind
theorem Ydl{g:List Int}(l:∀x:Rat,Zb p x=Zb s x*Zb g x)(G:Tr g)(B:g≠[])(j:∀d,Tr d->Ed d p->Ed d (ld p)->Ed d g)(H:Tr q)(D:Ed q s)(F:Ed q (ld s)):q.length<=1:=by
 refine bJ λh=>?_;obtain⟨r,n,e⟩:=Yf1 _ q (aI _) H O;have o:∀k,Ed (Fe r k) g:=λk=>by
  induction k with
  | zero=>exact⟨1,g,O3,λx=>by rw [show Fe r 0=[1]from rfl,Pi];push_cast;grind⟩
  | succ k I=>exact Ydj (u:=[]) (c:=0) l j n (e.trans D) (e.trans F) I
 obtain⟨w,M⟩:=Zax n.1 n.2.1 g.length;have:=((o g.length).len w G B).2;omega
theorem Ymw{d:List Int}(o:Tr b)(g:b≠[])(h:Ed d a)(j:Ed d b):Ed d (Qk a b):=by
  obtain⟨k,s,hs⟩:=Zaw a g;have n:=Ke (o.mem g) k;generalize cf b (b.length-1)^k=L at hs n;have w:∀x,(L:Rat)*Zb a x=Zb s x*Zb b x+Zb (Qk a b) x:=λx=>by have:=Dt L (-1) a s b (Qk a b) (λt=>by rw [hs t];omega) x;push_cast at this;grind
  have l:Ed d (a.map λc=>L*c):=by obtain⟨k,u,B,e⟩:=h;exact⟨k,u.map λc=>L*c,B,λx=>by rw [Zg,Zg];have:=e x;grind⟩
  exact j.lin l (s.map λc=>(-1)*c) 1 O3 λx=>by rw [Zg,Zg];push_cast;have:=w x;grind
theorem Ztb{d:List Int} : ∀(f:Nat) {a b:List Int},Tr a->Tr b->Ed d a->Ed d b->Ed d (eu f a b)
  | 0,a,b,_,_,e,_=>e
  | f+1,a,b,k,j,e,h=>by
    by_cases g:b=[]
    . rw [g,Zhk];exact e
    . rw [show eu (f + 1) a b = eu f b (Yi (Qk a b)) by
          conv=>lhs;unfold eu
          rw [aD g]]
      have t1:=Ip b k;exact Ztb f j (Xh t1) h ((Ymw j g e h).sim (Qu t1).symm)
theorem Zke{F:Nat}{d:List Int}(e:Tr p)(g:Tr q)(h:Ed d p)(j:Ed d q):Ed d (Nz F p q):=by
  have k:=h.sim (Qu e).symm;have l:=j.sim (Qu g).symm;unfold Nz;refine Ed.sim ?_ (Ix _).symm;refine Ztb F (Zjp e g) (Zjo e g) ?_ ?_
  . unfold gA;split<;>assumption
  . unfold gB;split<;>assumption
theorem Zff{F:Nat}(j:Tr xs)(k:xs≠[])(e:eok F (gA (Xj xs) (Xb (Xj xs))) (gB (Xj xs) (Xb (Xj xs))))(o:Tr q)(l:Ed q (sqf F xs))(n:Ed q (Xb (sqf F xs))):q.length<=1:=by
  obtain⟨f1,f2,f3,f4,f5,f6⟩:=Nf F j k e;have hs:Tr (Xj xs):=Nw (Xh j);have h:Tr (Xb (Xj xs)):=Mg hs;refine Ydl (p:=Xj xs) (s:=sqf F xs) (g:=Nz F (Xj xs) (Xb (Xj xs))) (λx=>?_) (Zfe _ hs h) f5 (λd _ a b=>?_) o l (n.congr λx=>Km _ x)
  . have:Zb (Xj xs) x=Zb (Qr (sqf F xs) (Nz F (Xj xs) (Xb (Xj xs)))) x:=by rw [<-f4]
    rw [this,Yv]
  . exact Zke hs h a (b.congr λx=>(Km _ x).symm)
theorem Za7:∀(l:List Int) (n z:Int),(l.foldl Me (n,z)).1=n+(l.foldl Me (0,z)).1
 | [],n,z=>O8
 | x::l,n,z=>by
  simp only [gV];by_cases h:x=0
  .have e:∀n,Me (n,z) x=(n,z):=λn=>by unfold Me;rw [aF h]
   rw [e,e];exact Za7 l n z
  .by_cases g:x=-z
   .have e:∀n,Me (n,z) x=(n+1,x):=λn=>by unfold Me;rw [aD h,aF (by dsimp only;exact g)]
    rw [e,e,Za7 l (n+1) x,Za7 l (0+1) x];omega
   .have e:∀n,Me (n,z) x=(n,x):=λn=>by unfold Me;rw [aD h,aD (by dsimp only;exact g)]
    rw [e,e];exact Za7 l n x
theorem Ynq{x y:Int}{l:List Int}(k:y≠0):chg (x::y::l)=chg (y::l)+(if x=-y then 1 else 0):=by
 unfold chg;simp only [gV];have g:Me (0,0) y=(0,y):=by unfold Me;rw [aD k,aD (by dsimp only;omega)]
 rw [g];by_cases j:x=0
 .have e:Me (0,0) x=(0,0):=by unfold Me;rw [aF j]
  rw [e,g,aD O];omega
 .have e:Me (0,0) x=(0,x):=by unfold Me;rw [aD j,aD (by dsimp only;omega)]
  rw [e];have n:Me (0,x) y=(if x=-y then 1 else 0,y):=by
   unfold Me;rw [aD k];by_cases h:x=-y
   .rw [aF (by dsimp only;omega),aF h];rfl
   .rw [aD (by dsimp only;omega),aD h]
  rw [n,Za7];omega
def crs(f:Rat->Rat)(u v:Rat):Int:=if f u≠0/\f u*f v<=0 then 1 else 0
theorem Zis(s t:Rat):∀p:List Int,∃M:Rat,0<M/\∀x y,s<=x->x<=y->y<=t->
  -(M*(y-x)*(y-x))<=Zb p y-Zb p x-(y-x)*Zb (ld p) x/\Zb p y-Zb p x-(y-x)*Zb (ld p) x<=M*(y-x)*(y-x)
 | []=>⟨1,O3,λx y S V W=>by have:=aN (a:=y-x) (b:=y-x) O4 O4;show -(1*(y-x)*(y-x))<=(0:Rat)-0-(y-x)*0/\(0:Rat)-0-(y-x)*0<=1*(y-x)*(y-x);constructor<;>grind⟩
 | c::p=>by obtain⟨M,G,H⟩:=Zis s t p;obtain⟨L,Y,F⟩:=Ct s t p;obtain⟨K,B,D⟩:=Ymo s t;refine⟨L+K*M,by have:=bB B G;grind,λx y hs h k=>?_⟩;obtain⟨l,n⟩:=H x y hs h k;obtain⟨I,N⟩:=F x y hs h k;obtain⟨o,w⟩:=D x hs O4;have j:0<=y-x:=O4;obtain⟨f1,f2⟩:=Zb2 (q:=x) (Q:=K) (g:=Zb p y-Zb p x-(y-x)*Zb (ld p) x) (e:=M*(y-x)*(y-x)) o w l n O4;have P:=aN (a:=y-x) (b:=L*(y-x)-(Zb p y-Zb p x)) j O4;have R:=aN (a:=y-x) (b:=L*(y-x)+(Zb p y-Zb p x)) j O4;rw [Zfn,show Zb (c::p) y=(c:Rat)+y*Zb p y from rfl,show Zb (c::p) x=(c:Rat)+x*Zb p x from rfl];constructor<;>grind
theorem Zzx(D:Tr a)(hb:Tr b)(Z:a≠[])(hc:∀q,Tr q->Ed q a->Ed q b->q.length<=1)(s t:Rat):∃ε:Rat,0<ε/\∀x,s<=x->x<=t->Big ε x (Zb a)\/Big ε x (Zb b):=by
 obtain⟨g,A,B,e,n,Y,j⟩:=Zlz _ a b D hb (aI _);have hl:=hc g e n Y;have hg:=(n.len e D Z).1
 match g,hg,hl,e,j with
 | [c],_,_,e,j=>
  have l:c≠0:=e.mem O8;obtain⟨P,p1,p2⟩:=Zrz s t A;obtain⟨Q,q1,q2⟩:=Zrz s t B;obtain⟨ε,W,e2,e3⟩:=Gb (show(0:Rat)<1 by decide) (show 0<(P+Q)+(P+Q) by grind) (show(0:Rat)<1 by decide);refine⟨ε,W,λx hs F=>?_⟩;by_cases o:Big ε x (Zb a)
  .exact .inl o
  .by_cases w:Big ε x (Zb b)
   .exact .inr w
   .exfalso;obtain⟨G,H⟩:=Zdp o;obtain⟨I,M⟩:=Zdp w;obtain⟨N,R⟩:=p2 x hs F;obtain⟨S,V⟩:=q2 x hs F;obtain⟨u1,u2⟩:=Zb2 N R G H O4;obtain⟨v1,v2⟩:=Zb2 S V I M O4;have h4:=j x;rw [Pi]at h4;have k:(c:Rat)<=-1\/1<=(c:Rat):=by
     rcases nM l with h|h
     .left;have:((c:Int):Rat)<=((-1:Int):Rat):=by exact_mod_cast (show c<=-1 by omega)
      rwa [show(((-1:Int)):Rat)=-1 from rfl]at this
     .right;have:1<=c:=O;exact_mod_cast this
    rcases k with k|k<;>grind
 | c::d::r,_,h9,_,_=>simp at h9
theorem Big.near{ε x y:Rat}{f:Rat->Rat}(h:Big ε x f)(e:f x-f y<=ε/2)(g:f y-f x<=ε/2):Big (ε/2) y f:=by unfold Big at *;grind
theorem Zh1(x:Rat):Er x=-1↔x<0:=by
 unfold Er;by_cases h:x<0
 .rw [aF h];simp [h]
 .rw [aD h];by_cases e:x=0
  .rw [aF e];simp [h]
  .rw [aD e];simp [h]
theorem Yeb(x:Rat):Er (-x)=- Er x:=by
 unfold Er;by_cases h:x<0
 .rw [aF h,aD O4,aD O4];rfl
 .rw [aD h];by_cases e:x=0
  .rw [aF e,aD O4,aF O4];rfl
  .rw [aD e,aF O4]
theorem Zmg{f g:Rat->Rat}{r:List (Rat->Rat)}{x:Rat}(h:Er (g x)≠0):vat (f::g::r) x=vat (g::r) x+(if Er (f x)=- Er (g x)then 1 else 0):=by unfold vat;simp only [cQ];exact Ynq h
def Tay(s t M:Rat)(p:List Int):Prop:=∀x y,s<=x->x<=y->y<=t->-(M*(y-x)*(y-x))<=Zb p y-Zb p x-(y-x)*Zb (ld p) x/\Zb p y-Zb p x-(y-x)*Zb (ld p) x<=M*(y-x)*(y-x)
theorem Zhx {s:Rat}   (ha:Tr a) (hb:Tr b) (Z:cok f a b) {κ:Rat} (hκ:0<κ) (V:∀x,Zb (ld a) x=κ*Zb b x)
  {ε L L' M h:Rat} (e1:0<ε) (e2:∀x,s<=x->x<=t->Big ε x (Zb a)\/Big ε x (Zb b)) (l1:0<=L) (l2:Lip s t L (Zb a)) (a7:0<=L') (H:Lip s t L' (Zb b)) (m1:0<=M) (m2:Tay s t M a)
  (h5:0<h) (h3:h*(L+L')<=ε/2) (h7:h*M<=κ*ε/2) {u v:Rat} (hs:s<=u) (j:u<=v) (ht:v<=t) (hh:v-u<=h) :
  vat ((Mn f a b).map Zb) u-vat ((Mn f a b).map Zb) v=crs (Zb a) u v:=by
 have P:∀w,u<=w->w<=v->L*(w-u)<=ε/2/\L'*(w-u)<=ε/2:=λw k n=>by have p1:=aN (a:=L) (b:=h-(w-u)) O4 O4;have p2:=aN (a:=L') (b:=h-(w-u)) O4 O4;have p3:=aN (a:=L) (b:=h) O4 O4;have p4:=aN (a:=L') (b:=h) O4 O4;constructor<;>grind
 by_cases B:Big ε u (Zb a)
 .have hB:∀w,u<=w->w<=v->Big (ε/2) w (Zb a):=λw k n=>by obtain⟨x1,x2⟩:=l2 u w hs k O4;have:=P w k n;exact B.near O4 O4
  rw [Zfi ha hb Z j (show 0<ε/2 by grind) hB];have hv:=hB v j O4;have:crs (Zb a) u v=0:=by
   unfold crs;refine aD λ⟨_,N⟩=>?_;obtain⟨x1,x2⟩:=l2 u v hs j ht;have a4:=P v j O4;unfold Big at B hv;rcases B with hp|hp
   .have:0<Zb a v:=O4;have:=bB (show 0<Zb a u by grind) this;grind
   .have:0 < - Zb a v:=O4;have:=bB (show 0 < - Zb a u by grind) this;grind
  omega
 .have l:Big ε u (Zb b):=(e2 u hs O4).resolve_left B;have hB:∀w,u<=w->w<=v->Big (ε/2) w (Zb b):=λw k n=>by obtain⟨x1,x2⟩:=H u w hs k O4;have:=P w k n;exact l.near O4 O4
  have a0:b≠[]:=λe=>by rw [e]at l;unfold Big at l;have:Zb [] u=0:=rfl;rw [this]at l;grind
  obtain⟨g,hg,hd,a6,R,a2⟩:=Zlr Z a0;have hT:=Zfi hb (Zcb ha) R j (show 0<ε/2 by grind) hB;obtain⟨r,hr,_,_,_⟩:=Zmy u v g b (Nk a b) hb (Zcb ha) R;rw [a2,hr];rw [hr]at hT;simp only [cQ]at hT ⊢;have a3:∃σ:Rat,(σ=1\/σ=-1)/\ε<σ*Zb b u/\∀w,u<=w->w<=v->0<σ*Zb b w:=by
   unfold Big at l;rcases l with hp|hp
   .refine⟨1,.inl rfl,O4,λw k n=>?_⟩;obtain⟨x1,x2⟩:=H u w hs k O4;have:=P w k n;grind
   .refine⟨-1,.inr rfl,O4,λw k n=>?_⟩;obtain⟨x1,x2⟩:=H u w hs k O4;have:=P w k n;grind
  obtain⟨σ,hσ,a5,Q⟩:=a3;have o:u<v->σ*Zb a u<σ*Zb a v:=λD=>by
   obtain⟨y1,y2⟩:=m2 u v hs j ht;rw [V u]at y1 y2;have hd:0<v-u:=O4;have z1:M*(v-u)<=κ*ε/2:=by have:=aN (a:=M) (b:=h-(v-u)) O4 O4;grind
   have z2:0<κ*(σ*Zb b u)-M*(v-u):=by have:=bB hκ (show 0<σ*Zb b u-ε by grind);have:=bB hκ e1;grind
   have z3:=bB hd z2;rcases hσ with rfl|rfl<;>grind
  have Y:∀w,u<=w->w<=v->Er (Zb b w)≠0:=λw k n=>by
   have:=Q w k n;rcases hσ with rfl|rfl
   .rw [An O4];decide
   .rw [Ao O4];decide
  rw [Zmg (Y u O4 j),Zmg (Y v j O4),hT];have F:∀w,u<=w->w<=v->(Er (Zb a w)=- Er (Zb b w)↔σ*Zb a w<0):=λw k n=>by
   have:=Q w k n;rcases hσ with rfl|rfl
   .rw [An (x:=Zb b w) O4,Zh1];constructor<;>intro<;>grind
   .rw [Ao (x:=Zb b w) O4,show(-(-1:Int))=- -1 from rfl];have N:=Zh1 (-(Zb a w));rw [Yeb]at N;constructor
    .intro h8;have:=N.1 O;grind
    .intro h8;have:=N.2 O4;omega
  rw [show(if Er (Zb a u)=- Er (Zb b u)then(1:Int)else 0)=if σ*Zb a u<0 then 1 else 0 from by simp only [F u O4 j]];rw [show(if Er (Zb a v)=- Er (Zb b v)then(1:Int)else 0)=if σ*Zb a v<0 then 1 else 0 from by simp only [F v j O4]];have S:crs (Zb a) u v=if σ*Zb a u<0/\¬σ*Zb a v<0 then 1 else 0:=by
   unfold crs;have a1:Zb a u*Zb a v=(σ*Zb a u)*(σ*Zb a v):=by rcases hσ with rfl|rfl<;>grind
   have hz:Zb a u≠0↔σ*Zb a u≠0:=by rcases hσ with rfl|rfl<;>constructor<;>intro N h8<;>exact N O4
   have W:(Zb a u≠0/\Zb a u*Zb a v<=0)↔(σ*Zb a u<0/\¬σ*Zb a v<0):=by
    rw [a1,hz];generalize hp:σ*Zb a u=p at *;generalize hq:σ*Zb a v=q at *;constructor
    .intro ⟨n1,n2⟩;rcases(show u<v\/u=v by grind)with D|G
     .have:=o D;rcases(show p<0\/0<p by grind)with I|I
      .refine⟨I,λn4=>?_⟩;have:=bB (show 0 < -p by grind) (show 0 < -q by grind);grind
      .have:=bB I (show 0<q by grind);grind
     .exfalso;have:q=p:=by rw [<-hp,<-hq,G]
      rw [this]at n2;rcases(show p<0\/0<p by grind)with I|I
      .have:=bB (show 0 < -p by grind) (show 0 < -p by grind);grind
      .have:=bB I I;grind
    .intro ⟨n1,n2⟩;refine⟨O4,?_⟩;have:=aN (show 0<=-p by grind) (show 0<=q by grind);grind
   simp only [W]
  rw [S];by_cases k1:σ*Zb a u<0<;>by_cases k2:σ*Zb a v<0
  .simp [k1,k2]
  .simp [k1,k2];omega
  .exfalso;rcases(show u<v\/u=v by grind)with D|G
   .have:=o D;grind
   .rw [G]at k1;exact k1 k2
  .simp [k1,k2]
theorem Zjt (κ:Rat){s:Rat}(w:Tr a)(B:Tr b)(G:a≠[])(g:cok f a b)(D:0<κ)(e:∀x,Zb (ld a) x=κ*Zb b x)(P:∀q,Tr q->Ed q a->Ed q b->q.length<=1) :
  ∃h:Rat,0<h/\∀u v,s<=u->u<=v->v<=t->v-u<=h->vat ((Mn f a b).map Zb) u-vat ((Mn f a b).map Zb) v=crs (Zb a) u v:=by
 obtain⟨ε,n,F⟩:=Zzx w B G P s t;obtain⟨L,l1,V⟩:=Ct s t a;obtain⟨l,S,k⟩:=Ct s t b;obtain⟨M,W,Y⟩:=Zis s t a;obtain⟨H,I,Z,h4⟩:=Gb (show(0:Rat)<1 by decide) (show 0<L+l by grind) (show 0<ε/2 by grind);obtain⟨h,o,h6,N⟩:=Gb I W (show 0<κ*ε/2 by have:=bB D n;grind);refine⟨h,o,λu v hs j R Q=>Zhx w B g D e n F O4 V O4 k O4 Y o ?_ N hs j R Q⟩;have:=aN (a:=L+l) (b:=H-h) O4 O4;grind
theorem Yf4:∀(n m:Nat) (f:Nat->Nat),(∀k,k<n->f k<m)->(∀a b,a<n->b<n->f a=f b->a=b)->n<=m
 | 0,_,_,_,_=>bI _
 | n+1,m,f,g,hi=>by
  have j:=g n O;have:=Yf4 n (m-1) (λk=>if f n<f k then f k-1 else f k) (λk D=>by
   have l:=g k O;have h:f k≠f n:=λe=>by have:=hi k n O O e;omega
   split<;>omega) (λa b w B e=>by
   have h:f a≠f n:=λe=>by have:=hi a n O O e;omega
   have o:f b≠f n:=λe=>by have:=hi b n O O e;omega
   refine hi a b O O ?_;split at e<;>split at e<;>omega)
  omega
theorem php{n:Nat}{f:Nat->Nat}(h:m<n)(w:∀k,k<n->f k<m):∃a b,a<n/\b<n/\a≠b/\f a=f b:=by refine bJ λj=>?_;have:=Yf4 n m f w λa b l o e=>bJ λg=>j ⟨a,b,l,o,g,e⟩;omega
def enc(B:Nat)(d:Nat->Nat):Nat->Nat
 | 0=>0
 | n+1=>enc B d n+d n*B^n
theorem Zp0{B:Nat}{d:Nat->Nat} : ∀n,(∀i,i<n->d i<B)->enc B d n<B^n
 | 0,_=>by simp [enc]
 | n+1,h=>by have j:=Zp0 n λi hi=>h i O;have e:=h n O;have g:(d n+1)*B^n<=B*B^n:=aP _ e;rw [bL,mZ]at g;rw [cJ,aR (B^n) B];show enc B d n+d n*B^n<_;omega
theorem Zzg{B:Nat}{d e:Nat->Nat} : ∀n,(∀i,i<n->d i<B)->(∀i,i<n->e i<B)->enc B d n=enc B e n->∀i,i<n->d i=e i
 | 0,_,_,_,i,hi=>absurd hi (cK i)
 | n+1,g,j,h,i,hi=>by
  have w:=Zp0 n λi hi=>g i O;have D:=Zp0 n λi hi=>j i O;have h:enc B d n+d n*B^n=enc B e n+e n*B^n:=h;have o:0<B^n:=O;have l:d n=e n:=by
   have F:(enc B d n+d n*B^n)/B^n=d n:=by rw [mR _ _ o,dI w,bR]
   have G:(enc B e n+e n*B^n)/B^n=e n:=by rw [mR _ _ o,dI D,bR]
   rw [<-F,<-G,h]
  rcases aX i n with k|k
  .exact Zzg n (λi hi=>g i O) (λi hi=>j i O) (by rw [l]at h;omega) i k
  .rw [show i=n by omega];exact l
def dig(B k j:Nat):Nat:=k/B^j%B
theorem Zp1(B k:Nat):∀n,enc B (dig B k) n=k%B^n
 | 0=>by simp [enc,mU]
 | n+1=>by show enc B (dig B k) n+dig B k n*B^n=_;rw [Zp1 B k n,cJ,mV];unfold dig;rw [aR]
theorem Zjs (C:Int){f:Nat->Int} : ∀n,(∀i,i<n->-C<=f i/\f i<=C)->-((n:Int)*C)<=Yb f n/\Yb f n<=(n:Int)*C
 | 0,_=>by simp [Hl]
 | n+1,h=>by
  have g:=Zjs _ n λi hi=>h i O;have j:=h n O;have e:((n+1:Nat):Int)*C=(n:Int)*C+C:=by push_cast;grind
  rw [Yl,e];omega
theorem Zmq(f g:Nat->Int):∀n,Yb (λi=>f i-g i) n=Yb f n-Yb g n
 | 0=>by simp [Hl]
 | n+1=>by rw [Yl,Yl,Yl,Zmq f g n];omega
theorem siegel{N M A:Nat}(a0:M<N)(hA:0<A)(c:Nat->Nat->Int)(hc:∀i j,i<M->j<N->(c i j).natAbs<=A) :
  ∃x:Nat->Int,(∃j,j<N/\x j≠0)/\(∀j,j<N->(x j).natAbs<=(2*N*A)^M)/\∀i,i<M->Yb (λj=>c i j*x j) N=0:=by
 generalize hX:(2*N*A)^M=X;generalize V:N*(A*X)=W;let d:=λk j=>dig (X+1) k j;have F:∀k j,d k j<=X:=λk j=>nX (bO _ (mG X));let y:=λk i=>Yb (λj=>c i j*(d k j:Int)) N;have P:∀k i,i<M->-(W:Int)<=y k i/\y k i<=(W:Int):=λk i hi=>by
  have g:=Zjs ((A*X:Nat):Int) (f:=λj=>c i j*(d k j:Int)) N λj H=>by
   have h:=hc i j hi H;have w:(c i j*(d k j:Int)).natAbs<=A*X:=by rw [cH,eI];exact aY h (F k j)
   omega
  have l:((N:Int)*((A*X:Nat):Int))=(W:Int):=by rw [<-V];push_cast;rfl
  rw [l]at g;exact g
 let e:=λk=>enc (2*W+1) (λi=>(y k i+(W:Int)).toNat) M;have G:∀k i,i<M->(y k i+(W:Int)).toNat<2*W+1:=λk i hi=>by have:=P k i hi;omega
 have I:(2*W+1)^M<(X+1)^N:=by
  have g:2*W+1<=(2*N*A)*(X+1):=by
   have:0<N*A:=fZ O hA;have o:2*N*A*(X+1)=2*W+2*(N*A):=by rw [<-V];grind
   omega
  have h:=gI g M;rw [Nat.mul_pow,hX]at h;have w:(X+1)^(M+1)<=(X+1)^N:=dK O O;rw [cJ]at w;have l:0<(X+1)^M:=bW O;have h5:X*(X+1)^M<(X+1)^M*(X+1):=by rw [aR];exact jE O l
  omega
 obtain⟨a,b,ha,hb,D,hf⟩:=php (f:=e) I (λk _=>Zp0 M (G k));have Q:=Zzg M (G a) (G b) hf;refine⟨λj=>(d a j:Int)-(d b j:Int),?_,λj _=>?_,λi hi=>?_⟩
 .refine bJ λh9=>D ?_;have Z:∀j,j<N->d a j=d b j:=λj H=>bJ λB=>h9 ⟨j,H,λS=>B (by have S:(d a j:Int)-(d b j:Int)=0:=S;omega)⟩;have o:=Zp1 (X+1) a N;have R:=Zp1 (X+1) b N;rw [aU ha]at o;rw [aU hb]at R;have Y:∀n,n<=N->enc (X+1) (dig (X+1) a) n=enc (X+1) (dig (X+1) b) n:=λn=>by
   induction n with
   | zero=>intro _;rfl
   | succ n ih=>
    intro hn;have B:dig (X+1) a n=dig (X+1) b n:=Z n O;show enc _ _ n+dig (X+1) a n*_=enc _ _ n+dig (X+1) b n*_;rw [ih O,B]
  rw [<-o,<-R];exact Y N (aI _)
 .have g:=F a j;have h:=F b j;dsimp only;omega
 .have g:Yb (λj=>c i j*((d a j:Int)-(d b j:Int))) N=y a i-y b i:=by rw [<-Zmq];exact Yz λj _=>O4
  rw [g];have h:=Q i hi;have w:=P a i hi;have l:=P b i hi;omega
theorem Zhv(f:Nat->Int)(p:Nat):∀q,Yb f (p+q)=Yb f p+Yb (λk=>f (p+k)) q
 | 0=>by simp [Hl]
 | q+1=>by rw [<-fY,Yl,Yl,Zhv f p q];omega
def sft(a:List Int)(t k:Nat):Int:=if k<=t then cf a (t-k)else 0
theorem Zlq{U:List Int}{p:Nat}(h:U.length=p)(t:Nat):(ps U*ps a).c t=Yb (λk=>sft a t k*cf U k) p:=by rw [<-Zul,<-h];refine Yz λk _=>?_;unfold sft;split<;>grind
theorem Zdy{U:List Int}{p t:Nat}(h:U.length<=p)(j:p+a.length<=t+1):(ps U*ps a).c t=0:=by
 rw [PS.mul_c];refine Ft λk g=>?_;rw [Nl,Nl];rcases aX k U.length with e|e
 .rw [Yo (p:=a) O,eC]
 .rw [Yo e,dC]
theorem Zhz (a:List Int)(b:List Int)(lo:Nat){p q A:Nat}(B:0<A)(D:∀i,(cf a i).natAbs<=A)(F:∀i,(cf b i).natAbs<=A)(H:0<p+q)(I:p+a.length<=p+q+lo)(P:q+b.length<=p+q+lo) :
  ∃U V:List Int,U.length=p/\V.length=q/\((∃i,cf U i≠0)\/∃i,cf V i≠0)/\(∀i,(cf U i).natAbs<=(2*(p+q)*A)^(p+q-1))/\(∀i,(cf V i).natAbs<=(2*(p+q)*A)^(p+q-1))/\
   ∀t,lo<=t->(ps U*ps a).c t+(ps V*ps b).c t=0:=by
 obtain⟨x,⟨j,Q,e⟩,w,G⟩:=siegel (N:=p+q) (M:=p+q-1) (A:=A) O B (λi j=>if j<p then sft a (lo+i) j else sft b (lo+i) (j-p)) (λi j _ _=>by
  split<;>unfold sft<;>split
  .exact D _
  .simp
  .exact F _
  .simp)
 have l:∀i,cf (mk p x) i=if i<p then x i else 0:=λi=>Ly _ _ _
 have n:∀i,cf (mk q λk=>x (p+k)) i=if i<q then x (p+i)else 0:=λi=>Ly _ _ _
 refine⟨mk p x,mk q λk=>x (p+k),Yu _ _,Yu _ _,?_,λi=>?_,λi=>?_,λt R=>?_⟩
 .rcases aX j p with h|h
  .exact .inl ⟨j,by rw [l,aF h];exact e⟩
  .exact .inr ⟨j-p,by rw [n,aF O,show p+(j-p)=j by omega];exact e⟩
 .rw [l];split
  .exact w i O
  .exact bI _
 .rw [n];split
  .exact w _ O
  .exact bI _
 .rcases aX (t-lo) (p+q-1)with h|h
  .have o:=G (t-lo) h;rw [show lo+(t-lo)=t by omega,Zhv]at o;rw [Zlq (Yu _ _),Zlq (Yu _ _),<-o];congr 1
   .exact Yz λk g=>by rw [aF g,l,aF g]
   .exact Yz λk g=>by rw [aD O,n,aF g,show p+k-p=k by omega]
  .rw [Zdy (oC (Yu _ _)) O,Zdy (oC (Yu _ _)) O];rfl
theorem Zzy (t:Nat){U:List Int}{p X A:Nat}(h:U.length=p)(j:∀i,(cf U i).natAbs<=X)(l:∀i,(cf a i).natAbs<=A):((ps U*ps a).c t).natAbs<=p*(X*A):=by
 rw [Zlq h];have e:=Zjs ((X*A:Nat):Int) (f:=λk=>sft a t k*cf U k) p λk _=>by
  have:(sft a t k*cf U k).natAbs<=X*A:=by
   rw [cH,aR];refine aY (j k) ?_;unfold sft;split
   .exact l _
   .simp
  omega
 have g:((p:Int)*((X*A:Nat):Int))=((p*(X*A):Nat):Int):=by push_cast;rfl
 rw [g]at e;omega
theorem Zfp (w:List Int)(q:List Int)(y:List Int)(n:Nat)(h:∀x,Zb w x=Zb q x*Zb y x)(D:Tr y)(k:y≠[])(B:∀i,n<=i->cf w i=0):tzl q=[]\/(tzl q).length+y.length<=n+1:=by
 by_cases g:tzl q=[]
 .exact .inl g
 .right;have o:∀i,cf w i=(ps (tzl q)*ps y).c i:=λi=>by rw [Mi (p:=w) (q:=lmul (tzl q) y) (λx=>by rw [Zp,Mt];exact h x) i,Em,PS.mul_c];rfl
  have F:=aH.2 g;have G:=aH.2 k;have j:=Bu y (p:=tzl q) (a:=(tzl q).length-1) (b:=y.length-1) (λi hi=>Yo O) (λi hi=>Yo O);rw [<-o]at j;have e:=bG ((Qq q).mem g) (D.mem k);rcases aX ((tzl q).length-1+(y.length-1)) n with l|l
  .omega
  .rw [B _ l]at j;exact absurd j.symm e
theorem Ea (v:List Int){f:List Int}(j:tzl v≠[])(h:∀x,Zb v x*Zb f x=0)(x:Rat):Zb f x=0:=by
 by_cases e:tzl f=[]
 .rw [<-Mt,e];rfl
 .exfalso;rcases Zfp [] v (tzl f) 0 (λx=>by rw [Mt,h x];rfl) (Qq f) e (λi _=>Zc5 i)with g|g
  .exact j g
  .have:=aH.2 e;have:=aH.2 j;omega
structure Inv (a b x y:List Int):Prop where
 ex:∃(α β γ:Int) (u' v' u v:List Int),α≠0/\β≠0/\γ≠0/\
  (∀t:Rat,(α:Rat)*Zb x t=Zb u' t*Zb a t+Zb v' t*Zb b t)/\(∀t:Rat,(β:Rat)*Zb y t=Zb u t*Zb a t+Zb v t*Zb b t)/\
  (∀t:Rat,Zb u' t*Zb v t-Zb u t*Zb v' t=(γ:Rat))/\(tzl v).length<=a.length-x.length+1/\(tzl v').length<=a.length-x.length+1
 xl:x.length<=b.length
 yl:y.length<x.length
theorem Zxz{L:Int}(g:Tr y)(e:y≠[])(j:z.length<=x.length)(h:∀t:Rat,(L:Rat)*Zb x t=Zb q t*Zb y t+(c:Rat)*Zb z t):tzl q=[]\/(tzl q).length+y.length<=x.length+1:=
 Zfp (Mb (x.map λa=>L*a) (z.map λa=>(-c)*a)) _ _ x.length (λt=>by rw [Xd,Zg,Zg];have:=h t;push_cast;grind) g e λi hi=>by rw [My,Qh,Qh,Yo hi,Yo (p:=z) O];omega
theorem Aw{n:Nat}(h:(tzl p).length<=m)(j:(tzl q).length<=n)(i:Nat)(hi:m+n<=i+1):cf (lmul p q) i=0:=by have g:cf (lmul p q) i=cf (lmul (tzl p) (tzl q)) i:=Mi (λx=>by rw [Zp,Zp,Mt,Mt]) i;rw [g,Em];have e:=Zdy (U:=tzl p) (a:=tzl q) (p:=m) (t:=i) h O;rw [PS.mul_c]at e;exact e
def Zn3{n:Nat}(h:∀i,n<=i->cf p i=0):(tzl p).length<=n:=Zbh h
theorem Zz7{n:Nat}(h:(tzl p).length<=n)(hi:n<=i):cf p i=0:=by rw [<-Ik];exact Yo O
theorem Inv.next{z':List Int}{L:Int}(R:Inv a b x y)(V:b.length<=a.length)(hx:Tr x)(Z:Tr y)(P:y≠[])(S:L≠0)(h:∀t:Rat,(L:Rat)*Zb x t=Zb q t*Zb y t+Zb z' t)(hz:Sim z' z)(k:z.length<y.length):Inv a b y z:=by
 obtain⟨⟨α,β,γ,u',F,u,v,hα,l,hγ,M,w,N,l1,l2⟩,xl,yl⟩:=R;obtain⟨m,n,W,Y,hs⟩:=hz;have j:∀t:Rat,(m:Rat)*Zb z' t=(n:Rat)*Zb z t:=λt=>by
  have:=Ng t (z'.map λa=>m*a) (z.map λa=>n*a) λi=>by rw [Qh,Qh,hs]
  rwa [Zg,Zg]at this
 have B:∀t:Rat,((L*m:Int):Rat)*Zb x t=Zb (q.map λa=>m*a) t*Zb y t+(n:Rat)*Zb z t:=λt=>by rw [Zg];push_cast;have:=h t;have:=j t;grind
 have e:=Zxz Z P O B;have g:(tzl (q.map λa=>m*a)).length<=x.length-y.length+1:=by
  rcases e with D|D
  .rw [D];simp
  .omega
 generalize hQ:(q.map λa=>m*a)=Q at *;have o:∀t:Rat,((n*(α*β):Int):Rat)*Zb z t=Zb (Mb (u'.map λc=>(L*m*β)*c) ((lmul Q u).map λc=>(-α)*c)) t*Zb a t+Zb (Mb (F.map λc=>(L*m*β)*c) ((lmul Q v).map λc=>(-α)*c)) t*Zb b t:=λt=>by rw [Xd,Xd,Zg,Zg,Zg,Zg,Zp,Zp];have G:=B t;have H:=M t;have I:=w t;push_cast at G ⊢;have:(n:Rat)*(α*β)*Zb z t=α*β*(n*Zb z t):=O4;rw [this,show(n:Rat)*Zb z t=L*m*Zb x t-Zb Q t*Zb y t by grind];have:(α:Rat)*β*(L*m*Zb x t-Zb Q t*Zb y t)=L*m*β*(α*Zb x t)-α*Zb Q t*(β*Zb y t):=O4;rw [this,H,I];grind
 refine⟨⟨β,n*(α*β),-(L*m*β*γ),u,v,_,_,l,bG Y (bG hα l),?_,w,o,λt=>?_,?_,?_⟩,O,k⟩
 .have:=bG (bG (bG S W) l) hγ;omega
 .rw [Xd,Xd,Zg,Zg,Zg,Zg,Zp,Zp];have:=N t;push_cast;grind
 .refine Zn3 λi hi=>?_;rw [My,Qh,Qh,Zz7 (p:=F) l2 O,Aw g l1 i O];omega
 .omega
theorem Inv.first{z':List Int}{L:Int}(D:b.length<=a.length)(N:Tr a)(F:Tr b)(w:b≠[])(B:L≠0)(h:∀t:Rat,(L:Rat)*Zb a t=Zb q t*Zb b t+Zb z' t)(I:Sim z' z)(k:z.length<b.length):Inv a b b z:=by
 obtain⟨m,n,G,H,hs⟩:=I;have j:∀t:Rat,(m:Rat)*Zb z' t=(n:Rat)*Zb z t:=λt=>by
  have:=Ng t (z'.map λa=>m*a) (z.map λa=>n*a) λi=>by rw [Qh,Qh,hs]
  rwa [Zg,Zg]at this
 have l:∀t:Rat,((L*m:Int):Rat)*Zb a t=Zb (q.map λa=>m*a) t*Zb b t+(n:Rat)*Zb z t:=λt=>by rw [Zg];push_cast;have:=h t;have:=j t;grind
 have e:=Zxz F w O l;have g:(tzl (q.map λa=>m*a)).length<=a.length-b.length+1:=by
  rcases e with o|o
  .rw [o];simp
  .omega
 generalize M:(q.map λa=>m*a)=Q at *;refine⟨⟨1,n,-(L*m),[],[1],[L*m],Q.map λc=>(-1)*c,O3,H,?_,λt=>?_,λt=>?_,λt=>?_,?_,?_⟩,aI _,k⟩
 .have:=bG B G;omega
 .rw [Pi];show _=(0:Rat)*_+_;grind
 .rw [Pi,Zg];have:=l t;push_cast at this ⊢;grind
 .rw [Pi,Pi];show(0:Rat)*_-_=_;push_cast;grind
 .refine Zn3 λi hi=>?_;rw [Qh,Zz7 g O];omega
 .refine aB (Hj _) ?_;simp
def Zgx{n:Nat}(h:Sz n a)(i:Nat):(cf a i).natAbs<=2^n:=eU ((Qt n _).1 (h i))
theorem Ap(h:tzl p=[])(x:Rat):Zb p x=0:=by rw [<-Mt,h];rfl
def tzl_ne(h:cf p i≠0):tzl p≠[]:=λe=>h ((Lt p).1 e i)
def nn_eq{x a b:Nat}(e:x<=b)(g:b<=a):b-x+1+(a-x+1)=a+b-2*x+2:=O
theorem Inv.bound{n s:Nat}(hI:Inv a b x y)(a6:b.length<=a.length)(ha:Tr a)(hx:Tr x)(hy:Tr y)(h0:y≠[])(hp:Xl y=1)(na:Sz n a)(nb:Sz n b)(hs:a.length+b.length-2*x.length+2<=2^s) :
  Qz y<=(s+1+n)*(a.length+b.length-2*x.length+2):=by
 obtain⟨⟨α,β,γ,u',I,u,v,hα,hβ,hγ,e1,M,e3,l1,l2⟩,xl,yl⟩:=hI;have b3:=aH.2 h0;have b2:x≠[]:=λe=>by rw [e]at yl;simp at yl
 have H:a≠[]:=λe=>by
  have g:a.length=0:=by rw [e];rfl
  omega
 obtain⟨U,V,lU,lV,a9,bU,bV,hz⟩:=Zhz a b (x.length-1) (p:=b.length-x.length+1) (q:=a.length-x.length+1) (A:=2^n) (bW O3) (Zgx na) (Zgx nb) O O O;have hv:a.length+1<=(tzl v).length+x.length:=by
  refine bJ λg=>?_;have a8:∀i,cf (Mb (a.map λc=>γ*c) ((lmul y I).map λc=>β*c)) i=cf (lmul (tzl v) (x.map λc=>α*c)) i:=λi=>Mi (λt=>by
   rw [Xd,Zg,Zg,Zp,Zp,Zg,Mt];have W:=e1 t;have F:=M t;have a3:=e3 t;have:Zb v t*(α*Zb x t)=(Zb u' t*Zb v t-Zb u t*Zb I t)*Zb a t+(Zb u t*Zb a t+Zb v t*Zb b t)*Zb I t:=by rw [W];grind
   rw [this,a3,<-F];grind) i
  have l:=a8 (a.length-1);rw [My,Qh,Qh,Aw (m:=y.length) (n:=a.length-x.length+1) (Hj _) l2 _ O,Em]at l;have P:=Zdy (U:=tzl v) (a:=x.map λc=>α*c) (p:=(tzl v).length) (t:=a.length-1) (aI _) (by rw [aW];omega);rw [PS.mul_c]at P;have h3:Yb (λk=>cf (tzl v) k*cf (x.map λc=>α*c) (a.length-1-k)) (a.length-1+1)=0:=P;rw [h3]at l;have:=bG hγ (ha.mem H);omega
 have h:tzl v≠[]:=λe=>by rw [e]at hv;simp at hv;omega
 have Y:∀i,cf (Mb (lmul U a) (lmul V b)) i=(ps U*ps a).c i+(ps V*ps b).c i:=λi=>by rw [My,Em,Em,PS.mul_c,PS.mul_c];rfl
 generalize hR:Mb (lmul U a) (lmul V b)=R at Y;have rR:∀t,Zb R t=Zb U t*Zb a t+Zb V t*Zb b t:=λt=>by rw [<-hR,Xd,Zp,Zp]
 have lR:(tzl R).length<=x.length-1:=Zn3 λi hi=>by rw [Y];exact hz i hi
 have hf:tzl (Mb (lmul U v) ((lmul u V).map λc=>(-1)*c))=[]:=by
  rcases Zfp (Mb (lmul R v) ((lmul y V).map λc=>(-β)*c)) (Mb (lmul U v) ((lmul u V).map λc=>(-1)*c)) a (a.length-1) (λt=>by
   rw [Xd,Zg,Zp,Zp,Xd,Zg,Zp,Zp,rR];have F:=M t;push_cast;have:(-(β:Rat))*(Zb y t*Zb V t)=- (β*Zb y t)*Zb V t:=O4;rw [this,F];grind) ha H (λi hi=>by
   rw [My,Qh,Aw lR l1 i O,Aw (m:=y.length) (n:=a.length-x.length+1) (Hj _) (aB (Hj _) (oC lV)) i O];omega)with g|g
  .exact g
  .refine bJ λh8=>?_;have:=aH.2 h8;omega
 have D:∀t,Zb U t*Zb v t=Zb u t*Zb V t:=λt=>by have:=Ap hf t;rw [Xd,Zg,Zp,Zp]at this;push_cast at this;grind
 have a4:∀t,Zb R t*Zb v t=β*Zb y t*Zb V t:=λt=>by rw [rR,M t];have:=D t;grind
 have S:∀t,(γ:Rat)*Zb V t=Zb v t*Zb (Mb (lmul u' V) ((lmul I U).map λc=>(-1)*c)) t:=λt=>by rw [Xd,Zg,Zp,Zp,<-e3 t];have:=D t;push_cast;grind
 generalize Mb (lmul u' V) ((lmul I U).map λc=>(-1)*c)=w at S;have hV:tzl V≠[]:=λe=>by
  rcases a9 with⟨i,hi⟩|⟨i,hi⟩
  .refine hi (Mi (p:=U) (q:=[]) (λt=>?_) i▸Zc5 i);exact Ea v (f:=U) h (λt=>by have:=D t;rw [Ap e]at this;grind) t
  .exact tzl_ne hi e
 have b1:∃c:Int,c≠0/\∀t,Zb w t=(c:Rat):=by
  have j:tzl w≠[]:=λe=>hV ((Lt V).2 λi=>by have:=Mi (p:=V.map λc=>γ*c) (q:=[]) (λt=>by rw [Zg,S t,Ap e];show _=(0:Rat);grind) i;rw [Qh,Zc5]at this;exact(fA.1 this).resolve_left hγ)
  rcases Zfp (V.map λc=>γ*c) w (tzl v) (a.length-x.length+1) (λt=>by rw [Zg,Mt,S t];grind) (Qq v) h (λi hi=>by rw [Qh,Yo O];omega)with g|g
  .exact absurd g j
  .have h8:=aH.2 j;have h7:(tzl w).length=1:=O
   match Q:tzl w,h7 with
   | [c],_=>
    refine⟨c,?_,λt=>by rw [<-Mt,Q,Pi]⟩;have:=(Qq w).mem j;rw [Q]at this;exact this
 obtain⟨c,a7,Q⟩:=b1;have o:Sim R y:=by
  refine⟨γ,β*c,hγ,bG hβ a7,λi=>?_⟩;have:=Mi (p:=R.map λd=>γ*d) (q:=y.map λd=>(β*c)*d) (λt=>by
   rw [Zg,Zg];push_cast;have l:Zb (Mb (R.map λd=>γ*d) (y.map λd=>(-(β*c))*d)) t=0:=Ea v h (λt=>by rw [Xd,Zg,Zg];push_cast;have W:=a4 t;have F:=S t;rw [Q]at F;have:Zb v t*(γ*Zb R t + -(β*c:Rat)*Zb y t)=γ*(Zb R t*Zb v t)-β*Zb y t*(Zb v t*c):=O4;rw [this,W,<-F];grind) t
   rw [Xd,Zg,Zg]at l;push_cast at l;grind) i
  rwa [Qh,Qh]at this
 have b0:Sz ((s+1+n)*(a.length+b.length-2*x.length+2)) R:=λi=>by
  rw [Y];have c1:=Zzy i lU bU (Zgx na);have c2:=Zzy i lV bV (Zgx nb);have a0:b.length-x.length+1+(a.length-x.length+1)=a.length+b.length-2*x.length+2:=nn_eq xl a6;rw [<-a0]at hs ⊢;generalize hN:b.length-x.length+1+(a.length-x.length+1)=N at *;generalize G:(2*N*2^n)^(N-1)=X at *;have c3:((ps U*ps a).c i+(ps V*ps b).c i).natAbs<=N*(X*2^n):=by rw [<-hN,bL];have:=lS ((ps U*ps a).c i) ((ps V*ps b).c i);omega
  refine(Qt _ _).2 (bC c3 ?_);have a5:0<X:=by rw [<-G];exact bW (fZ O (bW O3))
  have c4:N*(X*2^n)<(2*N*2^n)^N:=by
   have e:(2*N*2^n)^N=X*(2*N*2^n):=by rw [<-G,<-cJ,Nat.succ_eq_add_one,show N-1+1=N by omega]
   rw [e];have:0<N*(X*2^n):=fZ O (fZ a5 (bW O3));have M:X*(2*N*2^n)=2*(N*(X*2^n)):=O4;omega
  have c5:2*N*2^n<=2^(s+1+n):=by rw [bN,cJ];exact aP _ O
  have c6:=gI c5 N;rw [<-jS]at c6;exact cZ c4 c6
 have l:tzl R≠[]:=λe=>by obtain⟨m,k,hm,hk,Z⟩:=o;have:=Z (y.length-1);rw [(Lt R).1 e,eC]at this;exact bG hk (hy.mem h0) this.symm
 have B:Sim (tzl R) y:=by obtain⟨m,k,hm,hk,Z⟩:=o;exact⟨m,k,hm,hk,λi=>by rw [Ik];exact Z i⟩
 have P:=(Qu (Qq R)).trans B;have h3:∀i,(cf y i).natAbs=(cf (Yi (tzl R)) i).natAbs:=λi=>by
  rcases Zri (Xh (Qq R)) hy (λe=>l (aG (by rw [<-Zy,e];rfl))) (Hs (Qq R) l) hp P with g|g
  .rw [g]
  .rw [g i,iH]
 exact Pz λi=>by rw [h3];exact Cb b0.tzl i
def Zsf(g e K:Nat):Prop:=∀l,l<=e->(l+1)*(K*(g+e-2*l+2)+1)<=65536
def Zt9{e g l:Nat}(h:l<=m):K*(e+g-2*m+2)<=K*(e+g-2*l+2):=bH _ O
theorem Zgf{C:Nat}(e:y≠[])(l:y.length<x.length)(g:Qz x<=C)(j:Qz y<=C)(h:(x.length+1)*(C+1)<=65536):Ba x y=0:=by have n:=aH.2 e;unfold Ba;rw [aD O,aD O];have k:(x.length-y.length+1)*(Qz y+1)<=x.length*(C+1):=aY O O;rw [bL,mZ]at h;rw [aD O]
theorem Ybt(n:Inv a b x y)(g:b.length<=a.length)(j:Tr x)(l:Tr y)(e:y≠[]):Inv a b y (Yi (Qk x y)):=by
 obtain⟨k,s,hs⟩:=Zaw x e;have h:=Ke (l.mem e) k;generalize cf y (y.length-1)^k=L at hs h;have o:∀t:Rat,(L:Rat)*Zb x t=Zb s t*Zb y t+Zb (Qk x y) t:=λt=>by have:=Dt L (-1) x s y (Qk x y) (λt=>by rw [hs t];omega) t;push_cast at this;grind
 exact n.next g j l e h o (Qu (Ip _ j)).symm (by rw [Zy];exact Pr x e)
theorem Zfu(h:Tr p):Yi p=[]\/Xl (Yi p)=1:=by
 by_cases e:p=[]
 .left;rw [e];rfl
 .right;exact Hs h e
theorem Cw(g:Tr x)(e:y≠[]):(Nk x y).length<y.length:=by rw [Zbq _ g];exact Pr x e
theorem Ybs(n:Inv a b x y)(l:b.length<=a.length)(h:Tr x)(j:Tr y)(e:y≠[]):Inv a b y (Nk x y)/\(Nk x y=[]\/Xl (Nk x y)=1):=by
 have D:=aH.2 e;have B:=n.yl;obtain⟨r1,r2,k,u,w⟩:=Zfk j e x.length x h O;have hs:=Zg0 x.length h j e O O;have g:Tr (Zeu (Zav x.length x y)):=Nq;have o:Zbn y^k≠0:=Ke (by have:=Zfo j e;omega) _;constructor
 .refine n.next (z':=Zav x.length x y) (q:=u) l h j e o (λt=>?_) ?_ (Cw h e)
  .have:=Dt (Zbn y^k) (-1) x u y (Zav x.length x y) (λt=>by rw [w t];omega) t;push_cast at this ⊢;grind
  .rw [<-hs];exact Sim.trans ⟨1,-1,O3,O3,λi=>by rw [Dw];omega⟩ (Qu g).symm
 .rw [<-hs];exact Zfu g
theorem Zzf{a b:List Int}{n s K:Nat}(h:b.length<=a.length)(G:Tr a)(N:Sz n a)(P:Sz n b)(hs:a.length+b.length<=2^s)(D:s+1+n<=K)(F:Zsf a.length b.length K) :
  ∀(f:Nat) (x y:List Int),Inv a b x y->Tr x->Tr y->(y=[]\/Xl y=1)->Qz x<=K*(a.length+b.length-2*x.length+2)->y.length<=f->eok f x y/\Qz (eu f x y)<=K*(a.length+b.length)
 | 0,x,y,g,o,w,H,l,S=>by have k:=g.yl;refine⟨aG O,aB l (bH _ (by have:=g.xl;omega))⟩
 | f+1,x,y,g,o,w,H,l,S=>by
  have B:=g.yl;have k:=g.xl;by_cases e:y=[]
  .subst e;refine⟨.inl rfl,?_⟩;rw [Zhk];exact aB l (bH _ O)
  .have V:=aH.2 e;have Q:=g.bound h G o w e (H.resolve_left e) N P (s:=s) O;have j:Qz y<=K*(a.length+b.length-2*x.length+2):=aB Q (aP _ D);have R:=Zgf e B l j (F x.length k);have I:=Ip y o;have M:=Zzf h G N P hs D F f y (Yi (Qk x y)) (Ybt g h o w e) w (Xh I) (Zfu I) (aB j (Zt9 O)) (by rw [Zy];have:=Pr x e;omega);refine⟨.inr ⟨R,M.1⟩,?_⟩;rw [show eu (f+1) x y=eu f y (Yi (Qk x y)) by
     conv=>lhs;unfold eu
     rw [aD e]]
   exact M.2
theorem Zzz{a b:List Int}{n s K:Nat}(j:b.length<=a.length)(H:Tr a)(N:Sz n a)(P:Sz n b)(hs:a.length+b.length<=2^s)(F:s+1+n<=K)(G:Zsf a.length b.length K) :
  ∀(f:Nat) (x y:List Int),Inv a b x y->Tr x->Tr y->(y=[]\/Xl y=1)->Qz x<=K*(a.length+b.length-2*x.length+2)->y.length<=f->cok f x y/\∀p∈Mn f x y,Qz p<=K*(a.length+b.length)/\p.length<=a.length
 | 0,x,y,h,o,B,e,l,S=>by
  have w:=h.yl;have I:=h.xl;have g:y=[]:=aG O;refine⟨g,λp e=>?_⟩;have:p=x:=by unfold Mn at e;simpa using e
  rw [this];exact⟨aB l (bH _ O),O⟩
 | f+1,x,y,h,o,B,e,l,S=>by
  have D:=h.yl;have w:=h.xl;by_cases g:y=[]
  .subst g;refine⟨.inl rfl,λp e=>?_⟩;rw [Bn]at e;have:p=x:=by simpa using e
   rw [this];exact⟨aB l (bH _ O),O⟩
  .have Y:=aH.2 g;have Q:=h.bound j H o B g (e.resolve_left g) N P (s:=s) O;have k:Qz y<=K*(a.length+b.length-2*x.length+2):=aB Q (aP _ F);have R:=Zgf g D l k (G x.length w);obtain⟨V,W⟩:=Ybs h j o B g;have M:=Zzz j H N P hs F G f y (Nk x y) V B (Zcb o) W (aB k (Zt9 O)) (by have:=Cw o g;omega);refine⟨.inr ⟨R,O,M.1⟩,λp e=>?_⟩;unfold Mn at e;rw [aD g]at e;rcases aZ.1 e with rfl|e
   .exact⟨aB l (bH _ O),O⟩
   .exact M.2 p e
theorem Yms{n s:Nat}(j:b.length<a.length)(h:Tr a)(l:Tr b)(F:Sz n a)(G:Sz n b)(hs:a.length+b.length<=2^s)(I:s+1+n<=K)(N:Zsf a.length b.length K)(P:(a.length+1)*(n+1)<=65536)(V:b.length<=f) :
  eok f a b/\Qz (eu f a b)<=K*(a.length+b.length):=by
 have R:=Pz F;have S:=Pz G;have Y:0<a.length:=O;have M:n<=K*(a.length+b.length):=aB (by omega:n<=K*1) (bH _ O);by_cases e:b=[]
 .subst e;cases f with
  | zero=>exact⟨rfl,by rw [Zhk];omega⟩
  | succ f=>exact⟨.inl rfl,by rw [Zhk];omega⟩
 .have W:=aH.2 e;obtain⟨g,rfl⟩:∃g,f=g+1:=⟨f-1,O⟩;have o:=Ip b h;obtain⟨k,q,B⟩:=Zaw a e;have w:=Ke (l.mem e) k;generalize cf b (b.length-1)^k=L at B w;have Q:∀t:Rat,(L:Rat)*Zb a t=Zb q t*Zb b t+Zb (Qk a b) t:=λt=>by have:=Dt L (-1) a q b (Qk a b) (λt=>by rw [B t];omega) t;push_cast at this;grind
  have H:Inv a b b (Yi (Qk a b)):=Inv.first O h l e w Q (Qu o).symm (by rw [Zy];exact Pr a e);have D:=Zzf O h F G hs I N g b (Yi (Qk a b)) H l (Xh o) (Zfu o) (aB (by omega:Qz b<=K*1) (bH _ O)) (by rw [Zy];have:=Pr a e;omega);refine⟨.inr ⟨Zgf e j R S P,D.1⟩,?_⟩;rw [show eu (g+1) a b=eu g b (Yi (Qk a b)) by
    conv=>lhs;unfold eu
    rw [aD e]]
  exact D.2
theorem Ynb{n s:Nat}(F:b.length<a.length)(l:Tr a)(o:Tr b)(H:Sz n a)(I:Sz n b)(hs:a.length+b.length<=2^s)(N:s+1+n<=K)(Q:Zsf a.length b.length K)(R:(a.length+1)*(n+1)<=65536)(Y:b.length<=f) :
  cok f a b/\∀p∈Mn f a b,Qz p<=K*(a.length+b.length)/\p.length<=a.length:=by
 have V:=Pz H;have W:=Pz I;have la:0<a.length:=O;have P:n<=K*(a.length+b.length):=aB (by omega:n<=K*1) (bH _ O);by_cases e:b=[]
 .subst e;have j:∀p∈Mn f a [],Qz p<=K*(a.length+([]:List Int).length)/\p.length<=a.length:=λp h=>by
   rw [Bn]at h;have:p=a:=by simpa using h
   rw [this];exact⟨O,aI _⟩
  cases f with
  | zero=>exact⟨rfl,j⟩
  | succ f=>exact⟨.inl rfl,j⟩
 .have Z:=aH.2 e;obtain⟨g,rfl⟩:∃g,f=g+1:=⟨f-1,O⟩;obtain⟨r1,r2,k,u,S⟩:=Zfk o e a.length a l O;have w:=Zg0 a.length l o e O O;have B:Tr (Zeu (Zav a.length a b)):=Nq;have D:Zbn b^k≠0:=Ke (by have:=Zfo o e;omega) _;have M:Inv a b b (Nk a b):=by
   refine Inv.first (z':=Zav a.length a b) (q:=u) O l o e D (λt=>?_) ?_ (Cw l e)
   .have:=Dt (Zbn b^k) (-1) a u b (Zav a.length a b) (λt=>by rw [S t];omega) t;push_cast at this ⊢;grind
   .rw [<-w];exact Sim.trans ⟨1,-1,O3,O3,λi=>by rw [Dw];omega⟩ (Qu B).symm
  have h:Nk a b=[]\/Xl (Nk a b)=1:=by rw [<-w];exact Zfu B
  have G:=Zzz O l H I hs N Q g b (Nk a b) M o (Zcb l) h (aB (by omega:Qz b<=K*1) (bH _ O)) (by have:=Cw l e;omega);refine⟨.inr ⟨Zgf e F V W R,O,G.1⟩,λp h=>?_⟩;unfold Mn at h;rw [aD e]at h;rcases aZ.1 h with rfl|h
  .exact⟨O,aI _⟩
  .exact G.2 p h
def al:List Int->List Int->List Int
 | [],g=>g
 | a::f,[]=>a::f
 | a::f,b::g=>(a+b)::al f g
def Ag(c:Int)(f:List Int):List Int:=f.map (c*·)
def ddl(k:Nat):List Int->List Int
 | []=>[]
 | b::g=>(k:Int)*b::ddl (k+1) g
def dl(f:List Int):List Int:=ddl 1 f.tail
def xl:List Int->List Int
 | []=>[]
 | a::f=>0::a::f
def fc:Nat->Int
 | 0=>1
 | k+1=>((k:Int)+1)*fc k
def Ge:Nat->List Int->List Int->Int
 | k,a::f,b::g=>fc k*(a*b)+Ge (k+1) f g
 | _,_,_=>0
theorem Zla(k:Nat)(f:List Int):Ge k f []=0:=by cases f<;>rfl
theorem Yi4(f:List Int):al f []=f:=by cases f<;>rfl
theorem Yai:∀f g:List Int,al f g=al g f
 | [],g=>(Yi4 g).symm
 | a::f,[]=>rfl
 | a::f,b::g=>by show(a+b)::al f g=(b+a)::al g f;rw [Yai f g,mD]
theorem Zuk:∀f g h:List Int,al (al f g) h=al f (al g h)
 | [],g,h=>rfl
 | a::f,[],h=>rfl
 | a::f,b::g,[]=>rfl
 | a::f,b::g,c::h=>by show(a+b+c)::al (al f g) h=(a+(b+c))::al f (al g h);rw [Zuk f g h,Int.add_assoc]
instance:Std.Commutative al:=⟨Yai⟩
instance:Std.Associative al:=⟨Zuk⟩
theorem Yd8(c:Int):∀f g,Ag c (al f g)=al (Ag c f) (Ag c g)
 | [],g=>rfl
 | a::f,[]=>rfl
 | a::f,b::g=>by show c*(a+b)::Ag c (al f g)=(c*a+c*b)::al (Ag c f) (Ag c g);rw [Yd8 c f g,kM]
theorem Zxr(c d:Int):∀f,Ag (c+d) f=al (Ag c f) (Ag d f)
 | []=>rfl
 | a::f=>by show(c+d)*a::Ag (c+d) f=(c*a+d*a)::al (Ag c f) (Ag d f);rw [Zxr c d f,lT]
theorem Ziq:∀f,Ag 1 f=f
 | []=>rfl
 | a::f=>by show 1*a::Ag 1 f=a::f;rw [Ziq f,fG]
theorem Yht:∀k f g,ddl k (al f g)=al (ddl k f) (ddl k g)
 | k,[],g=>rfl
 | k,a::f,[]=>rfl
 | k,a::f,b::g=>by show(k:Int)*(a+b)::ddl (k+1) (al f g)=((k:Int)*a+(k:Int)*b)::al (ddl (k+1) f) (ddl (k+1) g);rw [Yht (k+1) f g,kM]
theorem Zzq(c:Int):∀k f,ddl k (Ag c f)=Ag c (ddl k f)
 | k,[]=>rfl
 | k,a::f=>by show(k:Int)*(c*a)::ddl (k+1) (Ag c f)=c*((k:Int)*a)::Ag c (ddl (k+1) f);rw [Zzq c (k+1) f,lX]
theorem Ztp:∀k f,ddl (k+1) f=al f (ddl k f)
 | k,[]=>rfl
 | k,a::f=>by show((k+1:Nat):Int)*a::ddl (k+1+1) f=(a+(k:Int)*a)::al f (ddl (k+1) f);rw [Ztp (k+1) f];congr 1;push_cast;grind
def dl_al:∀f g,dl (al f g)=al (dl f) (dl g)
 | [],g=>rfl
 | a::f,[]=>(Yi4 _).symm
 | a::f,b::g=>Yht 1 f g
def dl_scl(c:Int):∀f,dl (Ag c f)=Ag c (dl f)
 | []=>rfl
 | a::f=>Zzq c 1 f
theorem dl_x:∀f,dl (xl f)=al f (xl (dl f))
 | []=>rfl
 | [a]=>by show(((1:Nat):Int)*a::[])=[a];rw [show((1:Nat):Int)=1 from rfl,fG]
 | a::b::f=>by show((1:Nat):Int)*a::ddl (1+1) (b::f)=(a+0)::al (b::f) (ddl 1 (b::f));rw [Ztp 1 (b::f),show((1:Nat):Int)=1 from rfl,fG,bP]
def xl_al:∀f g,xl (al f g)=al (xl f) (xl g)
 | [],g=>rfl
 | a::f,[]=>rfl
 | a::f,b::g=>rfl
theorem xl_scl(c:Int):∀f,xl (Ag c f)=Ag c (xl f)
 | []=>rfl
 | a::f=>by show 0::c*a::Ag c f=c*0::c*a::Ag c f;rw [eC]
theorem Eh:∀k f g,Ge k f g=Ge k g f
 | k,[],g=>(Zla k g).symm
 | k,a::f,[]=>rfl
 | k,a::f,b::g=>by show fc k*(a*b)+Ge (k+1) f g=fc k*(b*a)+Ge (k+1) g f;rw [Eh (k+1) f g,dV a b]
theorem Zld:∀k f g h,Ge k (al f g) h=Ge k f h+Ge k g h
 | k,[],g,h=>by show Ge k g h=0+Ge k g h;rw [lB]
 | k,a::f,[],h=>(bP _).symm
 | k,a::f,b::g,[]=>rfl
 | k,a::f,b::g,c::h=>by show fc k*((a+b)*c)+Ge (k+1) (al f g) h=fc k*(a*c)+Ge (k+1) f h+(fc k*(b*c)+Ge (k+1) g h);rw [Zld (k+1) f g h];grind
theorem Zlc(k:Nat)(h f g:List Int):Ge k h (al f g)=Ge k h f+Ge k h g:=by rw [Eh,Zld,Eh k f,Eh k g]
theorem Zf8(c:Int):∀k f g,Ge k (Ag c f) g=c*Ge k f g
 | k,[],g=>(eC c).symm
 | k,a::f,[]=>(eC c).symm
 | k,a::f,b::g=>by show fc k*(c*a*b)+Ge (k+1) (Ag c f) g=c*(fc k*(a*b)+Ge (k+1) f g);rw [Zf8 c (k+1) f g];grind
theorem Zpo(c:Int)(k:Nat)(f g:List Int):Ge k f (Ag c g)=c*Ge k f g:=by rw [Eh,Zf8,Eh]
theorem Ygy:∀k f g,Ge (k+1) f g=Ge k f (ddl (k+1) g)
 | k,[],g=>rfl
 | k,a::f,[]=>rfl
 | k,a::f,b::g=>by show((k:Int)+1)*fc k*(a*b)+Ge (k+1+1) f g=fc k*(a*(((k+1:Nat):Int)*b))+Ge (k+1) f (ddl (k+1+1) g);rw [Ygy (k+1) f g];push_cast;grind
theorem fip_x:∀f g,Ge 0 (xl f) g=Ge 0 f (dl g)
 | [],g=>rfl
 | a::f,[]=>rfl
 | a::f,b::g=>by show fc 0*(0*b)+Ge 1 (a::f) g=Ge 0 (a::f) (ddl 1 g);rw [dC,eC,lB];exact Ygy 0 (a::f) g
theorem Ygv(f g:List Int):Ge 0 f (xl g)=Ge 0 (dl f) g:=by rw [Eh,fip_x,Eh]
def Mq:List Int->Nat->List Int->List Int
 | [],_,_=>[]
 | c::q,0,g=>al (Ag c g) (xl (Mq q 0 g))
 | c::q,j+1,g=>al (xl (Mq q (j+1) g)) (Mq q j g)
def Hq:List Int->Nat->List Int->List Int
 | [],_,_=>[]
 | c::p,0,f=>al (Ag c f) (Hq p 0 (dl f))
 | c::p,k+1,f=>al (Hq p (k+1) (dl f)) (Hq p k f)
theorem Zzn:∀q j g,dl (Mq q j g)=al (Mq q j (dl g)) (Ag ((j:Int)+1) (Mq q (j+1) g))
 | [],j,g=>rfl
 | c::q,0,g=>by
  show dl (al (Ag c g) (xl (Mq q 0 g)))=al (al (Ag c (dl g)) (xl (Mq q 0 (dl g)))) (Ag (((0:Nat):Int)+1) (al (xl (Mq q (0+1) g)) (Mq q 0 g)));rw [dl_al,dl_scl,dl_x,Zzn q 0 g,xl_al];rw [show((0:Nat):Int)+1=1 from rfl,Ziq,Ziq]
  ac_rfl
 | c::q,j+1,g=>by
  show dl (al (xl (Mq q (j+1) g)) (Mq q j g))=al (al (xl (Mq q (j+1) (dl g))) (Mq q j (dl g))) (Ag (((j+1:Nat):Int)+1) (al (xl (Mq q (j+1+1) g)) (Mq q (j+1) g)));rw [dl_al,dl_x,Zzn q (j+1) g,Zzn q j g,xl_al,xl_scl,Yd8];rw [show Ag (((j+1:Nat):Int)+1) (Mq q (j+1) g)=al (Ag ((j:Int)+1) (Mq q (j+1) g)) (Mq q (j+1) g) by rw [Zxr,Ziq];rfl]
  ac_rfl
theorem Zi4:∀q j f g,Ge 0 f (Mq q j g)=Ge 0 (Hq q j f) g
 | [],j,f,g=>Zla 0 f
 | c::q,0,f,g=>by show Ge 0 f (al (Ag c g) (xl (Mq q 0 g)))=Ge 0 (al (Ag c f) (Hq q 0 (dl f))) g;rw [Zlc,Zld,Zpo,Zf8,Ygv,Zi4 q 0 (dl f) g]
 | c::q,j+1,f,g=>by show Ge 0 f (al (xl (Mq q (j+1) g)) (Mq q j g))=Ge 0 (al (Hq q (j+1) (dl f)) (Hq q j f)) g;rw [Zlc,Zld,Ygv,Zi4 q (j+1) (dl f) g,Zi4 q j f g]
def wfa:Nat->Nat->Int
 | j,0=>1
 | j,k+1=>((j:Int)+1)*wfa (j+1) k
theorem Zn0:∀k j,0<wfa j k
 | 0,j=>by show(0:Int)<1;decide
 | k+1,j=>gL O (Zn0 k (j+1))
theorem Zlb:∀(p q:List Int) (j:Nat) (f g:List Int) (K:Nat),p.length<=K->Ge 0 (Mq p 0 f) (Mq q j g)=Yb (λk=>wfa j k*Ge 0 (Hq q (j+k) f) (Hq p k g)) K
 | [],q,j,f,g,K,_=>by rw [Ft (λk n=>by show wfa j k*Ge 0 (Hq q (j+k) f) []=0;rw [Zla,eC])];rfl
 | c::p,q,j,f,g,K,hK=>by
  obtain⟨e,rfl⟩:∃e,K=e+1:=⟨K-1,by simp at hK;omega⟩;have o:p.length<=e:=by simpa using hK
  have w:=Zlb p q j f (dl g) (e+1) O;have B:=Zlb p q (j+1) f g e o;show Ge 0 (al (Ag c f) (xl (Mq p 0 f))) (Mq q j g)=_;rw [Zld,Zf8,fip_x,Zzn,Zlc,Zpo,w,B,Zi4];rw [Mz,Mz (λk=>wfa j k*Ge 0 (Hq q (j+k) f) (Hq (c::p) k g))];have h:Ge 0 (Hq q (j+0) f) (Hq (c::p) 0 g)=c*Ge 0 (Hq q j f) g+Ge 0 (Hq q j f) (Hq p 0 (dl g)):=by show Ge 0 (Hq q j f) (al (Ag c g) (Hq p 0 (dl g)))=_;rw [Zlc,Zpo]
  have l:Yb (λk=>wfa j (k+1)*Ge 0 (Hq q (j+(k+1)) f) (Hq (c::p) (k+1) g)) e=Yb (λk=>wfa j (k+1)*Ge 0 (Hq q (j+(k+1)) f) (Hq p (k+1) (dl g))) e+((j:Int)+1)*Yb (λk=>wfa (j+1) k*Ge 0 (Hq q (j+1+k) f) (Hq p k g)) e:=by rw [<-Mh,<-De];refine Yz λk n=>?_;show _*Ge 0 _ (al (Hq p (k+1) (dl g)) (Hq p k g))=_;rw [Zlc,show j+1+k=j+(k+1) by omega];show((j:Int)+1)*wfa (j+1) k*_=((j:Int)+1)*wfa (j+1) k*_+_;grind
  rw [h,l];show _=(1:Int)*_+_;show _*_+((1:Int)*_+_+_)=_;rw [show j+0=j from rfl];grind
theorem Zn9(a:Int):0<=a*a:=by
 rcases Int.le_total 0 a with h|h
 .exact dS h h
 .have:=dS (show 0<=-a by omega) (show 0<=-a by omega);rwa [Int.neg_mul_neg]at this
theorem Zhj:∀k,1<=fc k
 | 0=>by show(1:Int)<=1;decide
 | k+1=>by have h:=Zhj k;show 1<=((k:Int)+1)*fc k;have e:=lG (show(1:Int)<=(k:Int)+1 by omega) h O3 O;omega
theorem Ygz(k:Nat)(f:List Int)(b:Int)(g:List Int):Ge k f (b::g)=fc k*(cf f 0*b)+Ge (k+1) f.tail g:=by
 cases f with
 | nil=>show(0:Int)=fc k*(0*b)+Ge (k+1) [] g;rw [dC,eC];rfl
 | cons a f=>rfl
theorem Yie(f:List Int)(i:Nat):cf f.tail i=cf f (i+1):=by cases f<;>rfl
theorem Zpq:∀k (f e g:List Int),(∀i,cf f i=cf e i)->Ge k f g=Ge k e g
 | k,f,e,[],h=>by rw [Zla,Zla]
 | k,f,e,b::g,h=>by rw [Ygz,Ygz,h 0,Zpq (k+1) f.tail e.tail g λi=>by rw [Yie,Yie,h]]
theorem Zpp:∀k f,0<=Ge k f f
 | k,[]=>fE _
 | k,a::f=>by show 0<=fc k*(a*a)+Ge (k+1) f f;have e:=Zpp (k+1) f;have g:=dS (show 0<=fc k by have:=Zhj k;omega) (Zn9 a);omega
theorem Ygx:∀k f i,cf f i*cf f i<=Ge k f f
 | k,[],i=>by rw [Yo O8];exact fE _
 | k,a::f,0=>by show a*a<=fc k*(a*a)+Ge (k+1) f f;have e:=Zpp (k+1) f;have g:=fD (Zhj k) (Zn9 a);omega
 | k,a::f,i+1=>by show cf f i*cf f i<=fc k*(a*a)+Ge (k+1) f f;have e:=Ygx (k+1) f i;have g:=dS (show 0<=fc k by have:=Zhj k;omega) (Zn9 a);omega
def fcs:Nat->Nat->Int
 | k,0=>0
 | k,n+1=>fc k+fcs (k+1) n
theorem Yg7:∀n k,0<=fcs k n
 | 0,k=>fE _
 | n+1,k=>by have h:=Yg7 n (k+1);have:=Zhj k;show 0<=fc k+fcs (k+1) n;omega
theorem Ygw:∀n k (f:List Int) (A:Int),f.length<=n->(∀x∈f,x*x<=A)->0<=A->Ge k f f<=fcs k n*A
 | n,k,[],A,_,_,e=>dS (Yg7 n k) e
 | 0,k,a::f,A,h,_,_=>by simp at h
 | n+1,k,a::f,A,h,hx,e=>by have j:=Ygw n (k+1) f A (by simpa using h) (λx g=>hx x (bM _ g)) e;have l:=iK (hx a (cE ..)) (show 0<=fc k by have:=Zhj k;omega);show fc k*(a*a)+Ge (k+1) f f<=(fc k+fcs (k+1) n)*A;rw [lT];omega
theorem Zw7:∀p k f,p.length<=k->Hq p k f=[]
 | [],k,f,_=>by cases k<;>rfl
 | c::p,0,f,h=>by simp at h
 | c::p,k+1,f,h=>by
  show al (Hq p (k+1) (dl f)) (Hq p k f)=[];have e:p.length<=k:=by simpa using h
  rw [Zw7 p (k+1) _ O,Zw7 p k _ e];rfl
theorem Yji:∀p k f,p.length=k+1->Hq p k f=Ag (cf p k) f
 | [],k,f,h=>by simp at h
 | [c],0,f,h=>Yi4 _
 | c::d::p,0,f,h=>by simp at h
 | c::p,k+1,f,h=>by
  have e:p.length=k+1:=by simpa using h
  show al (Hq p (k+1) (dl f)) (Hq p k f)=Ag (cf p k) f;rw [Zw7 p (k+1) _ O,Yji p k f e];rfl
theorem Yij:∀f g i,cf (al f g) i=cf f i+cf g i
 | [],g,i=>by rw [Yo (p:=[]) O8,lB];rfl
 | a::f,[],i=>by rw [Yo (p:=[]) O8,bP];rfl
 | a::f,b::g,0=>rfl
 | a::f,b::g,i+1=>Yij f g i
def Yih(c:Int)(f:List Int)(i:Nat):cf (Ag c f) i=c*cf f i:=Zc6 (p:=f) (f:=(c*·)) (eC c) i
theorem cf_xl0(f:List Int):cf (xl f) 0=0:=by cases f<;>rfl
theorem cf_xl(f:List Int)(i:Nat):cf (xl f) (i+1)=cf f i:=by cases f<;>rfl
theorem cf_Mq:∀p f i,cf (Mq p 0 f) i=(ps p*ps f).c i
 | [],f,i=>by rw [PS.mul_c,Ft (λk _=>by rw [Nl,Yo O8,dC])];exact Yo (by simp [Mq])
 | c::p,f,0=>by show cf (al (Ag c f) (xl (Mq p 0 f))) 0=_;rw [Yij,Yih,cf_xl0,PS.mul_c,Mz,bP];exact(bP _).symm
 | c::p,f,i+1=>by show cf (al (Ag c f) (xl (Mq p 0 f))) (i+1)=_;rw [Yij,Yih,cf_xl,cf_Mq p f i,PS.mul_c,PS.mul_c,Mz _ (i+1)];refine aL (c*cf f (i+1)+·) (Yz λk e=>?_);show cf p k*cf f (i-k)=cf p k*cf f (i+1-(k+1));rw [show i+1-(k+1)=i-k by omega]
theorem Yb1{n L e:Nat}(hu:Tr u)(w:Tr v)(hs:Sz n s)(N:s≠[])(hl:s.length<=L)(W:fcs 0 L<=2^e*2^e)(h:s=Qr u v):Sz (n+e) u:=by
 have B:v≠[]:=λe=>N (by rw [h,e,Zev]);obtain⟨m,I⟩:∃m,v.length=m+1:=⟨v.length-1,by have:=aH.2 B;omega⟩;have g:cf v m≠0:=by
  rcases w with w|w
  .exact absurd w B
  .rwa [I]at w
 have o:∀i,cf (Mq v 0 u) i=cf s i:=λi=>by rw [cf_Mq,h,Zaz,He]
 have j:=Zlb v v 0 u u (m+1) O;rw [Zpq 0 _ s _ o,Eh,Zpq 0 _ s _ o,Yl,bR,Yji v m u I,Zf8,Zpo]at j;have l:∀t,0<=Yb (λk=>wfa 0 k*Ge 0 (Hq v (0+k) u) (Hq v k u)) t:=λt=>by
  induction t with
  | zero=>exact fE _
  | succ t ih=>
   rw [Yl,bR];have:=dS (show 0<=wfa 0 t by have:=Zn0 t 0;omega) (Zpp 0 (Hq v t u));omega
 have hr:=l m;have V:1<=cf v m*cf v m:=by
  have h1:=Zn9 (cf v m);have h2:cf v m*cf v m≠0:=λe=>by rcases fA.1 e with q|q<;>exact g q
  omega
 have Z:=Zpp 0 u;have h3:Ge 0 u u<=cf v m*(cf v m*Ge 0 u u):=by have:=fD V Z;rw [eZ]at this;omega
 have h4:Ge 0 u u<=wfa 0 m*(cf v m*(cf v m*Ge 0 u u)):=by have:=fD (show 1<=wfa 0 m from Zn0 m 0) (show 0<=cf v m*(cf v m*Ge 0 u u) by omega);omega
 intro i;rw [Qt];have h5:=Ygx 0 u i;have R:∀x∈s,x*x<=(2^n-1)*(2^n-1):=λx hx=>by
  have hb:x.natAbs<2^n:=(Qt n _).1 (hs.mem hx);have S:((2^n:Nat):Int)=2^n:=by push_cast;rfl
  have p1:x<=2^n-1:=O;have p2:-(2^n-1)<=x:=O;generalize (2:Int)^n-1=y at *;have:=dS (show 0<=y-x by omega) (show 0<=y+x by omega);grind
 have hp:(1:Int)<=2^n:=by exact_mod_cast bW (n:=n) (show 0<2 by decide)
 have M:(1:Int)<=2^e:=by exact_mod_cast bW (n:=e) (show 0<2 by decide)
 have h6:=Ygw L 0 s _ hl R (dS O O);have h7:cf u i*cf u i<=(2^e*2^e)*((2^n-1)*(2^n-1)):=by have:=fD W (show(0:Int)<=(2^n-1)*(2^n-1)from dS O O);omega
 rcases aX (cf u i).natAbs (2^(n+e))with G|F
 .exact G
 .exfalso;have H:(2^n*2^e:Int)<=((cf u i).natAbs:Int):=by rw [<-Int.pow_add];exact_mod_cast F
  have Q:((cf u i).natAbs:Int)*((cf u i).natAbs:Int)=cf u i*cf u i:=Int.natAbs_mul_self;have D:(2^n*2^e:Int)*(2^n*2^e)<=((cf u i).natAbs:Int)*((cf u i).natAbs:Int):=lG H H (dS O O) O;rw [Q]at D;generalize (2:Int)^n=X at *;generalize (2:Int)^e=Y at *;have P:(Y*Y)*((X-1)*(X-1))<(Y*Y)*(X*X):=by have hy:=lG M M O3 O;refine Int.mul_lt_mul_of_pos_left ?_ O;grind
  grind
def kkR(R:Nat):Nat->Nat
 | 0=>0
 | d+1=>2*(R+1)*kkR R d+1
def Zbu (L:Nat)(R:Nat){n e:Nat}(o:Tr u)(w:Tr v)(hs:Sz n s)(g:s≠[])(l:Tr s)(k:s.length<=L)(B:2*L<=R+2)(j:fcs 0 L<=2^e*2^e)(h:s=Qr u v):Sz (n+e) u:=Yb1 o w hs g k j h
theorem num13{e g:Nat}(k:e<=13)(n:g+1=e)(j:K<=600):Zsf e g K:=λl o=>by have h:∀l,l<=12->(l+1)*(600*(27-2*l)+1)<=65536:=O3;refine aB (bH _ (Nat.succ_le_succ (aY j O))) (h l O)
theorem chH{n:Nat}(F:Nat)(w:Tr xs)(B:xs≠[])(hs:Sz n xs)(hn:n<=350)(hl:xs.length<=13)(hb:(xs.length+2)*(xs.length+2)*(n+13)<=65536)(hF:xs.length<=F+1) :
  Aj F xs/\Sz (n+15) (sqf F xs)/\(sqf F xs).length<=xs.length/\∀p∈chn F xs,Qz p<=(n+26)*25/\p.length<=xs.length:=by
 have e:=Zuw hs;have Z:=Pp w;have k:Tr (Xj xs):=Nw (Xh w);have S:=Zas e O;have Y:=Nt (Xj xs);have l:Tr (Xb (Xj xs)):=Mg k;have m1:=Pz e;have m2:=Pz S;have l0:=aH.2 B;have G:gA (Xj xs) (Xb (Xj xs))=Yi (Xj xs):=aD O;have H:gB (Xj xs) (Xb (Xj xs))=Yi (Xb (Xj xs)):=aD O;have j:eok F (gA (Xj xs) (Xb (Xj xs))) (gB (Xj xs) (Xb (Xj xs))):=by
  rw [G,H];refine(Yms (n:=n+5) (s:=5) (K:=n+11) (by rw [Zy,Zy];omega) (Xh k) (Xh l) (Cb (e.mono O)) (Cb S) ?_ O ?_ ?_ ?_).1
  .rw [Zy,Zy];omega
  .rw [Zy,Zy];exact num13 O O O
  .rw [Zy];exact aB (aY (show(Xj xs).length+1<=14 by omega) (show n+5+1<=400 by omega)) O3
  .rw [Zy];omega
 obtain⟨f1,f2,f3,f4,f5,f6⟩:=Nf F w B j;have D:=Zfe F k l;have g:=Zkn w B;have Q:fcs 0 13<=2^15*2^15:=O7;have o:=Zbu 13 24 f2 D e g k O O3 Q f4;have I:=Zbu 13 24 D f2 e g k O O3 Q (by rw [Zaz];exact f4);have M:=Ma f2 D f3 f5;rw [<-f4]at M;have lg:=aH.2 f5;have lq:=aH.2 f3;have mg:=Pz I;have P:(sqf F xs).length<=xs.length:=O;have N:=Zas o O;have V:=Nt (sqf F xs);have R:=Ynb (a:=sqf F xs) (b:=Yi (Xb (sqf F xs))) (n:=n+15+5) (s:=5) (K:=n+26) (f:=F) (by rw [Zy];omega) f2 (Xh (Mg f2)) (o.mono O) (Cb N) (by rw [Zy];omega) O (by rw [Zy];exact num13 O O O) (aB (aY (show(sqf F xs).length+1<=14 by omega) (show n+15+5+1<=500 by omega)) O3) (by rw [Zy];omega);refine⟨⟨⟨λi _=>aB (Zv9 e O i) O,?_,j,?_,f1⟩,λi _=>aB (Zv9 o O i) O,R.1⟩,o,P,λp hp=>?_⟩
 .intro h;have h3:(max (Xj xs).length (Xb (Xj xs)).length+2)*(max (Xj xs).length (Xb (Xj xs)).length+2)*(max (Qz (Xj xs)) (Qz (Xb (Xj xs)))+8)<=(xs.length+2)*(xs.length+2)*(n+13):=aY (aY O O) O;have:=h.2.2;omega
 .unfold Ba;rw [aD O];split
  .rfl
  .have:((Xj xs).length-(Nz F (Xj xs) (Xb (Xj xs))).length+1)*(Qz (Nz F (Xj xs) (Xb (Xj xs)))+1)<=14*500:=aY O O;rw [aD O]
 .obtain⟨W,a2⟩:=R.2 p hp;refine⟨aB W (bH _ ?_),O⟩;rw [Zy];omega
theorem chG{n:Nat}(F:Nat)(j:Tr xs)(e:xs≠[])(hs:Sz n xs)(h:n<=350)(k:xs.length<=11)(g:xs.length<=F+1) :
  Aj F xs/\Sz (n+15) (sqf F xs)/\(sqf F xs).length<=xs.length/\∀p∈chn F xs,Qz p<=(n+26)*25/\p.length<=xs.length:=
 chH F j e hs h O (aB (aY (aY (show _<=13 by omega) (show _<=13 by omega)) (show _<=363 by omega)) O3) g
theorem Dv.ed{g:List Int}(h:Dv g a):Ed g a:=by obtain⟨k,s,e,h⟩:=h;refine⟨k,s,e,λx=>?_⟩;have:=Dt k 0 a s g [] (λt=>by rw [h t];omega) x;push_cast at this;grind
theorem Zlu{F:Nat}(o:Tr xs)(j:xs≠[])(k:Aj F xs)(s t:Rat) :
  ∃h:Rat,0<h/\∀u v,s<=u->u<=v->v<=t->v-u<=h->vat ((chn F xs).map Zb) u-vat ((chn F xs).map Zb) v=crs (Zb (sqf F xs)) u v:=by
 have g:=k.1.2.2.1;obtain⟨f1,f2,f3,f4,f5,f6⟩:=Nf F o j g;have e:=Mg f2;by_cases w:Xb (sqf F xs)=[]
 .refine Zjt 1 f2 (Xh e) f3 k.2.2 O3 (λx=>?_) λq n a b=>?_
  .rw [<-Km,w];show(0:Rat)=1*0;grind
  .exact Zff o j g n a (b.sim (Qu e))
 .have l:0<Xl (Xb (sqf F xs)):=by have B:=Za0 e w;have D:=Mu (Xb (sqf F xs));omega
  refine Zjt (Xl (Xb (sqf F xs)):Rat) f2 (Xh e) f3 k.2.2 (by exact_mod_cast l) (λx=>?_) λq n a b=>?_
  .rw [<-Km,<-Zg];exact Ng x _ _ λi=>by rw [Qh,dV,Fi]
  .exact Zff o j g n a (b.sim (Qu e))
theorem Yma{g:List Int}(F:∀x:Rat,Zb p x=Zb s x*Zb g x)(hg:Tr g)(g0:g≠[])(N:Ed g (ld p))(B:Irr q)(Q:Ed q p):Ed q s:=by
 refine bJ λD=>?_;have l:=B.1;have o:=B.2.1;have P:¬Ed q (ld q):=λh=>by have Y:Ed q (Xb q):=h.congr λx=>(Km q x).symm;have Z:=Nt q;have:=(Y.len l (Mg l) (λe=>by rw [e]at Z;simp at Z;omega)).2;omega
 obtain⟨c1,m1,k1,e1⟩:=Q;obtain⟨j,m,k2,e2⟩:=N;have S:∀k,Ed (Fe q k) g:=λk=>by
  induction k with
  | zero=>exact⟨1,g,O3,λx=>by rw [show Fe q 0=[1]from rfl,Pi];push_cast;grind⟩
  | succ k ih=>
   cases k with
   | zero=>
    have M:Ed q g:=(Za2 s g m1 _ B k1 (λx=>by rw [<-F x];exact e1 x)).resolve_left D;exact M.congr_l λx=>by rw [Fw,show Fe q 0=[1]from rfl,Pi];push_cast;grind
   | succ k=>
    obtain⟨c,u,kc,eu⟩:=ih;have hd:∀x:Rat,(c:Rat)*Zb (ld g) x=Zb (ld u) x*Zb (Fe q (k+1)) x+Zb u x*(((k:Rat)+1)*(Zb (Fe q k) x*Zb (ld q) x)):=λx=>by have:=Cd (g.map λa=>c*a) (lmul u (Fe q (k+1))) (λy=>by rw [Zg,Zp];exact eu y) x;rwa [Aq,Cu,Zom]at this
    have hp:∀x:Rat,Zb (ld p) x=Zb (ld s) x*Zb g x+Zb s x*Zb (ld g) x:=λx=>by have:=Cd p (lmul s g) (λy=>by rw [Zp];exact F y) x;rwa [Cu]at this
    have hz:∀x:Rat,Zb (Mb ((lmul (lmul s u) (ld q)).map λa=>(j*((k:Int)+1))*a) ((lmul (Mb ((lmul s (ld u)).map λa=>j*a) ((lmul (Mb m ((ld s).map λa=>(-j)*a)) u).map λa=>(-1)*a)) q))) x=0:=λx=>by
     refine Ea (Fe q k) (λe=>?_) (λx=>?_) x
     .rw [Zai (Zax l o k).1]at e;have:=(Zax l o k).2;rw [e]at this;simp at this
     .rw [Xd,Zg,Zp,Zp,Zp,Xd,Zg,Zp,Zg,Zp,Xd,Zg];have H:=e2 x;have V:=hp x;have W:=hd x;have G:=eu x;rw [Fw]at W G;push_cast;have b1:(j:Rat)*Zb s x*(c*Zb (ld g) x)=(Zb m x-j*Zb (ld s) x)*(c*Zb g x):=by
       have:(j:Rat)*Zb s x*(c*Zb (ld g) x)=c*(j*(Zb (ld p) x-Zb (ld s) x*Zb g x)):=by rw [V];grind
       rw [this];have:(c:Rat)*(j*(Zb (ld p) x-Zb (ld s) x*Zb g x))=c*(j*Zb (ld p) x)-c*j*Zb (ld s) x*Zb g x:=O4;rw [this,H];grind
      rw [W,G]at b1;grind
    have M:=Za2 (lmul s u) (ld q) (Mb ((lmul (Mb m ((ld s).map λa=>(-j)*a)) u)) ((lmul s (ld u)).map λa=>(-j)*a)) (j*((k:Int)+1)) B (bG k2 O) (λx=>by have:=hz x;rw [Xd,Zg,Zp,Zp,Zp,Xd,Zg,Zp,Zg,Zp,Xd,Zg]at this;rw [Zp,Xd,Zp,Xd,Zg,Zg,Zp];push_cast at this ⊢;grind)
    have Y:=Za2 s u [] 1 B O3;have h7:Ed q u:=by obtain⟨n,w,R,I⟩:=M.resolve_right P;exact(Za2 s u w n B R (λx=>by have:=I x;rwa [Zp]at this)).resolve_left D
    obtain⟨n,w,R,I⟩:=h7;refine⟨n*c,w,bG R kc,λx=>?_⟩;have G:=eu x;have a5:=I x;rw [Fw q (k+1)];push_cast;have:(n:Rat)*c*Zb g x=n*(c*Zb g x):=O4;rw [this,G];have:(n:Rat)*(Zb u x*Zb (Fe q (k+1)) x)=(n*Zb u x)*Zb (Fe q (k+1)) x:=O4;rw [this,a5];grind
 obtain⟨H,V⟩:=Zax l o g.length;have:=((S g.length).len H hg g0).2;omega
theorem Ylv(g:d≠0):Irr [-r,d]:=by have e:Tr [-r,d]:= .inr g;refine⟨e,O8,λq j h=>?_⟩;have:=(h.len j e O8).2;simp at this ⊢;omega
theorem Ziu(r d:Int)(x:Rat):Zb [-r,d] x=(d:Rat)*x-r:=by show((-r:Int):Rat)+x*((d:Rat)+x*0)=_;push_cast;grind
theorem Yky(D:Tr p)(j:d≠0)(h:Zb p ((r:Rat)/d)=0):Ed [-r,d] p:=by
 have n:(d:Rat)≠0:=by exact_mod_cast j
 have w:Tr [-r,d]:= .inr j;obtain⟨k,s,hs⟩:=Zaw p (q:=[-r,d]) O8;have g:=Ke (w.mem O8) k;generalize cf [-r,d] ([-r,d].length-1)^k=L at hs g;have l:∀x,(L:Rat)*Zb p x=Zb s x*Zb [-r,d] x+Zb (Qk p [-r,d]) x:=λx=>by have:=Dt L (-1) p s [-r,d] (Qk p [-r,d]) (λt=>by rw [hs t];omega) x;push_cast at this;grind
 have o:=Pr p (q:=[-r,d]) O8;have B:∀x,Zb (Qk p [-r,d]) x=0:=λx=>by
  have e:=l ((r:Rat)/d);rw [h,Ziu]at e
  match hr:Qk p [-r,d],o with
  | [],_=>rfl
  | [c],_=>
   rw [hr,Pi]at e;rw [Pi];have:(d:Rat)*(r/d)=r:=O4;rw [this]at e;grind
 exact⟨L,s,g,λx=>by rw [l x,B x];grind⟩
theorem Ed.root(g:d≠0)(h:Ed [-r,d] p):Zb p ((r:Rat)/d)=0:=by
 obtain⟨k,s,l,h⟩:=h;have j:(d:Rat)≠0:=by exact_mod_cast g
 have n:(k:Rat)≠0:=by exact_mod_cast l
 have e:=h ((r:Rat)/d);rw [Ziu]at e;have:(d:Rat)*(r/d)=r:=O4;rw [this]at e;grind
theorem Ydk{F:Nat}(j:Tr xs)(l:xs≠[])(g:eok F (gA (Xj xs) (Xb (Xj xs))) (gB (Xj xs) (Xb (Xj xs))))(k:d≠0)(h:Zb xs ((r:Rat)/d)=0):Zb (sqf F xs) ((r:Rat)/d)=0:=by
 obtain⟨f1,f2,f3,f4,f5,f6⟩:=Nf F j l g;have hs:Tr (Xj xs):=Nw (Xh j);have e:Tr (Xb (Xj xs)):=Mg hs;have n:Ed [-r,d] (Xj xs):=(Yky j k h).sim ((Qu j).symm.trans (Ix _).symm);have o:∀x:Rat,Zb (Xj xs) x=Zb (sqf F xs) x*Zb (Nz F (Xj xs) (Xb (Xj xs))) x:=λx=>by
  have:Zb (Xj xs) x=Zb (Qr (sqf F xs) (Nz F (Xj xs) (Xb (Xj xs)))) x:=by rw [<-f4]
  rw [this,Yv]
 have w:Ed (Nz F (Xj xs) (Xb (Xj xs))) (ld (Xj xs)):=((Zdl hs e g).2.ed).congr λx=>Km _ x;exact(Yma o (Zfe _ hs e) f5 w (Ylv k) n).root k
def Away(s t:Rat)(f:Rat->Rat):Prop:=∃δ:Rat,0<δ/\∀x,s<=x->x<=t->δ<=f x\/f x<=-δ
theorem Away.mul{s:Rat}{f g h:Rat->Rat}(F:Away s t f)(G:Away s t g)(e:∀x,h x=f x*g x):Away s t h:=by
 obtain⟨a,l,n⟩:=F;obtain⟨b,o,w⟩:=G;refine⟨a*b,bB l o,λx j k=>?_⟩;rw [e x];rcases n x j k with B|B<;>rcases w x j k with D|D
 .left;have:=aN (a:=f x-a) (b:=g x) O4 O4;have:=aN (a:=a) (b:=g x-b) O4 O4;grind
 .right;have:=aN (a:=f x-a) (b:=- g x) O4 O4;have:=aN (a:=a) (b:=- g x-b) O4 O4;grind
 .right;have:=aN (a:=- f x-a) (b:=g x) O4 O4;have:=aN (a:=a) (b:=g x-b) O4 O4;grind
 .left;have:=aN (a:=- f x-a) (b:=- g x) O4 O4;have:=aN (a:=a) (b:=- g x-b) O4 O4;grind
theorem Away.lin{s:Rat}(j:0<d)(h:(r:Rat)<d*s\/(d:Rat)*t<r):Away s t (Zb [-r,d]):=by
 have k:(0:Rat)<(d:Rat):=by exact_mod_cast j
 rcases h with h|h
 .refine⟨d*s-r,O4,λx e g=> .inl ?_⟩;rw [Ziu];have:=aN (a:=(d:Rat)) (b:=x-s) O4 O4;grind
 .refine⟨r-d*t,O4,λx e g=> .inr ?_⟩;rw [Ziu];have:=aN (a:=(d:Rat)) (b:=t-x) O4 O4;grind
theorem Away.sq(s t:Rat):Away s t (Zb [1,0,1]):=⟨1,O3,λx _ _=>by
 left;show(1:Rat)<=((1:Int):Rat)+x*(((0:Int):Rat)+x*(((1:Int):Rat)+x*0));have:0<=x*x:=by
  rcases(show 0<=x\/x<0 by grind)with h|h
  .exact aN h h
  .have:=aN (a:=-x) (b:=-x) O4 O4;grind
 push_cast;grind⟩
theorem Away.one(s t:Rat):Away s t (Zb [1]):=⟨1,O3,λx _ _=>by left;rw [Pi];exact iL⟩
def cntP(P:Int->Prop)[DecidablePred P](m:Int):Nat->Int
 | 0=>0
 | n+1=>cntP P m n+(if P (m+n+1)then 1 else 0)
def eB(K C:Nat):Nat->Nat
 | 0=>0
 | n+1=>C+K*eB K C n
def eL(K C:Nat):Nat->Nat
 | 0=>0
 | n+1=>K*eL K C n+eB K C n
def eM(K C:Nat):Nat->Nat
 | 0=>0
 | n+1=>eL K C n+K*eM K C n
theorem Gy{a b:Nat}(h:a<=b):(a:Rat)<=(b:Rat):=by exact_mod_cast h
theorem Yii{C:Nat}(h:c.natAbs<=C):-(C:Rat)<=(c:Rat)/\(c:Rat)<=(C:Rat):=by
 have e:((-(C:Int):Int):Rat)<=(c:Rat):=by exact_mod_cast (show -(C:Int)<=c by omega)
 have g:(c:Rat)<=(((C:Nat):Int):Rat):=by exact_mod_cast (show c<=(C:Int) by omega)
 push_cast at e g;constructor<;>grind
def Zqd{C:Nat}(h:∀i,(cf (c::p) i).natAbs<=C):c.natAbs<=C/\∀i,(cf p i).natAbs<=C:=⟨h 0,λi=>h (i+1)⟩
theorem Zoj{K C:Nat} : ∀(n:Nat) (p:List Int),p.length<=n->(∀i,(cf p i).natAbs<=C)->∀x:Rat,-(K:Rat)<=x->x<=(K:Rat)->-(eB K C n:Rat)<=Zb p x/\Zb p x<=(eB K C n:Rat)
 | n,[],_,_,x,_,_=>by have h:(0:Rat)<=(eB K C n:Rat):=Gy (bI _);show -(eB K C n:Rat)<=0/\(0:Rat)<=(eB K C n:Rat);constructor<;>grind
 | 0,c::p,hl,_,_,_,_=>absurd hl O8
 | n+1,c::p,hl,hc,x,h1,h2=>by
  obtain⟨g,j⟩:=Zqd hc;obtain⟨k,l⟩:=Zoj n p (by simpa using hl) j x h1 h2;obtain⟨w,B⟩:=Yii g;have o:(0:Rat)<=(K:Rat):=Gy (bI _);obtain⟨f1,f2⟩:=Zb2 h1 h2 k l o;have e:((eB K C (n+1):Nat):Rat)=(C:Rat)+(K:Rat)*(eB K C n:Rat):=by show((C+K*eB K C n:Nat):Rat)=_;push_cast;rfl
  rw [e,show Zb (c::p) x=(c:Rat)+x*Zb p x from rfl];constructor<;>grind
theorem Zoi{K C:Nat} : ∀(n:Nat) (p:List Int),p.length<=n->(∀i,(cf p i).natAbs<=C)->Lip (-(K:Rat)) (K:Rat) (eL K C n:Rat) (Zb p)
 | n,[],_,_,x,y,_,k,_=>by have h:(0:Rat)<=(eL K C n:Rat):=Gy (bI _);have:=aN (a:=(eL K C n:Rat)) (b:=y-x) h O4;show(0:Rat)-0<=_/\(0:Rat)-0<=_;constructor<;>grind
 | 0,c::p,hl,_,_,_,_,_,_=>absurd hl O8
 | n+1,c::p,hl,hc,x,y,h1,k,h2=>by
  obtain⟨o,j⟩:=Zqd hc;obtain⟨w,B⟩:=Zoi n p (by simpa using hl) j x y h1 k h2;obtain⟨D,F⟩:=Zoj n p (by simpa using hl) j y O4 h2;have l:(0:Rat)<=(K:Rat):=Gy (bI _);obtain⟨f1,f2⟩:=Zb2 (q:=x) (g:=Zb p x-Zb p y) (e:=(eL K C n:Rat)*(y-x)) h1 O4 O4 O4 l;have G:=aN (a:=(eB K C n:Rat)-Zb p y) (b:=y-x) O4 O4;have H:=aN (a:=(eB K C n:Rat)+Zb p y) (b:=y-x) O4 O4;have e:((eL K C (n+1):Nat):Rat)=(K:Rat)*(eL K C n:Rat)+(eB K C n:Rat):=by show((K*eL K C n+eB K C n:Nat):Rat)=_;push_cast;rfl
  rw [e,show Zb (c::p) x=(c:Rat)+x*Zb p x from rfl,show Zb (c::p) y=(c:Rat)+y*Zb p y from rfl];constructor<;>grind
theorem Yeg{K C:Nat} : ∀(n:Nat) (p:List Int),p.length<=n->(∀i,(cf p i).natAbs<=C)->Tay (-(K:Rat)) (K:Rat) (eM K C n:Rat) p
 | n,[],_,_,x,y,_,j,_=>by have h:(0:Rat)<=(eM K C n:Rat):=Gy (bI _);have B:=aN (a:=y-x) (b:=y-x) O4 O4;have:=aN h B;show -((eM K C n:Rat)*(y-x)*(y-x))<=(0:Rat)-0-(y-x)*0/\(0:Rat)-0-(y-x)*0<=(eM K C n:Rat)*(y-x)*(y-x);constructor<;>grind
 | 0,c::p,hl,_,_,_,_,_,_=>absurd hl O8
 | n+1,c::p,hl,hc,x,y,hs,j,ht=>by
  obtain⟨F,k⟩:=Zqd hc;obtain⟨o,w⟩:=Yeg n p (by simpa using hl) k x y hs j ht;obtain⟨G,H⟩:=Zoi n p (by simpa using hl) k x y hs j ht;have D:(0:Rat)<=(K:Rat):=Gy (bI _);have l:0<=y-x:=O4;obtain⟨f1,f2⟩:=Zb2 (q:=x) (Q:=(K:Rat)) (g:=Zb p y-Zb p x-(y-x)*Zb (ld p) x) (e:=(eM K C n:Rat)*(y-x)*(y-x)) hs O4 o w D;have I:=aN (a:=y-x) (b:=(eL K C n:Rat)*(y-x)-(Zb p y-Zb p x)) l O4;have M:=aN (a:=y-x) (b:=(eL K C n:Rat)*(y-x)+(Zb p y-Zb p x)) l O4;have e:((eM K C (n+1):Nat):Rat)=(eL K C n:Rat)+(K:Rat)*(eM K C n:Rat):=by show((eL K C n+K*eM K C n:Nat):Rat)=_;push_cast;rfl
  rw [e,Zfn,show Zb (c::p) y=(c:Rat)+y*Zb p y from rfl,show Zb (c::p) x=(c:Rat)+x*Zb p x from rfl];constructor<;>grind
theorem Zwg{A:Nat}(w:Tr a)(hb:Tr b)(Y:2<=a.length)(lb:b.length+1=a.length)(hA:0<A)(na:∀i,(cf a i).natAbs<=A)(nb:∀i,(cf b i).natAbs<=A)(hc:∀q,Tr q->Ed q a->Ed q b->q.length<=1) :
  ∃(U V:List Int) (c:Int),c≠0/\U.length+2=a.length/\V.length+1=a.length/\(∀i,(cf U i).natAbs<=(2*(2*a.length-3)*A)^(2*a.length-4))/\(∀i,(cf V i).natAbs<=(2*(2*a.length-3)*A)^(2*a.length-4))/\
   ∀x,(c:Rat)=Zb U x*Zb a x+Zb V x*Zb b x:=by
 obtain⟨U,V,lU,lV,k,B,D,hz⟩:=Zhz a b 1 (p:=a.length-2) (q:=a.length-1) hA na nb O O O;have l:¬(tzl U=[]/\tzl V=[]):=λ⟨h1,h2⟩=>by
  rcases k with⟨i,hi⟩|⟨i,hi⟩
  .exact hi ((Lt U).1 h1 i)
  .exact hi ((Lt V).1 h2 i)
 clear k;rw [show a.length-2+(a.length-1)=2*a.length-3 by omega]at B D;rw [show 2*a.length-3-1=2*a.length-4 by omega]at B D;have j:a≠[]:=λe=>by rw [e]at Y;simp at Y
 have M:∀i,cf (Mb (lmul U a) (lmul V b)) i=(ps U*ps a).c i+(ps V*ps b).c i:=λi=>by rw [My,Em,Em,PS.mul_c,PS.mul_c];rfl
 have I:∀t,Zb (Mb (lmul U a) (lmul V b)) t=Zb U t*Zb a t+Zb V t*Zb b t:=λt=>by rw [Xd,Zp,Zp]
 generalize Mb (lmul U a) (lmul V b)=R at M I;have W:∀t,Zb R t=(cf R 0:Rat):=λt=>by
  rw [<-Pi (cf R 0) t];refine Ng t _ _ λi=>?_
  match i with
  | 0=>rfl
  | i+1=>rw [M,hz (i+1) O,Yo O8]
 refine⟨U,V,cf R 0,λh0=>?_,O,O,B,D,λx=>by rw [<-I,W]⟩;have n:∀t,Zb U t*Zb a t+Zb V t*Zb b t=0:=λt=>by rw [<-I,W,h0];rfl
 obtain⟨g,P,Q,h,N,Z,F⟩:=Zlz _ a b w hb (aI _);have hl:=hc g h N Z;have hg:=(N.len h w j).1;have o:tzl V=[]:=by
  refine bJ λo=>?_
  match g,hg,hl,h,F with
  | [c],_,_,h,F=>
   have H:c≠0:=h.mem O8;have hd:Ed a (tzl V):=⟨c,Mb (lmul P V) ((lmul Q U).map λz=>(-1)*z),H,λx=>by have S:=F x;rw [Pi]at S;rw [Mt,Xd,Zg,Zp,Zp,S];have:=n x;have e:Zb V x*Zb b x=- (Zb U x*Zb a x):=O4;have:(Zb P x*Zb a x+Zb Q x*Zb b x)*Zb V x=Zb P x*Zb V x*Zb a x+Zb Q x*(Zb V x*Zb b x):=O4;rw [this,e];push_cast;grind⟩
   have:=(hd.len w (Qq V) o).2;have:=Hj V;omega
  | c::d::r,_,h9,_,_=>simp at h9
 have G:tzl U=[]:=by
  refine bJ λG=>?_;have:∀t,Zb a t=0:=Ea U G λt=>by have:=n t;rw [Ap o]at this;grind
  exact w.mem j (Zol this _)
 exact l ⟨G,o⟩
def Zxq(K A n e:Nat):Bool:=
 let X:=(2*(2*n-3)*A)^(2*n-4);let W:=eB K X (n-1)
 Nat.ble (2*(2*W+1)*(2*eL K A n)) (2^e) && Nat.ble (2*(2*W+1)*eM K A n) (2^e)
theorem big_or  {A n e:Nat} (hK:0<K) (Y:0<A) (Z:Tr a) (hb:Tr b) (hn:a.length=n) (h2:2<=n) (lb:b.length+1=a.length) (na:∀i,(cf a i).natAbs<=A) (nb:∀i,(cf b i).natAbs<=A) (hc:∀q,Tr q->Ed q a->Ed q b->q.length<=1)
  (x:Rat) (B:-(K:Rat)<=x) (D:x<=(K:Rat)):Big (1/((2*eB K ((2*(2*n-3)*A)^(2*n-4)) (n-1)+1:Nat):Rat)) x (Zb a)\/Big (1/((2*eB K ((2*(2*n-3)*A)^(2*n-4)) (n-1)+1:Nat):Rat)) x (Zb b):=by
 obtain⟨U,V,c,S,lU,lV,o,w,k⟩:=Zwg Z hb O lb Y na nb hc;rw [hn]at o w;generalize (2*(2*n-3)*A)^(2*n-4)=X at *;obtain⟨u1,u2⟩:=Zoj (n-1) U O o x B D;obtain⟨v1,v2⟩:=Zoj (n-1) V O w x B D;generalize eB K X (n-1)=W at *;have G:(0:Rat)<=(W:Rat):=Gy (bI _);have F:(0:Rat)<((2*W+1:Nat):Rat):=by
   have:(((0:Nat)):Rat)<((2*W+1:Nat):Rat):=by exact_mod_cast mG _
   exact this
 have g:((2*W+1:Nat):Rat)=2*(W:Rat)+1:=by push_cast;rfl
 generalize H:1/((2*W+1:Nat):Rat)=ε;have l:ε*(2*(W:Rat)+1)=1:=by rw [<-H,g];rw [g]at F;grind
 have a0:0<=ε:=by rw [<-H];have:=gD.2 F;rw [jF];grind
 by_cases I:Big ε x (Zb a)
 .exact .inl I
 .by_cases M:Big ε x (Zb b)
  .exact .inr M
  .exfalso;obtain⟨N,P⟩:=Zdp I;obtain⟨Q,R⟩:=Zdp M;obtain⟨q1,q2⟩:=Zb2 u1 u2 N P G;obtain⟨r1,r2⟩:=Zb2 v1 v2 Q R G;have h4:=k x;have j:(c:Rat)<=-1\/1<=(c:Rat):=by
    rcases nM S with h|h
    .left;have:((c:Int):Rat)<=((-1:Int):Rat):=by exact_mod_cast (show c<=-1 by omega)
     rwa [show(((-1:Int)):Rat)=-1 from rfl]at this
    .right;have:1<=c:=O;exact_mod_cast this
   have a3:0<ε:=by
    rcases(show ε=0\/0<ε by grind)with h|h
    .rw [h]at l;grind
    .exact h
   rcases j with j|j<;>grind
theorem two_pow_pos(e:Nat):(0:Rat)<((2^e:Nat):Rat):=by have:0<2^e:=bW O3;exact_mod_cast this
theorem Yno  {F A n e:Nat} (hx:Tr xs) (h0:xs≠[]) (hC:Aj F xs) (hK:0<K) (hA:0<A) (hn:(sqf F xs).length=n) (h2:2<=n) (Y:∀i,(cf (sqf F xs) i).natAbs<=A) (nb:∀i,(cf (Xb (sqf F xs)) i).natAbs<=A) (hs:Zxq K A n e=true)
  {u v:Rat} (h1:-(K:Rat)<=u) (V:u<=v) (h3:v<=(K:Rat)) (hh:v-u<=1/((2^e:Nat):Rat)) :
  vat ((chn F xs).map Zb) u-vat ((chn F xs).map Zb) v=crs (Zb (sqf F xs)) u v:=by
 have G:=hC.1.2.2.1;obtain⟨f1,f2,f3,f4,f5,f6⟩:=Nf F hx h0 G;have g:=Mg f2;have B:=Nt (sqf F xs);have hd:Xb (sqf F xs)≠[]:=λe=>by rw [e]at B;simp at B;omega
 have S:1<=Xl (Xb (sqf F xs)):=by have h1:=Za0 g hd;have h2:=Mu (Xb (sqf F xs));omega
 have a1:(1:Rat)<=(Xl (Xb (sqf F xs)):Rat):=by exact_mod_cast S
 have H:∀i,(cf (Yi (Xb (sqf F xs))) i).natAbs<=A:=λi=>by have h5:=Fi (Xb (sqf F xs)) i;have h6:=nb i;rw [<-h5,cH]at h6;have:(cf (Yi (Xb (sqf F xs))) i).natAbs*1<=(cf (Yi (Xb (sqf F xs))) i).natAbs*(Xl (Xb (sqf F xs))).natAbs:=bH _ O;omega
 have l:∀q,Tr q->Ed q (sqf F xs)->Ed q (Yi (Xb (sqf F xs)))->q.length<=1:=λq hq a b=>Zff hx h0 G hq a (b.sim (Qu g));have R:(Yi (Xb (sqf F xs))).length+1=(sqf F xs).length:=by rw [Zy];omega
 have j:=big_or (e:=e) hK hA f2 (Xh g) hn h2 R Y H l;unfold Zxq at hs;simp only [aQ,Nat.ble_eq]at hs;obtain⟨s1,s2⟩:=hs;generalize (2*(2*n-3)*A)^(2*n-4)=X at *;generalize eB K X (n-1)=W at *;have hD:(0:Rat)<((2*W+1:Nat):Rat):=by
   have:(((0:Nat)):Rat)<((2*W+1:Nat):Rat):=by exact_mod_cast mG _
   exact this
 have hP:=two_pow_pos e;have Z:=Gy s1;have a0:=Gy s2;have c1:((2*(2*W+1)*(2*eL K A n):Nat):Rat)=2*((2*W+1:Nat):Rat)*(2*(eL K A n:Rat)):=by push_cast;rfl
 have c2:((2*(2*W+1)*eM K A n:Nat):Rat)=2*((2*W+1:Nat):Rat)*(eM K A n:Rat):=by push_cast;rfl
 rw [c1]at Z;rw [c2]at a0;have hi:=gD.2 hD;have Q:=gD.2 hP;have o:((2*W+1:Nat):Rat)*((2*W+1:Nat):Rat)⁻¹=1:=O4;have w:((2^e:Nat):Rat)*((2^e:Nat):Rat)⁻¹=1:=O4;rw [jF,oM]at hh;simp only [jF,oM]at j;generalize ((2*W+1:Nat):Rat)=D at *;generalize ((2^e:Nat):Rat)=P at *;have k:(0:Rat)<=(eL K A n:Rat):=Gy (bI _);have N:(0:Rat)<=(eM K A n:Rat):=Gy (bI _);refine Zhx (s:=-(K:Rat)) (t:=(K:Rat)) (κ:=(Xl (Xb (sqf F xs)):Rat)) (ε:=D⁻¹) (L:=(eL K A n:Rat)) (L':=(eL K A n:Rat)) (M:=(eM K A n:Rat)) (h:=P⁻¹) f2 (Xh g) hC.2.2 O4 (λx=>?_) hi j k (Zoi n _ O Y) k (Zoi n _ O H) N (Yeg n _ O Y) Q ?_ ?_ h1 V h3 hh
 .rw [<-Km,<-Zg];exact Ng x _ _ λi=>by rw [Qh,dV,Fi]
 .-- P⁻¹ * (2 L) ≤ D⁻¹ / 2
  have t1:=aN (a:=P⁻¹*D⁻¹) (b:=P-2*D*(2*(eL K A n:Rat))) (by have:=bB Q hi;grind) O4;have I:P⁻¹*D⁻¹*(P-2*D*(2*(eL K A n:Rat)))=D⁻¹*(P*P⁻¹)-2*P⁻¹*(D*D⁻¹)*(2*(eL K A n:Rat)):=O4;rw [I,o,w]at t1;grind
 .have t1:=aN (a:=P⁻¹*D⁻¹) (b:=P-2*D*(eM K A n:Rat)) (by have:=bB Q hi;grind) O4;have I:P⁻¹*D⁻¹*(P-2*D*(eM K A n:Rat))=D⁻¹*(P*P⁻¹)-2*P⁻¹*(D*D⁻¹)*(eM K A n:Rat):=O4;rw [I,o,w]at t1;have t2:=aN (a:=(Xl (Xb (sqf F xs)):Rat)-1) (b:=D⁻¹) O4 O4;grind
theorem Zlv{F:Nat}(R:Tr xs)(I:xs≠[])(P:Aj F xs){s:Rat}(o:s<=t):vat ((chn F xs).map Zb) t<=vat ((chn F xs).map Zb) s:=by
 obtain⟨h,M,B⟩:=Zlu R I P s t;have G:∀f u v,0<=crs f u v:=λf u v=>by unfold crs;split<;>decide
 have w:∀n:Nat,∀y,s<=y->y<=t->y-s<=(n:Rat)*h->vat ((chn F xs).map Zb) y<=vat ((chn F xs).map Zb) s:=λn=>by
  induction n with
  | zero=>
    intro y e g j;have:y=s:=by simp at j;grind
    rw [this];exact fE _
  | succ n H=>
   intro y e g j;have D:((n+1:Nat):Rat)*h=(n:Rat)*h+h:=by push_cast;grind
   rcases(show y-s<=(n:Rat)*h\/(n:Rat)*h<y-s by grind)with k|k
   .exact H y e g k
   .have N:(0:Rat)<=(n:Rat)*h:=aN (by exact_mod_cast bI n) O4;rcases(show s<=y-h\/y-h<s by grind)with l|l
    .have a:=H (y-h) l O4 O4;have b:=B (y-h) y l O4 g O4;have c:=G (Zb (sqf F xs)) (y-h) y;omega
    .have b:=B s y O4 e g O4;have c:=G (Zb (sqf F xs)) s y;omega
 have e:∃n:Nat,t-s<=(n:Rat)*h:=by
  have g:0<h⁻¹:=gD.2 M;refine⟨((t-s)*h⁻¹).ceil.toNat,?_⟩;have j:=@oL ((t-s)*h⁻¹);have D:((((t-s)*h⁻¹).ceil:Int):Rat)<=((((t-s)*h⁻¹).ceil.toNat:Nat):Rat):=by have:((t-s)*h⁻¹).ceil<=((((t-s)*h⁻¹).ceil.toNat:Nat):Int):=lW _;exact_mod_cast this
  have k:=dO (oB j D) (show 0<=h by grind);have N:(t-s)*h⁻¹*h=t-s:=O4;grind
 obtain⟨n,Q⟩:=e;exact w n t o O4 Q
end Go.Sky

