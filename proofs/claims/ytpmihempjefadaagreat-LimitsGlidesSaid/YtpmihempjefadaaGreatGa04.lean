/- Rules, arithmetic and contracts: part 5. No conditions but those that each theorem names. -/
import Derived.Test.YtpmihempjefadaaGreatGa03
import Derived.Scope
set_option linter.all false
namespace Go.Sky
variable{p x y a b xs:List Int}{i:Nat}{s:Int}{ls:List (SL×List Int)}
theorem Zbq (P:Nat->Prop) : ∀n,P n->∃m,P m/\∀k,k<m->¬P k:=by
 intro n
 induction n using Nat.strongRecOn with
 | _ n f=>
  intro h;by_cases e:∃k,k<n/\P k
  .obtain⟨k,d,c⟩:=e;exact f k d c
  .exact⟨n,h,λk d c=>e ⟨k,d,c⟩⟩
theorem Zv1{n:Nat}(h:2<=n):∃p,2<=p/\p∣n/\∀d,2<=d->d∣n->p<=d:=by
 obtain⟨p,⟨f,g⟩,j⟩:=Zbq (λd=>2<=d/\d∣n) n ⟨h,Nat.dvd_refl n⟩;exact⟨p,f,g,λd k e=>by
  rcases bJ d p with c|c
  .exact absurd ⟨k,e⟩ (j d c)
  .exact c⟩
theorem Zn0{n p:Nat}(q:2<=p)(j:p∣n)(k:∀d,2<=d->d∣n->p<=d)(u:0<n){x y:Int}(h:(p:Int)∣x*y):(p:Int)∣x\/(p:Int)∣y:=by
 by_cases g:(p:Int)∣x
 .exact .inl g
 .right;have m:Nat.gcd p x.natAbs=1:=by
   have f:=kU p x.natAbs;have o:0<Nat.gcd p x.natAbs:=Nat.gcd_pos_of_pos_left _ O;rcases bJ (Nat.gcd p x.natAbs) 2 with c|c
   .omega
   .have r:=k _ c (Nat.dvd_trans f j);have t:=kQ O f;exfalso;refine g (eZ.1 ?_);rw [cM];have l:Nat.gcd p x.natAbs=p:=O;rw [<-l];exact mY _ _
  have e:=eZ.2 h;rw [cM,cC]at e;refine eZ.1 ?_;rw [cM];exact(show Nat.Coprime p x.natAbs from m).dvd_of_dvd_mul_left e
theorem gauss{g:List Int}(hg:Yj g=1):∀(n:Nat) (k:Int) (s:List Int),k.natAbs=n->k≠0->(∀t,k*cf a t=(ps s*ps g).c t)->∃q:List Int,∀t,cf a t=(ps q*ps g).c t:=by
 intro n
 induction n using Nat.strongRecOn with
 | _ n ih=>
  intro k s o S h;rcases bJ n 2 with P|P
  .have G:k*k=1:=by have:k=1\/k=-1:=O;rcases this with e|e<;>subst e<;>rfl
   refine⟨Yc s k,λt=>?_⟩;have e:(ps (Yc s k)*ps g).c t=k*(ps s*ps g).c t:=by rw [PS.mul_c,PS.mul_c,<-Oi];exact Yf λi _=>by rw [Pj,Pj,Pj,Xf];grind
   rw [e,<-h,<-fK,G,eI]
  .obtain⟨p,V,W,pm⟩:=Zv1 P;have I:∀{x y:Int},(p:Int)∣x*y->(p:Int)∣x\/(p:Int)∣y:=Zn0 V W pm O;have r:(p:Int)∣k:=eZ.1 (by rw [cM,o];exact W);have w:∃j,¬(p:Int)∣cf g j:=bE λu=>by have:(p:Int)∣Yj g:=Hh λi=>bE λhy=>u ⟨i,hy⟩;rw [hg]at this;have:=mL O3 this;omega
   obtain⟨j0,D⟩:=w;obtain⟨j,hj,F⟩:=Zbq (λj=>¬(p:Int)∣cf g j) j0 D;have hs:∀i,(p:Int)∣cf s i:=λi0=>bE λz=>by
    obtain⟨i,hi,B⟩:=Zbq (λi=>¬(p:Int)∣cf s i) i0 z;have Q:=h (i+j);rw [PS.mul_c]at Q;have N:∀m,m<=i+j+1->(p:Int)∣Zp (λk=>if k=i then 0 else(ps s).c k*(ps g).c (i+j-k)) m:=λm=>by
     induction m with
     | zero=>intro _;exact iZ _
     | succ m M=>
      intro hm;rw [Ya];refine Int.dvd_add (M O) ?_;split
      .exact iZ _
      .rename_i a0;rw [Pj,Pj];rcases bJ m i with v|v
       .exact fX (bE λu=>B m v u) (gU _ _)
       .exact fX (bE λu=>F (i+j-m) O u) (Int.dvd_mul_left _ _)
    have Y:Zp (λk=>(ps s).c k*(ps g).c (i+j-k)) (i+j+1)=Zp (λk=>if k=i then 0 else(ps s).c k*(ps g).c (i+j-k)) (i+j+1)+cf s i*cf g j:=by
     have Z:Zp (λk=>(ps s).c k*(ps g).c (i+j-k)) (i+j+1)=Zp (λk=>(if k=i then 0 else(ps s).c k*(ps g).c (i+j-k))+(if k=i then(ps s).c k*(ps g).c (i+j-k)else 0)) (i+j+1):=
      Yf λk _=>by split<;>omega
     rw [Z,Hc,Fm i (f:=λk=>if k=i then(ps s).c k*(ps g).c (i+j-k)else 0) O (λq _ hq=>aE hq),aG rfl,Pj,Pj,show i+j-i=j by omega]
    rw [Y]at Q;have v:(p:Int)∣cf s i*cf g j:=by have l:cf s i*cf g j=k*cf a (i+j)-Zp (λk=>if k=i then 0 else(ps s).c k*(ps g).c (i+j-k)) (i+j+1):=O;rw [l];exact Int.dvd_sub (fX r (gU _ _)) (N _ (aH _))
    rcases I v with l|l
    .exact hi l
    .exact hj l
   obtain⟨d,c⟩:=r;have H:(p:Int)≠0:=O;refine ih d.natAbs ?_ d (s.map (· / (p:Int))) rfl ?_ ?_
   .rw [<-o,c,cC,cM];have:0<d.natAbs:=by
     rcases aU d.natAbs with R|R
     .rw [show d=0 by omega]at c;simp at c;exact absurd c S
     .exact R
    have:=aI d.natAbs V;omega
   .intro e;rw [e]at c;simp at c;exact S c
   .intro t;refine iK H ?_;rw [<-fK,<-c,h,PS.mul_c,PS.mul_c,<-Oi];refine Yf λi _=>?_;rw [Pj,Pj,Pj,Zbw O7,<-fK,lW (hs i)]
def ev1:List Int->Int->Int
 | [],_=>0
 | c::r,t=>c+t*ev1 r t
def sdv:List Int->Int->List Int
 | [],_=>[]
 | [_],_=>[]
 | _::c::r,t=>ev1 (c::r) t::sdv (c::r) t
theorem Zg8:∀(u:List Int) (t:Int),(sdv u t).length=u.length-1
 | [],_=>rfl
 | [_],_=>rfl
 | _::c::r,t=>by unfold sdv;rw [dG,Zg8 (c::r) t];simp
theorem Zth:∀(u:List Int) (t x:Int),ev1 u x=ev1 u t+(x-t)*ev1 (sdv u t) x
 | [],t,x=>by simp [ev1,sdv]
 | [c],t,x=>by simp [ev1,sdv]
 | a::c::r,t,x=>by have d:=Zth (c::r) t x;show a+x*ev1 (c::r) x=a+t*ev1 (c::r) t+(x-t)*(ev1 (c::r) t+x*ev1 (sdv (c::r) t) x);rw [d];generalize ev1 (c::r) t=A;generalize ev1 (sdv (c::r) t) x=B;grind
theorem Hz(a:Int)(u:List Int)(i:Nat):cf (a::u) i=if i=0 then a else cf u (i-1):=by
 cases i with
 | zero=>rfl
 | succ i=>simp [cf]
def Dc(i:Nat):cf [] i=0:=Zv (aZ _)
theorem Ybk:∀(u:List Int) (t:Int) (i:Nat),cf u (i+1)=cf (sdv u t) i-t*cf (sdv u t) (i+1)
 | [],t,i=>by unfold sdv;simp [Dc]
 | [c],t,i=>by unfold sdv;rw [Hz,aE O];simp [Dc]
 | a::c::r,t,i=>by
  unfold sdv;rw [Hz,aE O,fL];cases i with
  | zero=>
   rw [Hz,aG rfl,Hz,aG rfl,Hz,aE O];show c=ev1 (c::r) t-t*cf (sdv (c::r) t) 0
   match r with
   | []=>simp [ev1,sdv,cf]
   | d::r'=>unfold sdv;rw [Hz,aG rfl];show c=(c+t*ev1 (d::r') t)-_;omega
  | succ i=>
   rw [Hz _ (sdv _ _) (i+1),aE O,Hz _ (sdv _ _),aE O,fL,fL];exact Ybk (c::r) t i
theorem Yfh:∀(u:List Int) (t:Int),cf u 0=ev1 u t-t*cf (sdv u t) 0
 | [],t=>by simp [ev1,sdv,cf]
 | [c],t=>by simp [ev1,sdv,cf]
 | a::c::r,t=>by unfold sdv;rw [Hz,aG rfl,Hz,aG rfl];show a=(a+t*ev1 (c::r) t)-t*ev1 (c::r) t;omega
theorem Zm5:∀(n:Nat) (u:List Int) (R:List Int),u.length=n->(∃i,cf u i≠0)->R.Nodup->(∀t∈R,ev1 u t=0)->R.length<n
 | 0,u,R,e,c,_,_=>by obtain⟨i,hi⟩:=c;rw [aF e,Dc]at hi;exact absurd rfl hi
 | n+1,u,[],e,c,_,_=>O7
 | n+1,u,t::R,e,c,hd,hR=>by
  have g:=hR t (bM ..);have m:=Zg8 u t;have k:∃i,cf (sdv u t) i≠0:=bE λd=>by
   have f:∀i,cf (sdv u t) i=0:=λi=>bE λl=>d ⟨i,l⟩;obtain⟨i,hi⟩:=c;cases i with
   | zero=>rw [Yfh u t,g,f]at hi;simp at hi
   | succ i=>rw [Ybk u t,f,f]at hi;simp at hi
  have:=Zm5 n (sdv u t) R O k (List.nodup_cons.1 hd).2 λx d=>by
   have h:=hR x (aT _ d);rw [Zth u t x,g,jY]at h;rcases eQ.1 h with j|j
   .exfalso;have:x=t:=O;subst this;exact(List.nodup_cons.1 hd).1 d
   .exact j
  simp;omega
def kk:Nat->Nat
 | 0=>0
 | d+1=>30*kk d+1
def pts:List Int:=[0,1,2,3,4,5,6,7,8,9,10,11,12,13,14]
def Psim(a b:List Int):Prop:=∃m n:Int,0<m/\0<n/\∀i,m*cf a i=n*cf b i
def Psim.refl(a:List Int):Psim a a:=⟨1,1,O3,O3,λ_=>rfl⟩
def Psim.symm : Psim a b->Psim b a:=λ⟨m,n,c,d,h⟩=>⟨n,m,d,c,λi=>(h i).symm⟩
theorem Psim.trans{c:List Int} : Psim a b->Psim b c->Psim a c:=λ⟨m,n,d,e,h⟩ ⟨u,v,f,g,k⟩=>
 ⟨m*u,n*v,fW d f,fW e g,λi=>by have j:=h i;have l:=k i;grind⟩
def Psim.sim : Psim a b->Sim a b:=λ⟨m,n,c,d,h⟩=>⟨m,n,O,O,h⟩
theorem Zbh(h:Tr p):Psim (Zs p) p:=by
 by_cases c:p=[]
 .subst c;exact Psim.refl _
 .exact⟨Yj p,1,by have:=Pw p;have:=Fr h c;omega,O3,λi=>by rw [eI,dJ];exact Kd p i⟩
theorem Zgn(f:Tr a)(g:Tr b)(h:Psim a b):Zs a=Zs b:=by
 by_cases c:a=[]
 .rw [h.sim.nil g c,c]
 .have j:b≠[]:=λe=>c (h.sim.symm.nil f e);obtain⟨m,n,w,B,e⟩:=(Zbh f).trans (h.trans (Zbh g).symm);have q:=Yi f;have v:=Yi g;have hs:Sim (Zs a) (Zs b):=⟨m,n,O,O,e⟩;have d:Zs a≠[]:=λe=>c (aF (by rw [<-Zk,e];rfl));rcases Zmu q v d (Lj f c) (Lj g j) hs with k|k
  .exact k
  .exfalso;have o:=q.mem d;have l:=e ((Zs a).length-1);have r:=k ((Zs a).length-1);rw [r]at l o;generalize cf (Zs b) ((Zs a).length-1)=z at l o;rw [jM]at l;have t:(m+n)*z=0:=by rw [kM];omega
   rcases eQ.1 t with u|u<;>omega
def Cm(y:List Int):Int:=if cf y (y.length-1)<0 then-cf y (y.length-1)else cf y (y.length-1)
def rb(x y:List Int):Int:=if cf y (y.length-1)<0 then-cf x (x.length-1)else cf x (x.length-1)
def Ac(x y:List Int):List Int:=Gw (Yc x (Cm y)) (shm y (rb x y) (x.length-y.length) y.length)
def Dl:Nat->List Int->List Int->List Int
 | 0,x,_=>x
 | f+1,x,y=>if x.length<y.length then x else Dl f (Ac x y) y
theorem Zkv(e:Tr x)(f:0<y.length)(d:y.length<=x.length):(Ac x y).length<x.length:=by
 have h:=Cg (p:=Ac x y) (n:=x.length-1) λi hi=>by
  unfold Ac;rw [Fd,Xf,Ybi];by_cases c:i=x.length-1
  .subst c;rw [aG O,show x.length-1-(x.length-y.length)=y.length-1 by omega];unfold Cm rb;split
   .grind
   .grind
  .rw [Zv (p:=x) O,aE O];omega
 rw [show tzl (Ac x y)=Ac x y from Bu Zrm]at h;omega
theorem Zx0(x:List Int)(t:Nat):Cm y*cf x t=(ps (mono (x.length-y.length) (rb x y))*ps y).c t+cf (Ac x y) t:=by
 unfold Ac;rw [Zgy,Fd,Xf,Ybi,Pj];by_cases c:x.length-y.length<=t
 .rw [aG c];by_cases d:t<x.length-y.length+y.length
  .rw [aG ⟨c,d⟩,dJ (cf x t)];omega
  .rw [aE O,Zv (p:=y) O,dJ (cf x t)];omega
 .rw [aE c,aE O,dJ (cf x t)];omega
theorem Zco(d:Tr y)(c:y≠[]):0<Cm y:=by have:=d.mem c;unfold Cm;split<;>omega
theorem Zcl{y:List Int}(m:Tr y)(d:y≠[]):∀(f:Nat) (x:List Int),Tr x->x.length<y.length+f->Tr (Dl f x y)/\(Dl f x y).length<y.length/\∃(k:Nat) (s:List Int),∀t,Cm y^k*cf x t=(ps s*ps y).c t+cf (Dl f x y) t
 | 0,x,c,e=>⟨c,e,0,[],λt=>by rw [Ns (λt=>Zv (aZ _)),dE];unfold Dl;omega⟩
 | f+1,x,c,e=>by
  unfold Dl;by_cases h:x.length<y.length
  .rw [aG h];exact⟨c,h,0,[],λt=>by rw [Ns (λt=>Zv (aZ _)),dE];omega⟩
  .rw [aE h];have n:=Zkv c (aD.2 d) O;obtain⟨g,j,k,s,hs⟩:=Zcl m d f (Ac x y) Zrm O;refine⟨g,j,k+1,Gw (Yc s 1) (Yc (mono (x.length-y.length) (rb x y)) (-(Cm y^k))),λt=>?_⟩;have o:=hs t;have l:=Zx0 x (y:=y) t;rw [Zgx,eR];generalize Cm y^k=K at *;generalize Cm y=a at *;generalize (ps (mono (x.length-y.length) (rb x y))*ps y).c t=M at *;generalize (ps s*ps y).c t=S at *;generalize cf (Ac x y) t=X at *;generalize cf (Dl f (Ac x y) y) t=Z at *;have:K*a*cf x t=K*(a*cf x t):=O4;rw [this,l];grind
theorem Zne(l:Int)(h:l≠0):∀n:Nat,(l<0/\n%2=1->l^n<0)/\(¬(l<0/\n%2=1)->0<l^n)
 | 0=>⟨λh=>O,λ_=>by rw [dE];decide⟩
 | n+1=>by
  have e:=Zne l h n;rw [eR];by_cases d:l<0
  .by_cases f:n%2=1
   .have c:=e.1 ⟨d,f⟩;exact⟨λh=>O,λ_=>Int.mul_pos_of_neg_of_neg c d⟩
   .have c:=e.2 O;exact⟨λ_=>Int.mul_neg_of_pos_of_neg c d,λh=>O⟩
  .have c:=e.2 O;exact⟨λh=>O,λ_=>fW c O⟩
def Zbj(p:List Int):List Int:=Yc p (-1)
theorem Hy(p:List Int)(i:Nat):cf (Zbj p) i=- cf p i:=by unfold Zbj;rw [Xf];omega
theorem Zp4(h:Tr p):Zs (Zbj p)=Zbj (Zs p):=by
 have e:Yj (Zbj p)=Yj p:=by
  have c:Yj (Zbj p)∣Yj p:=Hh λi=>by have h:=Nk (Zbj p) i;rw [Hy]at h;exact lY.1 h
  have d:Yj p∣Yj (Zbj p):=Hh λi=>by rw [Hy];exact lY.2 (Nk p i)
  exact Int.dvd_antisymm (Pw _) (Pw _) c d
 refine(Yi Qx).ext Qx λi=>?_;show cf (Zs (Zbj p)) i=cf (Zbj (Zs p)) i;rw [Hy,Dz,Hy,e,Dz];exact Int.neg_ediv_of_dvd (Nk p i)
theorem Zdw (f:Nat)(u:Tr x)(n:Tr y)(g:y≠[])(D:y.length<=x.length)(B:x.length<y.length+f):Zs (Zbj (Dl f x y))=Pq x y:=by
 obtain⟨P,N,k,s,hs⟩:=Zcl n g f x u B;have G:=aD.2 g;obtain⟨H,h⟩:=Zd0 (p:=x) G D _ (aH _);have F:∀t,cf (Xv x y (x.length-y.length+1)) t=cf (Xj x y) t:=λt=>by unfold Xj;rw [aE O,Nj]
 have lp:=Qk x g;have j:=Mu y u;have c:=n.mem g;have o:0<Cm y^k:=nG (Zco n g);have d:=Zne (cf y (y.length-1)) c (x.length-y.length+1);generalize v:cf y (y.length-1)^(x.length-y.length+1)=L at h d;have w:L≠0:=by rw [<-v];exact Nt c _
 generalize Cm y^k=K at hs o;have l:∀t,(ps (Gw (Yc H K) (Yc s L))*ps y).c t=cf (Gw (Yc (Dl f x y) L) (Yc (Xj x y) K)) t:=λt=>by rw [Zgx,Fd,Xf,Xf,<-F t];have q:=hs t;have I:=h t;generalize cf (Xv x y (x.length-y.length+1)) t=A at *;grind
 have z:=Ydx n g l λt M=>by rw [Fd,Xf,Xf,Zv (p:=Dl f x y) O,Zv (p:=Xj x y) O];omega
 have e:∀t,L*cf (Dl f x y) t=K*cf (Xj x y) t:=λt=>by have q:=l t;rw [Ns z,Fd,Xf,Xf]at q;grind
 unfold Pq;by_cases m:cf y (y.length-1)<0/\(x.length-y.length+1)%2=1
 .rw [aG m];have r:=d.1 m;exact Zgn Qx j ⟨-L,K,O,o,λt=>by rw [Hy,<-e];grind⟩
 .rw [aE m];have r:=d.2 m;rw [show Yc (Zs (Xj x y)) (-1)=Zbj (Zs (Xj x y))from rfl,<-Zp4 j];exact Zgn Qx Qx ⟨L,K,r,o,λt=>by rw [Hy,Hy,jM,e,jM]⟩
theorem Bv(c:Tr x):Tr (Pq x y):=by
 unfold Pq;split
 .exact Yi (Mu _ c)
 .exact Qx
theorem Ct (y:List Int)(c:Tr x):(Pq x y).length=(Xj x y).length:=by
 unfold Pq;have h:Tr (Zs (Xj x y)):=Yi (Mu _ c);split
 .exact Zk _
 .rw [<-Zk (Xj x y)];exact((Zpv (Zs (Xj x y)) (by decide:(-1:Int)≠0)).len h Qx).symm
theorem Zpp{n:Nat}(h:Sz n p):Sz n (Yk p):=λi=>by
 unfold Yk;rw [Fw];split
 .rw [eF];exact Ge h i
 .exact Ge h i
theorem Zgu(h:Tr p)(c:p≠[]):Yk p≠[]:=λe=>c (aF (by rw [<-Qj h,e];rfl))
theorem Fs{g:List Int}(h:Tr g)(c:g≠[]):0<cf (Lo g) ((Lo g).length-1):=by have d:=h.mem c;rw [Cu h,Fw];have:g.length≠0:=λe=>c (aF e);split<;>omega
theorem Zal(h:Tr p)(c:p≠[]):Yj (Yk p)=1:=by unfold Yk;rw [Zew];exact Lj h c
theorem Zp7(h:Tr p)(c:Yj p=1)(d:0<cf p (p.length-1)):Yk p=p:=by unfold Yk;rw [Zcq c];unfold Lo;rw [aE O]
theorem Pn (F:Nat)(v:Tr xs)(w:xs≠[])(D:eok F (gA (Yk xs) (Zy (Yk xs))) (gB (Yk xs) (Zy (Yk xs)))) :
  pdv (Yk xs) (Od F (Yk xs) (Zy (Yk xs)))/\Tr (sqf F xs)/\sqf F xs≠[]/\Yk xs=Yy (sqf F xs) (Od F (Yk xs) (Zy (Yk xs)))/\Od F (Yk xs) (Zy (Yk xs))≠[]/\Yk (sqf F xs)=sqf F xs:=by
 have hs:Tr (Yk xs):=Ob (Yi v);have j:Tr (Zy (Yk xs)):=Pm hs;have n:=Zgu v w;have l:=(Zak hs j D).1;have o:=Zb9 F hs j;have d:Od F (Yk xs) (Zy (Yk xs))≠[]:=λe=>n ((e▸l).zero hs);have M:=Zgr hs j d;obtain⟨k,s,N,h⟩:=l;obtain⟨q,P⟩:=gauss M _ k s rfl N h;have c:Yk xs=Yy (tzl q) (Od F (Yk xs) (Zy (Yk xs))):=hs.ext Xk λi=>by rw [Ld,P,Zyd]
 obtain⟨I,R⟩:=Zsk (Qd q) o d;have g:sqf F xs=tzl q:=by unfold sqf;have r:=R;rw [<-c]at r;exact r
 rw [<-c]at I;have f:tzl q≠[]:=λe=>n (by rw [c,e,He]);refine⟨I,by rw [g];exact Qd q,by rw [g];exact f,by rw [g];exact c,d,?_⟩;rw [g];refine Zp7 (Qd q) ?_ ?_
 .have z:=Zal v w;have t:Yj (tzl q)∣Yj (Yk xs):=Hh λi=>by
   rw [c,Ld,PS.mul_c];have G:∀m,Yj (tzl q)∣Zp (λk=>(ps (tzl q)).c k*(ps (Od F (Yk xs) (Zy (Yk xs)))).c (i-k)) m:=λm=>by
    induction m with
    | zero=>exact iZ _
    | succ m Q=>rw [Ya];exact Int.dvd_add Q (fX (Nk (tzl q) m) (gU _ _))
   exact G _
  rw [z]at t;have B:=Pw (tzl q);have H:=mL O3 t;have u:Yj (tzl q)≠0:=Fr (Qd q) f;omega
 .have S:=aD.2 f;have V:=aD.2 d;have z:0<cf (Yk xs) ((Yk xs).length-1):=Fs (Yi v) (λe=>w (aF (by rw [<-Zk,e];rfl)));have t:0<cf (Od F (Yk xs) (Zy (Yk xs))) ((Od F (Yk xs) (Zy (Yk xs))).length-1):=Fs (Zog F (Zf2 hs j) (Zf1 hs j)) (λe=>d (by unfold Od;rw [e];rfl));have B:=Oe (Qd q) o f d;rw [<-c]at B;have H:cf (Yk xs) ((Yk xs).length-1)=cf (tzl q) ((tzl q).length-1)*cf (Od F (Yk xs) (Zy (Yk xs))) ((Od F (Yk xs) (Zy (Yk xs))).length-1):=by rw [B,c,Ld,<-c,show(tzl q).length+(Od F (Yk xs) (Zy (Yk xs))).length-1-1=((tzl q).length-1)+((Od F (Yk xs) (Zy (Yk xs))).length-1) by omega];exact Fv _ (λi hi=>Zv O) (λi hi=>Zv O)
  rw [H]at z;rcases iH 0 (cf (tzl q) ((tzl q).length-1))with u|u
  .exact u
  .exfalso;have:=fO u (iV t);omega
def Ph(p:List Int):(Zy p).length=p.length-1:=Ye _ _
theorem Zqy{n:Nat}(c:Sz n p)(g:p.length<=25)(i:Nat):bl (cf p (i+1)*((i:Int)+1)).natAbs<=n+5:=by
 rcases bJ (i+1) p.length with h|h
 .have d:=Xb (cf p (i+1)) ((i:Int)+1);have e:=c (i+1);have f:bl ((i:Int)+1).natAbs<=5:=(Xo 5 _).2 O;omega
 .rw [Zv h];simp [Ms]
theorem Mw(p:List Int)(i:Nat):cf (Zy p) i=cf p (i+1)*((i:Int)+1):=by
 unfold Zy;rw [Lt];split
 .rfl
 .rw [Zv O,dD]
theorem Fl{n:Nat}(d:Sz n p)(c:p.length<=25):Sz (n+5) (Zy p):=λi=>by rw [Mw];exact Zqy d c i
theorem Zb5(h:Vp p)(c:∀i,i<p.length->bl (cf p (i+1)*((i:Int)+1)).natAbs<=65536):Vp (Zy p):=by
 refine⟨λi=>?_,Pm h.tr,by rw [Ph];have:=h.len;omega⟩;rw [Mw];by_cases hi:i<p.length
 .exact c i hi
 .rw [Zv O];simp [Ms]
def sf_t(h:xs.length=0):Value.bool (decide (Dj xs))= .bool true:=aP Value.bool (aO (.inl h))
theorem sf_i{n:Int}(h:xs.length≠0)(d:n=(((xs.length+2)*(xs.length+2)*(Qs xs+16):Nat):Int)):Value.bool (decide (Dj xs))= .bool (decide (n<=65536)):=aP Value.bool (cE.2 (by
 subst d;show(xs.length=0\/(xs.length+2)*(xs.length+2)*(Qs xs+16)<=65536)↔_;constructor
 .intro c;rcases c with c|c
  .exact absurd c h
  .exact kZ.2 c
 .intro c;exact .inr (kZ.1 c)))
theorem Zu2(h:(Xj x y).length=0):Pq x y=[]:=by have c:Xj x y=[]:=aF h;unfold Pq;rw [c];split<;>rfl
theorem Yc1(e:y.length<=x.length)(c:(cf y (y.length-1)).sign<0)(d:((x.length:Int)-(y.length:Int)+1)%2=1):Pq x y=Zs (Xj x y):=by unfold Pq;rw [aG ⟨(Pv _).1 c,O⟩]
theorem Zrr(c:¬(cf y (y.length-1)).sign<0):Pq x y=Yc (Zs (Xj x y)) (-1):=by unfold Pq;rw [aE (λh=>c ((Pv _).2 h.1))]
theorem Zrq(d:y.length<=x.length)(c:¬((x.length:Int)-(y.length:Int)+1)%2=1):Pq x y=Yc (Zs (Xj x y)) (-1):=by unfold Pq;rw [aE (λh=>c O)]
theorem Zpl{F:Nat}(k:Vp xs)(l:xs≠[])(h:Ycz F xs):Vp (sqf F xs):=by
 obtain⟨_,_,_,d,c⟩:=h;have j:=Zwt k;unfold sqf Lc;split
 .exact⟨Sz.nil _,Tr.nil,O7⟩
 .rename_i e;rcases c with c|c
  .exact absurd c e
  .have f:=(Zax d).2 c.1;refine⟨?_,Qd _,?_⟩
   .rw [<-Zdc];exact(Zro f c.2.1).tzl
   .have g:=Ic (Zec (Yk xs) (Od F (Yk xs) (Zy (Yk xs))) ((Yk xs).length-(Od F (Yk xs) (Zy (Yk xs))).length+1));rw [Zdc,An]at g;have:=j.len;have:=(Zax d).1;omega
theorem Zg6{F:Nat}(g:Vp xs)(h:Ycz F xs):(sqf F xs).length<=xs.length:=by
 obtain⟨_,_,_,d,c⟩:=h;have j:=Qj g.tr;unfold sqf Lc;split
 .exact aZ _
 .rename_i e;rcases c with c|c
  .exact absurd c e
  .have f:=Ic (Zec (Yk xs) (Od F (Yk xs) (Zy (Yk xs))) ((Yk xs).length-(Od F (Yk xs) (Zy (Yk xs))).length+1));rw [Zdc,An]at f;have:=(Zax d).1;have:=c.1;omega
theorem Zuc{L:List Int}{n l:Int}(hi:i<L.length)(h:(n,l)=(L.take i).foldl Oh (0,0))(hs:L.getD i 0=s)(c:s=0):(n,l)=(L.take (i+1)).foldl Oh (0,0):=by rw [Ql 0 L i hi,Zbp,<-h,hs];unfold Oh;rw [aG c]
theorem Zub{L:List Int}{n l:Int}(hi:i<L.length)(h:(n,l)=(L.take i).foldl Oh (0,0))(hs:L.getD i 0=s)(c:s≠0)(d:s=-l):(n+1,s)=(L.take (i+1)).foldl Oh (0,0):=by rw [Ql 0 L i hi,Zbp,<-h,hs];unfold Oh;rw [aE c];dsimp only;rw [aG d]
theorem Zua{L:List Int}{n l:Int}(hi:i<L.length)(h:(n,l)=(L.take i).foldl Oh (0,0))(hs:L.getD i 0=s)(c:s≠0)(d:¬s=-l):(n,s)=(L.take (i+1)).foldl Oh (0,0):=by rw [Ql 0 L i hi,Zbp,<-h,hs];unfold Oh;rw [aE c];dsimp only;rw [aE d]
theorem Yfg{L:List Int}{n l:Int}(hi:L.length<=i)(h:(n,l)=(L.take i).foldl Oh (0,0)):n=chg L:=by rw [bW hi]at h;unfold chg;rw [<-h]
theorem Zxq{z:Int}:-1<=z.sign/\z.sign<=1:=by
 rcases kL z 0 with h|h|h
 .rw [eE h];omega
 .subst h;simp
 .rw [eW h];omega
theorem Zzj{α:Type}{d:α}{f:α->Int}{ls:List α}(h:i<ls.length):(ls.map f).getD i 0=f (ls.getD i d):=by simp [aX,h]
def sgx(ls:List (SL×List Int))(f:List Int->Int):List Int:=ls.map λz=>f z.2
def Zmw(ls:List (SL×List Int))(f:List Int->Int)(h:i<ls.length):(sgx ls f).getD i 0=f (ls.getD i ((none,0,0),[])).2:=Zzj h
def Zg7(ls:List (SL×List Int))(f:List Int->Int):(sgx ls f).length=ls.length:=bX ..
def fr(p:List Int):Int:=(cf p (p.length-1)).sign
def fl(p:List Int):Int:=if p.length%2=0 then-(cf p (p.length-1)).sign else(cf p (p.length-1)).sign
def fat(x y:Int)(p:List Int):Int:=(pev p x y).sign
def fat_r(x y:Int)(p:List Int):-1<=fat x y p/\fat x y p<=1:=Zxq
theorem Zie:∀(f:Nat) {x y:List Int},Vp x->Vp y->cok f x y->∀p∈On f x y,Vp p
 | 0,x,y,d,_,_,p,c=>by rw [aK.1 c];exact d
 | f+1,x,y,d,e,h,p,c=>by
  unfold On at c;split at c
  .rw [aK.1 c];exact d
  .rcases h with h|h
   .contradiction
   .rcases bO.1 c with rfl|c
    .exact d
    .exact Zie f e (Zmg d h.1) h.2.2 p c
theorem vp_chn{F:Nat}(e:Vp xs)(f:xs≠[])(j:Eg F xs):∀p∈Bo F xs,Vp p:=by obtain⟨c,g,h⟩:=j;have d:=Zpl e f c;exact Zie F d (Mt (Zb5 d (λi hi=>g i (by have:=Zg6 e c;omega)))) h
def cnt(F:Nat)(xs:List Int)(x y:Int):Int:=chg ((Bo F xs).map (fat x y))
def sright(F:Nat)(xs:List Int):Int:=chg ((Bo F xs).map fr)
def sleft(F:Nat)(xs:List Int):Int:=chg ((Bo F xs).map fl)
theorem Zrv{C:List (List Int)}(h:ls.map Prod.snd=C)(f:List Int->Int):sgx ls f=C.map f:=by rw [<-h,mW];rfl
def Ou{C:List (List Int)}{p:List Int->Prop}(h:ls.map Prod.snd=C)(c:∀q∈C,p q):∀z∈ls,p z.2:=λz d=>c _ (h▸List.mem_map_of_mem d)
theorem Zee(L:List Int):0<=chg L/\chg L<=L.length:=by
 unfold chg;suffices h:∀(l:List Int) (s:Int×Int),s.1<=(l.foldl Oh s).1/\(l.foldl Oh s).1<=s.1+l.length by have:=h L (0,0);simpa using this
 intro l
 induction l with
 | nil=>intro s;simp
 | cons x l c=>
  intro s;have d:=c (Oh s x);have e:=chg1_n s x;simp only [fQ,dG];omega
theorem Zba:∀(f:Nat) (x y:List Int),(On f x y).length<=f+1
 | 0,x,y=>aH _
 | f+1,x,y=>by
  unfold On;split
  .simp
  .have:=Zba f y (Pq x y);simp;omega
def sm(xs:List Int)(i:Nat):Nat:=(xs.take i).foldl (λm c=>max m c.natAbs) 0
def Cq{x y:Int}(h:¬Md x y):Ie x y=x/Nc x y/\Kt x y=y/Nc x y/\Zx8 x y=0:=⟨aE h,aE h,aE h⟩
theorem nr_bl{x y:Int}(h:¬Md x y):bl (Ie x y).natAbs<=65536/\bl (Kt x y).natAbs<=65536:=by obtain⟨c,d,_⟩:=Cq h;rw [c,d];unfold Md at h;omega
theorem Zp8{x y:Int}(h:¬Md x y)(c:0<y):0<Kt x y:=by rw [(Cq h).2.1];exact Zvz c
abbrev R2:=Int×Int
def Qe(a b:R2):R2:=(Ie (Ie (a.1*b.2+b.1*a.2) (a.2*b.2)*1) (Kt (a.1*b.2+b.1*a.2) (a.2*b.2)*2),Kt (Ie (a.1*b.2+b.1*a.2) (a.2*b.2)*1) (Kt (a.1*b.2+b.1*a.2) (a.2*b.2)*2))
def Za9(a b:R2):Prop:=¬Md (a.1*b.2+b.1*a.2) (a.2*b.2)/\¬Md (Ie (a.1*b.2+b.1*a.2) (a.2*b.2)*1) (Kt (a.1*b.2+b.1*a.2) (a.2*b.2)*2)
instance (a b:R2):Decidable (Za9 a b):=by unfold Za9;infer_instance
def Zvs{a b:R2}(h:Za9 a b):Zx8 (Ie (a.1*b.2+b.1*a.2) (a.2*b.2)*1) (Kt (a.1*b.2+b.1*a.2) (a.2*b.2)*2)=0:=(Cq h.2).2.2
def isp(c:R2->Int)(e:Int):Nat->R2->R2->Int->Int->Nat->List (R2×R2)
 | 0,_,_,_,_,_=>[]
 | f+1,a,b,fr,g,d=>if fr=g then []else if fr-g=1/\e<=(d:Int)then [(a,b)]else isp c e f a (Qe a b) fr (c (Qe a b)) (d+1) ++ isp c e f (Qe a b) b (c (Qe a b)) g (d+1)
def Zs9(c:R2->Int)(g:R2->Prop)(e:Int):Nat->R2->R2->Int->Int->Nat->Prop
 | 0,_,_,_,_,_=>False
 | f+1,a,b,fr,h,d=>fr=h\/(fr-h=1/\e<=(d:Int))\/(d<1000/\Za9 a b/\g (Qe a b)/\Zs9 c g e f a (Qe a b) fr (c (Qe a b)) (d+1)/\Zs9 c g e f (Qe a b) b (c (Qe a b)) h (d+1))
instance ispDec (c:R2->Int) (e:R2->Prop) [DecidablePred e] (g:Int):∀f a b fr h d,Decidable (Zs9 c e g f a b fr h d)
 | 0,_,_,_,_,_=>inferInstanceAs (Decidable False)
 | f+1,a,b,fr,h,d=>@instDecidableOr _ _ _ (@instDecidableOr _ _ _ (@instDecidableAnd _ _ _ (@instDecidableAnd _ _ _ (@instDecidableAnd _ _ _ (@instDecidableAnd _ _ (ispDec c e g f a (Qe a b) fr (c (Qe a b)) (d+1)) (ispDec c e g f (Qe a b) b (c (Qe a b)) h (d+1)))))))
def okQ(z:R2):Prop:=bl z.1.natAbs<=65536/\bl z.2.natAbs<=65536/\0<z.2
def evok(ls:List (SL×List Int))(m:R2):Prop:=∀z∈ls,¬Nu z.2 m.1 m.2
def cvx(ls:List (SL×List Int))(m:R2):Int:=chg (sgx ls (fat m.1 m.2))
def cvc(F:Nat)(xs:List Int)(m:R2):Int:=cnt F xs m.1 m.2
def evc(F:Nat)(xs:List Int)(m:R2):Prop:=∀p∈Bo F xs,¬Nu p m.1 m.2
def slow(a:R2):R2:=(Ie a.1 a.2,Kt a.1 a.2)
def sisol(F:Nat)(xs:List Int)(f:Nat)(a b:R2)(c:Int):List (R2×R2):=isp (cvc F xs) c f (slow a) (slow b) (cvc F xs a) (cvc F xs b) 0
def isOK(F:Nat)(xs:List Int)(f:Nat)(a b:R2)(c:Int):Prop:=Eg F xs/\evc F xs a/\evc F xs b/\¬Md a.1 a.2/\¬Md b.1 b.2/\Zs9 (cvc F xs) (evc F xs) c f (slow a) (slow b) (cvc F xs a) (cvc F xs b) 0/\(sisol F xs f a b c).length<=1000000
open Go.RowKit Below
variable {P:Program} {N:Nat} {sc:Nat->Prop} {env env':Xu} {H H':Hp} {Q Q':Exit->Act->World->Prop} {M:Nat->Prop}
def CalM(P:Program)(f:FuncId)(args:Array Value)(pre:List Pc){G:Type}(φ:G->Prop)(val:G->Value)(d c:G->Pc):Prop:=
 ∀w,(∀p∈pre,p.holds w)->Calls P f args w λe h=>∃g,e= .returned (val g)/\φ g/\Below w.heap.size w h/\(d g).holds h/\(∀b,(d g).fp b->w.heap.size<=b)/\
  (c g).holds h/\(c g).own=false/\(∀b,(c g).fp b->w.heap.size<=b\/∃q∈pre,q.fp b)/\∀b,(d g).fp b->(c g).fp b->False
def FPostM(P:Program)(fn:Func)(w0:World)(pre:List Pc){G:Type}(φ:G->Prop)(val:G->Value)(d c:G->Pc):Exit->Act->World->Prop:=
 bodyPost P fn λe f=>∃g,e= .returned (val g)/\φ g/\Below w0.heap.size w0 f/\(d g).holds f/\(∀b,(d g).fp b->w0.heap.size<=b)/\
  (c g).holds f/\(c g).own=false/\(∀b,(c g).fp b->w0.heap.size<=b\/∃q∈pre,q.fp b)/\∀b,(d g).fp b->(c g).fp b->False
abbrev qD (z:SL×Nat):Pc:=d9p (Lh z.1) z.2
abbrev JE:=(R2×R2)×(SL×SL×SL×SL)
abbrev encJ (y:JE):Value:= .agg #[.bool (decide (y.1.1.1<0)),Lh y.2.1,.bool (decide (y.1.1.2<0)),Lh y.2.2.1,.bool (decide (y.1.2.1<0)),Lh y.2.2.2.1,.bool (decide (y.1.2.2<0)),Lh y.2.2.2.2]
abbrev qJ (y:JE):Pc:=Zc1 qD [(y.2.1,y.1.1.1.natAbs),(y.2.2.1,y.1.1.2.natAbs),(y.2.2.2.1,y.1.2.1.natAbs),(y.2.2.2.2,y.1.2.2.natAbs)]
abbrev J0:JE:=(((0,0),(0,0)),((none,0,0),(none,0,0),(none,0,0),(none,0,0)))
end Go.Sky
namespace Go.Sky
variable {P:Program} {N:Nat} {sc:Nat->Prop} {env env':Xu} {H H':Hp} {Q Q':Exit->Act->World->Prop}
theorem Zm0(w:World)(g:Nat)(cs:Array Value)(t:TypeId){fr:Nat×Nat}(a:w.heap[g]? = some (.cells cs t fr)):w.setRow g cs=w:=by
 obtain⟨b,c⟩:=aR.1 a;have h:(w.setRow g cs).heap=w.heap:=by
  apply Array.ext_getElem?;intro i;by_cases h:g=i
  .subst h;rw [setRow_heap w g cs cs t fr a,a]
  .unfold World.setRow;dsimp only;rw [Array.getElem?_modify,aE h]
 have e:w.setRow g cs={ w with heap:=(w.setRow g cs).heap }:=rfl;rw [e,h]
theorem Zim (i:Nat) {M:Nat->Prop} {o:Oper} {x y:Operand} {t g:TypeId} {b j k:Nat} {cs:Array Value} {v:Value} {vs:List Value} (s:o.op= .store t x y) (q:o.dst=none)
  (B:ev env x=some (.pointer (some ⟨b,j,none⟩))) (D:ev env y=some v) (n:lk H i=some (Ka b g cs)) (z:v.cells=vs.toArray) (r:∀w,(sizeOf t).run P w= .ok k w) (d:vs.length=k)
  (c:Nat.ble (j+vs.length) cs.size=true) (m:∀u∈vs,u.oneCell'=true) (e:Gp cs j vs=cs) :
  T P N sc M o env H (G:=Unit) (λ_=>True) (λ_=>env) (λ_=>H):=λa w hs K Q p=>by
 have h:w.heap[b]? = some (.cells cs g (0,0)):=hs.hold i _ n;have f:=run_storeCells_at P b j g vs 0 cs w h (by simpa using jD c) m;simp only [eO]at f;have l:(execOp a.eval o).run P w= .ok .skip (w.setRow b (Gp cs j vs)):=by simp [execOp,s,hs.ev B,hs.ev D,Instr.storeAt,Instr.sureAddr,storeVar,z,r,d,f,Gp]
 rw [e,Zm0 w b cs g h]at l;unfold Oper.wp;rw [l];show K (a.put o.dst _) _;rw [q];exact p () _ _ aA (hs.put_none undef) (Chg.refl _ _)
def Zye{v:Value}{zs:List (SL×List Int)}{al:Bool}{r:List Pc}{z:SL×List Int}(i:Nat)(hi:lk H i=some (Nv 1 Iy (λy:SL×List Int=>Ym 2 wv (Lh y.1) y.2) v zs))(a:Nat.beq i 0=false)(b:z∈zs)(h:PreOk H al r):PreOk H al (Ym 2 wv (Lh z.1) z.2::r):=Znc (q:=λy:SL×List Int=>Ym 2 wv (Lh y.1) y.2) (z:=z) i hi a b h
end Go.Sky
namespace Go.Sky
variable{v:Int}{o:Oper}{x y:Operand}{t tb:TypeId}{b k i:Nat}{kd:IntKind}{M M0:Nat->Prop}{w0:World}{cs:Array Value}
variable {P:Program} {N:Nat} {sc:Nat->Prop} {env env':Xu} {H H':Hp} {Q Q':Exit->Act->World->Prop}
def Fz(l:List Int):Array Value:=(l.map (Value.int .i64)).toArray
theorem Zuu(l:List Int):(Fz l).size=l.length:=by simp [Fz]
theorem Zwr{l:List Int}{j:Nat}(h:j<l.length):(Fz l)[j]? = some (.int .i64 (l.getD j 0)):=by simp [Fz,bB h,aX]
theorem Zwq{l:List Int}{j:Nat}(h:j<l.length):Gp (Fz l) j [.int .i64 v]=Fz (l.set j v):=by unfold Gp Fz;congr 1;rw [List.set_eq_take_append_cons_drop,aG h,lH,cH,List.map_take,List.map_drop];simp
theorem Kj (i:Nat)   {e:TypeId} {d c:Nat}  {m:Int} (j:o.op= .indexAddr t x y) (n:ev env x=some (.pointer (some ⟨b,d,none⟩))) (p:ev env y=some (.int kd m))
  (l:P.underlying t=some (.array c e)) (h:∀w,(sizeOf e).run P w= .ok k w) (f:m=(i:Int):=by omega) (g:i<c:=by omega):Ni P N sc o env H (.pointer (some ⟨b,d+i*k,none⟩)):=λa w hs=>by
 subst f;simp [execOp,j,hs.ev n,hs.ev p,Instr.indexAt,Instr.sureAddr,asIntOf,run_underlying l,h,g,Mi]
theorem Zwe (i:Nat){j:Nat}{l:List Int}(d:o.op= .load t x)(f:ev env x=some (.pointer (some ⟨b,j,none⟩)))(a:lk H i=some (box b tb (Fz l)))(e:∀w,(isAgg t).run P w= .ok false w)(c:j<l.length:=by omega) :
  Ni P N sc o env H (.int .i64 (l.getD j 0)):=d_lb d f a e (Zwr c)
theorem d_lwa{l:List Int}(e:o.op= .load t x)(h:ev env x=some (.pointer (some ⟨b,0,none⟩)))(a:lk H i=some (box b tb (Fz l)))(f:∀w,(isAgg t).run P w= .ok true w)(c:∀w,(sizeOf t).run P w= .ok k w)(d:l.length=k) :
  Ni P N sc o env H (.agg (Fz l)):=
 Ztz (vs:=l.map (Value.int .i64)) e h a f c (by simpa using d) (λn u g=>by rw [cP];simpa [Fz]using g)
theorem Zpo (i:Nat)     {j:Nat} {l:List Int}    (m:o.op= .store t x y) (g:o.dst=none)
  (q:ev env x=some (.pointer (some ⟨b,j,none⟩))) (r:ev env y=some (.int .i64 v)) (e:lk H i=some (box b tb (Fz l))) (h:∀w,(sizeOf t).run P w= .ok 1 w) 
  (d:lk H 0=some (Xm w0 M0)) (p:∀b,w0.heap.size<=b->sc b) (f:M b) (a:i≠0:=by decide) (c:j<l.length:=by omega) :
  T P N sc M o env H (G:=Unit) (λ_=>True) (λ_=>env) (λ_=>(i,box b tb (Fz (l.set j v)))::H):=by
 rw [<-Zwq c];exact Zin [.int .i64 v] m g q r e a rfl h rfl (by rw [Zuu];exact c) (λu n=>Zf (by rw [aK.1 n];rfl)) rfl d p f
theorem Zw2 (i:Nat)       {l:List Int}   (j:o.op= .store t x y) (f:o.dst=none)
  (p:ev env x=some (.pointer (some ⟨b,0,none⟩))) (q:ev env y=some (.agg (Fz l))) (d:lk H i=some (box b tb cs)) (g:∀w,(sizeOf t).run P w= .ok k w) (h:l.length=k) (r:cs.size=k)
  (c:lk H 0=some (Xm w0 M0)) (n:∀b,w0.heap.size<=b->sc b) (e:M b) (a:i≠0:=by decide) :
  T P N sc M o env H (G:=Unit) (λ_=>True) (λ_=>env) (λ_=>(i,box b tb (Fz l))::H):=
 Zin (l.map (Value.int .i64)) j f p q d a rfl g (by simpa using h) O9 (λu m=>Zf (by obtain⟨z,_,rfl⟩:=jX.1 m;rfl)) (by unfold Gp Fz;rw [fM,iP,cP,lB O9,jQ]) c n e
def Nm:Nat->Nat->Nat
 | _,0=>1
 | 0,_+1=>0
 | n+1,k+1=>Nm n k+Nm n (k+1)
theorem Zq2:∀n k,Nm n k<=2^n
 | 0,0=>O3
 | _+1,0=>dB _
 | 0,_+1=>aZ _
 | n+1,k+1=>by have a:=Zq2 n k;have c:=Zq2 n (k+1);show Nm n k+Nm n (k+1)<=2^(n+1);rw [bL];omega
theorem Zlr:∀n k,n<k->Nm n k=0
 | _,0,h=>absurd h (dC _)
 | 0,_+1,_=>rfl
 | n+1,k+1,h=>by show Nm n k+Nm n (k+1)=0;rw [Zlr n k O,Zlr n (k+1) O]
structure Tab (l:List Int) (n k:Nat):Prop where
 len:l.length=625
 eq:∀r c,r<25->c<25->l.getD (r*25+c) 0=if r<n\/(r=n/\c<k)then(Nm r c:Int)else 0
theorem Zjg{l:List Int}{j:Nat}(hi:i<l.length:=by omega):(l.set i v).getD j 0=if j=i then v else l.getD j 0:=by
 rw [aX,aX,List.getElem?_set];by_cases h:i=j
 .subst h;rw [aG rfl,aG hi,aG rfl];rfl
 .rw [aE h,aE (λe=>h e.symm)]
theorem Tab.start:Tab (List.replicate 625 0) 0 0:=⟨aW,λr c d a=>by rw [aE O,aX];rw [gD];split<;>rfl⟩
theorem Tab.step{l:List Int}{n:Nat}(h:Tab l n k)(w:n<25)(u:k<25)(s:v=(Nm n k:Int)){j:Nat}(m:j=n*25+k):Tab (l.set j v) n (k+1):=by
 subst m;have p:=h.len;refine⟨by rw [dA];exact p,λr c q f=>?_⟩;rw [Zjg,h.eq r c q f];by_cases e:r*25+c=n*25+k
 .have a:r=n:=O;have d:c=k:=O;subst a;subst d;rw [aG rfl,aG O];exact s
 .rw [aE e];have:¬(r=n/\c=k):=λ⟨a,d⟩=>e (by rw [a,d]);by_cases g:r<n\/(r=n/\c<k)
  .rw [aG g,aG O]
  .rw [aE g,aE O]
theorem Tab.row{l:List Int}{n:Nat}(h:Tab l n k)(f:n<k):Tab l (n+1) 0:=⟨h.len,λr c e d=>by
 rw [h.eq r c e d];by_cases g:r<n\/(r=n/\c<k)
 .rw [aG g,aG O]
 .rw [aE g];by_cases a:r<n+1\/(r=n+1/\c<0)
  .rw [aG a,Zlr r c O];rfl
  .rw [aE a]⟩
theorem Tab.get{l:List Int}{n r c:Nat}(h:Tab l n k)(f:r<25)(d:c<25)(a:r<n\/(r=n/\c<k)){j:Nat}(e:j=r*25+c):l.getD j 0=(Nm r c:Int):=by rw [e,h.eq r c f d,aG a]
theorem Zt9 (n:Nat)(k:Nat)(c:1<=n:=by omega)(a:1<=k:=by omega):Nm n k=Nm (n-1) (k-1)+Nm (n-1) k:=by obtain⟨m,rfl⟩:∃m,n=m+1:=⟨n-1,O⟩;obtain⟨j,rfl⟩:∃j,k=j+1:=⟨k-1,O⟩;rfl
end Go.Sky
namespace Go.Sky
variable{k b:Nat}{t tb:TypeId}{parts:List (Nat×Value)}{cells:Array Value}{o:Oper}{x y:Operand}{kd:IntKind}{v0 v1 v2:Value}{M M0:Nat->Prop}
structure Tb (l:List Int) (n k:Nat):Prop where
 len:l.length=36
 eq:∀r c,r<6->c<6->l.getD (r*6+c) 0=if r<n\/(r=n/\c<k)then(Nm r c:Int)else 0
theorem Tb.start:Tb (List.replicate 36 0) 0 0:=⟨aW,λr c d a=>by rw [aE O,aX];rw [gD];split<;>rfl⟩
theorem Tb.step{l:List Int}{n:Nat}{v:Int}(h:Tb l n k)(u:n<6)(s:k<6)(q:v=(Nm n k:Int)){j:Nat}(i:j=n*6+k):Tb (l.set j v) n (k+1):=by
 subst i;have m:=h.len;refine⟨by rw [dA];exact m,λr c p f=>?_⟩;rw [Zjg,h.eq r c p f];by_cases e:r*6+c=n*6+k
 .have a:r=n:=O;have d:c=k:=O;subst a;subst d;rw [aG rfl,aG O];exact q
 .rw [aE e];have:¬(r=n/\c=k):=λ⟨a,d⟩=>e (by rw [a,d]);by_cases g:r<n\/(r=n/\c<k)
  .rw [aG g,aG O]
  .rw [aE g,aE O]
theorem Tb.row{l:List Int}{n:Nat}(h:Tb l n k)(f:n<k):Tb l (n+1) 0:=⟨h.len,λr c e d=>by
 rw [h.eq r c e d];by_cases g:r<n\/(r=n/\c<k)
 .rw [aG g,aG O]
 .rw [aE g];by_cases a:r<n+1\/(r=n+1/\c<0)
  .rw [aG a,Zlr r c O];rfl
  .rw [aE a]⟩
theorem Tb.get{l:List Int}{n r c:Nat}(h:Tb l n k)(f:r<6)(d:c<6)(a:r<n\/(r=n/\c<k)){j:Nat}(e:j=r*6+c):l.getD j 0=(Nm r c:Int):=by rw [e,h.eq r c f d,aG a]
theorem Zq3 (k:Nat){n:Nat}(h:n<=5:=by omega):Nm n k<=32:=aB (Zq2 n k) (aB (cN O3 h) O3)
theorem Zwh {P:Program} {e:TypeId} {n:Nat} {c a:TypeInfo} {z:Value}   (hi:P.info? t=some c) (g:P.underlying t=some (.array n e)) (h:c.zero=some z) (d:P.info? e=some a)
  (f:Instr.fill (λi=>some (i*a.size,a.size)) z.cells parts=some cells):P.built t parts=some cells:=by
 unfold Program.built;simp only [hi,g,h,d,f]
variable {P:Program} {N:Nat} {sc:Nat->Prop} {env env':Xu} {H H':Hp} {Q Q':Exit->Act->World->Prop}
def Yg{α:Type _}(i:Nat)(a b c:α):α:=match i with
 | 0=>a
 | 1=>b
 | _=>c
theorem Zm1{α:Type _}{p:α->Prop}{i:Nat}{a b c:α}(d:p a)(e:p b)(f:p c):p (Yg i a b c):=by unfold Yg;split<;>assumption
theorem Zt0 (i:Nat)   {e:TypeId}   {m:Int}  (j:o.op= .index t x y) (n:ev env x=some (.agg #[v0,v1,v2])) (p:ev env y=some (.int kd m))
  (l:P.underlying t=some (.array 3 e)) (g:∀w,(sizeOf e).run P w= .ok 1 w) (f:∀w,(isAgg e).run P w= .ok false w) (c:m=(i:Int)) (h:i<3:=by omega):Ni P N sc o env H (Yg i v0 v1 v2):=λa w hs=>by
 subst c;have d:i=0\/i=1\/i=2:=O;rcases d with rfl|rfl|rfl<;>simp [execOp,j,hs.ev n,hs.ev p,Instr.index,asIntOf,run_underlying l,g,f,asAgg,part,Yg]
theorem Zj5 {α:Type}  {enc:α->Value}  {f g j:List α} (i c d e n:Nat) (l:lk H c=some (Ym k enc v0 f)) (m:lk H d=some (Ym k enc v1 g)) (p:lk H e=some (Ym k enc v2 j))
  (q:Nat.beq c 0=false) (r:Nat.beq d 0=false) (s:Nat.beq e 0=false):∀a w,Sat N sc env H a w->Sat N sc env ((n,Ym k enc (Yg i v0 v1 v2) (Yg i f g j))::H) a w:=by
 match i with
 | 0=>exact Zck c n l q rfl (λw h=>h) (λb h=>h) rfl
 | 1=>exact Zck d n m r rfl (λw h=>h) (λb h=>h) rfl
 | i+2=>exact Zck e n p s rfl (λw h=>h) (λb h=>h) rfl
theorem Zov (i:Nat)(j:Nat){α:Type}{enc:α->Value}{l:List α}(d:α)(n:o.op= .load t x)(s:ev env x=some (.pointer (some ⟨b,0+j*k,none⟩)))(g:lk H i=some (box b tb (cellsOf enc l).toArray))(e:Enc P t k enc)(m:j<l.length) :
  Ni P N sc o env H (enc (l.getD j d)):=λa w hs=>by
 have hi:l[j]? = some (l.getD j d):=by simp [List.getD,bB m]
 have h:=e.load (l.getD j d) w ⟨b,0+j*k,none⟩ (λq u p=>by have f:=Kz e.cells l j _ hi q u p;rw [Mi,hs.boxc g];simpa using f)
 have c:=hs.ev s;generalize enc (l.getD j d)=r at h ⊢;generalize (⟨b,0+j*k,none⟩:Addr)=v at h c;simp [execOp,n,c,Instr.loadAt,Instr.sureAddr,h]
theorem Zw4 (i:Nat)(j:Nat)(k:Nat) {α:Type}      {enc:α->Value} {l:List α} (z:α) {w0:World}  (q:o.op= .store t x y) (n:o.dst=none)
  (v:ev env x=some (.pointer (some ⟨b,0+j*k,none⟩))) (w:ev env y=some (enc z)) (h:lk H i=some (box b tb (cellsOf enc l).toArray)) (a:Enc P t k enc) (f:j<l.length)
  (g:lk H 0=some (Xm w0 M0)) (s:∀b,w0.heap.size<=b->sc b) (m:M b) (c:i≠0:=by decide) :
  T P N sc M o env H (G:=Unit) (λ_=>True) (λ_=>env) (λ_=>(i,box b tb (cellsOf enc (l.set j z)).toArray)::H):=by
 have p:=Yd a.cells l;have e:(enc z).cells.toList.length=k:=by simp [a.cells]
 have d:(j+1)*k<=l.length*k:=aI _ f;rw [eV]at d;refine Zin ((enc z).cells.toList) q n v w h c rfl a.size e (by rw [e,gR,p];omega) (λu r=>Zf (a.one z u r)) ?_ g s m;unfold Gp;rw [cP,e,Az a.cells l j z f]
end Go.Sky
namespace Go.Sky
variable{o:Oper}{x:Operand}{t tb te:TypeId}{M M0:Nat->Prop}{cs:Array Value}
variable {P:Program} {N:Nat} {sc:Nat->Prop} {env env':Xu} {H H':Hp} {Q Q':Exit->Act->World->Prop}
theorem Zty (i:Nat){α:Type}{b k q:Nat}{enc:α->Value}{l:List α}(f:o.op= .load t x)(j:ev env x=some (.pointer (some ⟨b,0,none⟩)))(a:lk H i=some (box b tb (cellsOf enc l).toArray))(c:Enc P te q enc)(g:∀w,(isAgg t).run P w= .ok true w)(d:∀w,(sizeOf t).run P w= .ok k w)(e:l.length*q=k) :
  Ni P N sc o env H (.agg (cellsOf enc l).toArray):=
 Ztz (vs:=cellsOf enc l) f j a g d (by rw [Yd c.cells l];exact e) (λn u h=>by rw [cP];simpa using h)
theorem Zio (i:Nat) {α:Type}   {y:Operand}  {b k q:Nat}  {enc:α->Value} {l:List α} {w0:World}  (r:o.op= .store t x y) (m:o.dst=none)
  (v:ev env x=some (.pointer (some ⟨b,0,none⟩))) (B:ev env y=some (.agg (cellsOf enc l).toArray)) (g:lk H i=some (box b tb cs)) (d:Enc P te q enc) (n:∀w,(sizeOf t).run P w= .ok k w) (p:l.length*q=k) (j:cs.size=k)
  (f:lk H 0=some (Xm w0 M0)) (s:∀b,w0.heap.size<=b->sc b) (h:M b) (a:i≠0:=by decide) :
  T P N sc M o env H (G:=Unit) (λ_=>True) (λ_=>env) (λ_=>(i,box b tb (cellsOf enc l).toArray)::H):=by
 have c:(cellsOf enc l).length=k:=by rw [Yd d.cells l];exact p
 refine Zin (cellsOf enc l) r m v B g a rfl n c (by rw [c,cP,j];exact aH _) (λu e=>?_) (by unfold Gp;rw [fM,iP,cP,lB O9,jQ]) f s h
 unfold cellsOf at e;obtain⟨z,_,D⟩:=kT.1 e;exact Zf (d.one z u D)
end Go.Sky
namespace Go.Sky
variable {P:Program} {N:Nat} {sc:Nat->Prop} {env env':Xu} {H H':Hp} {Q Q':Exit->Act->World->Prop}
abbrev Zl:=(Int×Int×Int)×(SL×List Int)×(SL×List Int)×(SL×List Int)
abbrev Ee (g:Zl):Value:= .agg #[.int .i64 g.1.1,.int .i64 g.1.2.1,.int .i64 g.1.2.2,Lh g.2.1.1,Lh g.2.2.1.1,Lh g.2.2.2.1]
abbrev qC (z:SL×List Int):Pc:=Ym 1 Ys (Lh z.1) z.2
abbrev qG (g:Zl):Pc:=Zc1 qC [g.2.1,g.2.2.1,g.2.2.2]
abbrev G0:Zl:=((0,0,0),((none,0,0),[]),((none,0,0),[]),((none,0,0),[]))
def Qu (g:Zl)(z:SL×List Int){v:Value}{ps:List Zl}(j n:Nat)(i:lk H j=some (Nv 6 Ee qG v ps))(c:Nat.beq j 0=false)(d:g∈ps)(e:z∈[g.2.1,g.2.2.1,g.2.2.2]):∀a w,Sat N sc env H a w->Sat N sc env ((n,Ym 1 Ys (Lh z.1) z.2)::H) a w:=
 Zck j n i c rfl (λw h=>h.2 g d z e) (λb f=> .inr ⟨g,d,z,e,f⟩) rfl
end Go.Sky
namespace Go.Sky
variable{x s η ε t δ:Rat}{i:Nat}{c z y a b p xs:List Int}{over ov:Int}{f:Rat->Rat}{fs:List (Rat->Rat)}
theorem Gq{x:Int}(h:Qf x):bl x.natAbs<=64:=(Xo 64 _).2 (by obtain⟨d,e⟩:=h;omega)
theorem in_bl{x:Int}(h:bl x.natAbs<=63):Qf x:=by have:=(Xo 63 x.natAbs).1 h;exact⟨O,O⟩
theorem bl_pw{n:Int}(h:bl n.natAbs<=100)(hi:i<=10):bl (n^i).natAbs<=1000:=by
 rcases aU i with d|d
 .subst d;rw [dE];decide
 .exact aB (Be n h i d) (by have:=aI 100 hi;omega)
def Xi:List Int->Int
 | []=>1
 | x::r=>x*Xi r
theorem Zi4:∀a b:List Int,Xi (a ++ b)=Xi a*Xi b
 | [],b=>by simp [Xi]
 | x::a,b=>by simp [Xi,Zi4 a b,fK]
theorem Cp{l:List Int}(h:i<l.length):Xi (l.take (i+1))=Xi (l.take i)*l.getD i 0:=by rw [Ql 0 _ _ h,Zi4];simp [Xi]
theorem Zjo:∀{l:List Int},(∀x∈l,Qf x)->bl (Xi l).natAbs<=64*l.length+1
 | [],_=>O3
 | x::l,h=>by have e:=Gq (h x (bM ..));have g:=Zjo (l:=l) λy d=>h y (aT _ d);have:=Xb x (Xi l);simp only [Xi,dG];omega
theorem Ybt{l:List Int}(h:∀x∈l,Qf x)(j:l.length<=10)(i:Nat):bl (Xi (l.take i)).natAbs<=1000:=by
 have e:=Zjo (l:=l.take i) λx d=>h x (dX d);have g:(l.take i).length<=l.length:=by rw [aN];omega
 omega
def zc6_eq:(Value.agg (List.replicate 36 (Value.int .i64 0)).toArray).cells=Fz (List.replicate 36 0):=rfl
def Zma:(Value.agg (List.replicate 36 (Value.int .i64 0)).toArray).cells.size=36:=rfl
def w60(n j k:Nat):Int:=60/(Nm n k:Int)*(Nm j k:Int)
def ctl(c:List Int)(j m:Nat):Int:=Zp (λk=>c.getD k 0*w60 (c.length-1) j k) m
def Ybd(c:List Int)(j m:Nat):ctl c j (m+1)=ctl c j m+c.getD m 0*w60 (c.length-1) j m:=rfl
theorem Zlq:∀{n k:Nat},k<=n->0<Nm n k
 | n,0,_=>by cases n<;>exact Nat.one_pos
 | n+1,k+1,h=>by have:=Zlq (n:=n) (k:=k) O;show 0<Nm n k+Nm n (k+1);omega
theorem Zws (n:Nat)(k:Nat){j:Nat}(g:j<=5):0<=w60 n j k/\w60 n j k<=1920:=by have h:=Zq3 k g;unfold w60;have d:(0:Int)<=60/(Nm n k:Int):=Int.ediv_nonneg O3 O;have e:(60:Int)/(Nm n k:Int)<=60:=Int.ediv_le_self _ O3;refine⟨cY d O,?_⟩;have:=kC e (show(Nm j k:Int)<=32 by omega) O O3;omega
theorem Zq5 (k:Nat){n j:Nat}(d:j<=5):bl (w60 n j k).natAbs<=11:=by have:=Zws n k d;exact(Xo 11 _).2 O
theorem Po(h:∀x∈c,Qf x)(k:Nat):Qf (c.getD k 0):=by
 by_cases d:k<c.length
 .exact h _ (Zo d)
 .rw [aX,bI O];exact⟨O3,O3⟩
theorem Ybw(h:∀x∈c,Qf x){j m:Nat}(d:j<=5)(e:m<=31):bl (ctl c j m).natAbs<=80:=
 Zfu (K:=75) (λk _=>by have g:=Gq (Po h k);have l:=Zq5 k (n:=c.length-1) d;have:=Xb (c.getD k 0) (w60 (c.length-1) j k);omega) e
def Zeg(c:List Int)(over:Int):Bool:=(List.range c.length).all λj=>decide ((ctl c j (j+1)).natAbs<=62914560*over)
theorem Zlw(h:∀j,j<c.length->((ctl c j (j+1)).natAbs:Int)<=62914560*over):Zeg c over=true:=by unfold Zeg;rw [bR];intro j d;exact aO (h j (eN.1 d))
theorem bndB_f{j:Nat}(d:j<c.length)(h:¬((ctl c j (j+1)).natAbs:Int)<=62914560*over):Zeg c over=false:=by
 cases hb:Zeg c over with
 | false=>rfl
 | true=>
  unfold Zeg at hb;rw [bR]at hb;exact absurd (cZ (hb j (eN.2 d))) h
theorem wc_abs{s:Int}:(#[.bool false,.string (Yw s.natAbs)]:Array Value)=wc (s.natAbs:Int):=by have:decide (((s.natAbs:Nat):Int)<0)=false:=aM O;rw [show wc (s.natAbs:Int)=#[.bool (decide (((s.natAbs:Nat):Int)<0)),.string (Yw ((s.natAbs:Nat):Int).natAbs)]from rfl,this,cM]
theorem sgp{z:Int}:0<z.sign↔0<z:=by simpa using Zch z
def axB(c:List Int)(over:Int):Bool:=decide (1<=c.length) && decide (c.length<=6) && !(decide (1<c.length) && decide (c.getD (c.length-1) 0=0)) && Zeg c over
def Il(g:Int):List Int->Int
 | []=>g
 | x::r=>Il (Int.gcd g x) r
def Zc7:∀(a b:List Int) (g:Int),Il g (a ++ b)=Il (Il g a) b
 | [],_,_=>rfl
 | x::a,b,g=>Zc7 a b _
theorem Zjh{l:List Int}{g:Int}(h:i<l.length):Il g (l.take (i+1))=(Int.gcd (Il g (l.take i)) (l.getD i 0):Int):=by rw [Ql 0 _ _ h,Zc7];rfl
theorem Zdj:∀{l:List Int} {g:Int} {m:Nat},(∀x∈l,bl x.natAbs<=m)->bl g.natAbs<=m->bl (Il g l).natAbs<=m
 | [],_,_,_,h=>h
 | x::l,g,m,h,hg=>Zdj (l:=l) (λy d=>h y (aT _ d)) (aB (Zlz g x) (by have:=h x (bM ..);omega))
abbrev Cs:=List Int×List Int×List Int
def Zw1(fr d ov:Int):Bool:=decide (0<=fr) && decide (fr<d) && decide (d<=3600000) && decide (1<=ov) && decide (ov<=4294967296)
def Ea(fr d ov:Int)(x y z:List Int):Bool:=Zw1 fr d ov && axB x ov && axB y ov && axB z ov && decide (Il ov (x ++ y ++ z)=1)
def Lp(i:Nat)(x y z:List Int):List Int:=match i with
 | 0=>[]
 | 1=>x
 | 2=>x ++ y
 | _=>x ++ y ++ z
theorem Zez(x y z:List Int)(h:i<3):Lp (i+1) x y z=Lp i x y z ++ Yg i x y z:=by
 match i,h with
 | 0,_=>rfl
 | 1,_=>rfl
 | 2,_=>rfl
theorem Zge (i:Nat){fr d:Int}{x:List Int}(h:axB (Yg i x y z) ov=false):Ea fr d ov x y z=false:=by unfold Ea;revert h;unfold Yg;split<;>intro h<;>simp [h]
theorem Zf3{fr d:Int}{x:List Int}(h:¬(0<=fr/\fr<d/\d<=3600000/\1<=ov/\ov<=4294967296)):Ea fr d ov x y z=false:=by
 cases hb:Ea fr d ov x y z with
 | false=>rfl
 | true=>
  unfold Ea Zw1 at hb;simp only [aL,dW]at hb;exact absurd O h
theorem Zpc(h:1<=c.length->c.length<=6->¬(1<c.length/\c.getD (c.length-1) 0=0)->Zeg c ov=true->False):axB c ov=false:=by
 cases hb:axB c ov with
 | false=>rfl
 | true=>
  unfold axB at hb;simp only [aL,eU,jE,dW,fJ]at hb;exact(h hb.1.1.1 hb.1.1.2 (λe=>by rcases hb.1.2 with d|d;exact d e.1;exact d e.2) hb.2).elim
theorem Ybz(e:1<=c.length)(g:c.length<=6)(h:¬(1<c.length/\c.getD (c.length-1) 0=0))(j:Zeg c ov=true):axB c ov=true:=by
 unfold axB;simp only [aL,eU,jE,dW,fJ];refine⟨⟨⟨e,g⟩,?_⟩,j⟩;by_cases d:1<c.length
 .exact .inr λk=>h ⟨d,k⟩
 .exact .inl d
theorem segB_e{fr g:Int}{x:List Int}(d:0<=fr/\fr<g/\g<=3600000/\1<=ov/\ov<=4294967296)(e:∀k,k<3->axB (Yg k x y z) ov=true):Ea fr g ov x y z=decide (Il ov (Lp 3 x y z)=1):=by have h:axB x ov=true:=e 0 O3;have j:axB y ov=true:=e 1 O3;have l:axB z ov=true:=e 2 O3;unfold Ea Zw1;rw [aO d.1,aO d.2.1,aO d.2.2.1,aO d.2.2.2.1,aO d.2.2.2.2,h,j,l];rfl
def Er{x:List Int}(d:∀a∈x,Qf a)(e:∀a∈y,Qf a)(g:∀a∈z,Qf a)(i:Nat):∀a∈Yg i x y z,Qf a:=Zm1 (p:=λl=>∀a∈l,Qf a) d e g
theorem bl_fc{x:List Int}(e:∀a∈x,Qf a)(g:∀a∈y,Qf a)(j:∀a∈z,Qf a)(l:bl ov.natAbs<=64)(i k:Nat):bl (Il (Il ov (Lp i x y z)) ((Yg i x y z).take k)).natAbs<=64:=by
 refine Zdj (λa d=>Gq (Er e g j i a (dX d))) (Zdj (λa d=>Gq ?_) l);unfold Lp at d;split at d
 .cases d
 .exact e a d
 .rcases dH.1 d with h|h
  .exact e a h
  .exact g a h
 .rcases dH.1 d with h|h
  .rcases dH.1 h with h|h
   .exact e a h
   .exact g a h
  .exact j a h
abbrev RWL:=List (Bool×ByteArray)
def smallR(r:RWL):Bool:=decide (r.length<=8) && r.all λc=>decide (c.2.size<=6)
noncomputable def dec (r:RWL):List Int:=if h:okP r=true then(okP_ex h).choose else []
noncomputable def bdE (r:RWL):Int:=if okP r=true then Zq4 (dec r)else 2
noncomputable def bdZ (r:RWL):Int:=if bdE r=0 then Cj (dec r)else 0
def firstE(r:RWL)(x y d e:Int):Int:=if okP r=true then(if r.length=0\/0<x*e-d*y then 3 else 0)else 2
def chke:Nat->Nat->Nat->Nat->Nat->Bool
 | 0,d,_,A,_=>Nat.ble (A+d*64) 65500
 | f+1,d,e,A,B=>Nat.ble (A+d*64) 65500 && (Nat.beq e 0 || (List.range e).all λl=>chke f e l B (bif Nat.ble l 1 then 2 else A+(d-e+1)*B))
inductive SV:List Int->List Int->Prop
 | one (a:Int):SV [a] [a]
 | step (a:Int) (r t:List Int):SV r t->SV (a::r) (a::t)
 | skip (a u w:Int) (r t:List Int):(a=1\/a=-1)->(-1<=u/\u<=1)->(-1<=w/\w<=1)->SV (-a::r) (-a::t)->SV (a::u::-a::r) (a::w::-a::t)
theorem Zjn{s:Int×Int}{a u:Int}(e:a=1\/a=-1)(g:-1<=u/\u<=1):Oh (Oh (Oh s a) u) (-a)=Oh (Oh s a) (-a):=by obtain⟨n,l⟩:=s;have d:u=-1\/u=0\/u=1:=O;rcases e with rfl|rfl<;>rcases d with rfl|rfl|rfl<;>simp [Oh]
theorem SV.fold(h:SV a b):∀s,a.foldl Oh s=b.foldl Oh s:=by
 induction h with
 | one a=>intro s;rfl
 | step a r t _ d=>intro s;exact d (Oh s a)
 | skip a u w r t e g j _ d=>
  intro s;show(r.foldl Oh (Oh (Oh (Oh s a) u) (-a)))=(t.foldl Oh (Oh (Oh (Oh s a) w) (-a)));rw [Zjn e g,Zjn e j];exact d (Oh s a)
def SV.chg(h:SV a b):chg a=chg b:=aP Prod.fst (h.fold (0,0))
def Ix(x:Rat):Int:=if x<0 then -1 else if x=0 then 0 else 1
theorem Zxy:-1<=Ix x/\Ix x<=1:=by unfold Ix;split;decide;split<;>decide
theorem Ei(h:0<x):Ix x=1:=by unfold Ix;rw [aE O4,aE O4]
theorem Ej(h:x<0):Ix x=-1:=by unfold Ix;rw [aG h]
def Big(η x:Rat)(f:Rat->Rat):Prop:=η<f x\/f x < -η
def Tri(η x:Rat):(Rat->Rat)->List (Rat->Rat)->Prop
 | _,[]=>True
 | _,[g]=>Big η x g
 | f,g::k::r=>(Big η x g/\Tri η x g (k::r))\/(Big η x k/\f x*k x<0/\Tri η x k r)
def Near(η x y:Rat)(f:Rat->Rat):Prop:=f x-f y<=η/\f y-f x<=η
theorem Zl2{y:Rat}(e:0<=η)(h:Big η x f)(d:Near η x y f):Ix (f x)=Ix (f y)/\(Ix (f x)=1\/Ix (f x)=-1):=by
 obtain⟨g,j⟩:=d;rcases h with h|h
 .rw [Ei O4,Ei O4];exact⟨rfl,.inl rfl⟩
 .rw [Ej O4,Ej O4];exact⟨rfl,.inr rfl⟩
theorem opp_sg{a b:Rat}(h:a*b<0):Ix b=- Ix a:=by
 rcases(show a<0\/a=0\/0<a by grind)with e|e|e
 .rw [Ej e,Ei (by
   rcases(show b<=0\/0<b by grind)with d|d
   .have:=aC (a:=-a) (b:=-b) O4 O4;grind
   .exact d)];rfl
 .subst e;grind
 .rw [Ei e,Ej (by
   rcases(show 0<=b\/b<0 by grind)with d|d
   .have:=aC (a:=a) (b:=b) O4 d;grind
   .exact d)]
theorem Zjy{η x y:Rat}(h:0<=η):∀(n:Nat) (f:Rat->Rat) (fs:List (Rat->Rat)),fs.length<=n->Big η x f->(∀g∈f::fs,Near η x y g)->Tri η x f fs->
  SV ((f::fs).map λg=>Ix (g x)) ((f::fs).map λg=>Ix (g y))
 | _,f,[],_,u,d,_=>by have:=(Zl2 h u (d f (bM ..))).1;simp only [cH,iX,this];exact SV.one _
 | 0,f,g::r,v,_,_,_=>absurd v O7
 | n+1,f,[g],v,u,d,m=>by have q:=(Zl2 h u (d f (bM ..))).1;have e:=Zjy h n g [] O7 m (λk o=>d k (aT _ o)) aA;rw [cH,cH,q];exact SV.step _ _ _ e
 | n+1,f,g::k::r,v,u,d,m=>by
  have q:=Zl2 h u (d f (bM ..));rcases m with⟨D,m⟩|⟨o,G,m⟩
  .have e:=Zjy h n g (k::r) (by simp at v ⊢;omega) D (λk o=>d k (aT _ o)) m;rw [cH (l:=g::k::r),cH (l:=g::k::r),q.1];exact SV.step _ _ _ e
  .have e:=Zjy h n k r (by simp at v ⊢;omega) o (λj F=>d j (aT _ (aT _ F))) m;have w:=(Zl2 h o (d k O7)).1;have B:=opp_sg G;rw [cH (l:=r),cH (l:=r)]at e;simp only [cH];rw [<-w]at e ⊢;rw [B]at e ⊢;rw [<-q.1];exact SV.skip _ _ _ _ _ q.2 Zxy Zxy e
structure Lnk (η x:Rat) (f g k:Rat->Rat):Prop where
 big:¬Big η x g->Big η x k
 opp:¬Big η x g->f x*k x<0
def Lnks(η x:Rat):(Rat->Rat)->List (Rat->Rat)->Prop
 | _,[]=>True
 | _,[g]=>Big η x g
 | f,g::k::r=>Lnk η x f g k/\Lnks η x g (k::r)
theorem Zg0{η x:Rat} : ∀(n:Nat) (f:Rat->Rat) (fs:List (Rat->Rat)),fs.length<=n->Lnks η x f fs->Tri η x f fs
 | _,f,[],_,_=>trivial
 | 0,f,g::r,e,_=>absurd e O7
 | n+1,f,[g],_,h=>h
 | n+1,f,[g,k],e,h=>by
  by_cases d:Big η x g
  .exact .inl ⟨d,h.2⟩
  .exact .inr ⟨h.1.big d,h.1.opp d,aA⟩
 | n+1,f,g::k::j::r,e,h=>by
  by_cases d:Big η x g
  .exact .inl ⟨d,Zg0 n g (k::j::r) (by simp at e ⊢;omega) h.2⟩
  .exact .inr ⟨h.1.big d,h.1.opp d,Zg0 n k (j::r) (by simp at e ⊢;omega) h.2.2⟩
def Rl3(s t:Rat)(f g k:Rat->Rat):Prop:=∃m n Q:Rat,0<m/\0<n/\0<Q/\∀x,s<=x->x<=t->∃q,-Q<=q/\q<=Q/\m*f x=q*g x-n*k x
def Rl2(s t:Rat)(f g:Rat->Rat):Prop:=∃m Q:Rat,0<m/\0<Q/\∀x,s<=x->x<=t->∃q,-Q<=q/\q<=Q/\m*f x=q*g x
def Rls(s t:Rat):(Rat->Rat)->List (Rat->Rat)->Prop
 | _,[]=>True
 | f,[g]=>Rl2 s t f g
 | f,g::k::r=>Rl3 s t f g k/\Rls s t g (k::r)
theorem Bi{q Q g e:Rat}(h:-Q<=q)(j:q<=Q)(k:-e<=g)(l:g<=e)(m:0<=Q):q*g<=Q*e/\-(Q*e)<=q*g:=by have a:=aC (a:=Q-q) (b:=e+g) O4 O4;have b:=aC (a:=Q+q) (b:=e-g) O4 O4;have c:=aC (a:=Q-q) (b:=e-g) O4 O4;have d:=aC (a:=Q+q) (b:=e+g) O4 O4;constructor<;>grind
theorem Zao{g:Rat->Rat}(h:¬Big η x g):-η<=g x/\g x<=η:=by unfold Big at h;constructor<;>grind
theorem Zq9{g:Rat->Rat}(h:η<=ε)(d:Big ε x g):Big η x g:=by unfold Big at *;grind
theorem Lq{a b:Rat}(h:0<ε)(j:0<a)(k:0<b):∃e:Rat,0<e/\e<=ε/\e*a<=b:=by
 have g:0<b*a⁻¹:=aV k (fH.2 j);have l:b*a⁻¹*a=b:=O4;rcases(show ε<=b*a⁻¹\/b*a⁻¹<=ε by grind)with d|d
 .exact⟨ε,h,O4,by have:=cT d (show 0<=a by grind);grind⟩
 .exact⟨b*a⁻¹,g,d,O4⟩
theorem pair3{g k:Rat->Rat}(h:Rl3 s t f g k)(F:0<ε)(P:∀x,s<=x->x<=t->Big ε x f\/Big ε x g) :
  ∃e,0<e/\(∀x,s<=x->x<=t->Big e x g\/Big e x k)/\∀η,0<η->η<=e->∀x,s<=x->x<=t->Lnk η x f g k:=by
 obtain⟨m,n,Q,B,N,hQ,R⟩:=h;obtain⟨e,D,Z,e3⟩:=Lq F (show 0<Q+n by grind) (Rat.mul_pos B F);have l:∀η,0<η->η<=e->∀x,s<=x->x<=t->¬Big η x g->Big η x k/\f x*k x<0:=λη r u x hs j d=>by
  obtain⟨q,S,V,q3⟩:=R x hs j;obtain⟨I,M⟩:=Zao d;obtain⟨p1,p2⟩:=Bi S V I M O4;have w:Big ε x f:=(P x hs j).resolve_right λh=>d (Zq9 O4 h);have W:η*(Q+n)<=m*ε:=by have:=cT u (show 0<=Q+n by grind);grind
  have Y:0<η*n:=aV r N;rcases w with w|w
  .have G:m*ε<m*f x:=by have:=aV B (show 0<f x-ε by grind);grind
   have H:n*k x < - (n*η):=O4;have v:k x < -η:=by
    rcases(show k x < -η\/-η<=k x by grind)with o|o
    .exact o
    .have:=aC (a:=n) (b:=k x+η) O4 O4;grind
   refine⟨.inr v,?_⟩;have:=aV (a:=f x) (b:=- k x) O4 O4;grind
  .have G:m*f x < - (m*ε):=by have:=aV B (show 0 < -ε-f x by grind);grind
   have H:n*η<n*k x:=O4;have v:η<k x:=by
    rcases(show η<k x\/k x<=η by grind)with o|o
    .exact o
    .have:=aC (a:=n) (b:=η-k x) O4 O4;grind
   refine⟨.inl v,?_⟩;have:=aV (a:=- f x) (b:=k x) O4 O4;grind
 refine⟨e,D,λx hs j=>?_,λη r u x hs j=>⟨λd=>(l η r u x hs j d).1,λd=>(l η r u x hs j d).2⟩⟩;by_cases d:Big e x g
 .exact .inl d
 .exact .inr (l e D O4 x hs j d).1
theorem pair2{g:Rat->Rat}(h:Rl2 s t f g)(l:0<ε)(B:∀x,s<=x->x<=t->Big ε x f\/Big ε x g) :
  ∃e,0<e/\∀η,0<η->η<=e->∀x,s<=x->x<=t->Big η x g:=by
 obtain⟨m,Q,k,w,D⟩:=h;obtain⟨e,o,I,M⟩:=Lq l w (aV k l);refine⟨e,o,λη N v x hs n=>?_⟩;by_cases j:Big η x g
 .exact j
 .exfalso;obtain⟨q,F,G,S⟩:=D x hs n;obtain⟨r,u⟩:=Zao j;obtain⟨P,R⟩:=Bi F G r u O4;have d:Big ε x f:=(B x hs n).resolve_right λh=>j (Zq9 O4 h);have H:η*Q<=m*ε:=by have:=cT v (show 0<=Q by grind);grind
  rcases d with d|d
  .have:=aV k (show 0<f x-ε by grind);grind
  .have:=aV k (show 0 < -ε-f x by grind);grind
theorem Znq{s t:Rat} : ∀(n:Nat) (f:Rat->Rat) (fs:List (Rat->Rat)) (ε:Rat),fs.length<=n->Rls s t f fs->0<ε->(∀g r,fs=g::r->∀x,s<=x->x<=t->Big ε x f\/Big ε x g)->
  ∃e,0<e/\∀η,0<η->η<=e->∀x,s<=x->x<=t->Lnks η x f fs
 | _,f,[],ε,_,_,l,_=>⟨ε,l,λ_ _ _ _ _ _=>trivial⟩
 | 0,f,g::r,ε,hl,_,_,_=>absurd hl O7
 | n+1,f,[g],ε,_,h,l,w=>pair2 h l (w g [] rfl)
 | n+1,f,g::k::r,ε,hl,h,l,w=>by
  obtain⟨e,B,F,D⟩:=pair3 h.1 l (w g (k::r) rfl);obtain⟨q,u,j⟩:=Znq n g (k::r) e (by simp at hl ⊢;omega) h.2 B (λH I v=>by injection v with d o;subst d;exact F)
  rcases(show e<=q\/q<=e by grind)with G|G
  .exact⟨e,B,λη d o x hs m=>⟨D η d o x hs m,j η d O4 x hs m⟩⟩
  .exact⟨q,u,λη d o x hs m=>⟨D η d O4 x hs m,j η d o x hs m⟩⟩
def Lip(s t L:Rat)(f:Rat->Rat):Prop:=∀x y,s<=x->x<=y->y<=t->f x-f y<=L*(y-x)/\f y-f x<=L*(y-x)
def Bn(fs:List (Rat->Rat))(x:Rat):Int:=chg (fs.map λg=>Ix (g x))
theorem Ycw{L:Rat}(u:0<L)(B:∀g∈f::fs,Lip s t L g)(m:0<δ)(l:∀x,s<=x->x<=t->Big δ x f)(D:Rls s t f fs) :
  ∃h,0<h/\∀x y,s<=x->x<=y->y<=t->y-x<=h->Bn (f::fs) x=Bn (f::fs) y:=by
 obtain⟨e,n,o⟩:=Znq fs.length f fs δ (aH _) D m (λg r _ x hs F=> .inl (l x hs F));obtain⟨η,k,M,N⟩:=Lq m (show(0:Rat)<1 by decide) n;obtain⟨h,q,H,I⟩:=Lq k u k;refine⟨h,q,λx y d j G w=>SV.chg ?_⟩;refine Zjy O4 fs.length f fs (aH _) (Zq9 O4 (l x d O4)) (λg v=>?_) (Zg0 _ _ _ (aH _) (o η k O4 x d O4));obtain⟨a,b⟩:=B g v x y d j G;have:=cT w (show 0<=L by grind);exact⟨O4,O4⟩
theorem Zuv{L:Rat}(B:0<L)(G:∀g∈f::fs,Lip s t L g)(F:0<δ)(D:∀x,s<=x->x<=t->Big δ x f)(I:Rls s t f fs)(m:s<=t) :
  Bn (f::fs) s=Bn (f::fs) t:=by
 obtain⟨h,v,q⟩:=Ycw B G F D I;have o:∀n:Nat,∀y,s<=y->y<=t->y-s<=(n:Rat)*h->Bn (f::fs) s=Bn (f::fs) y:=λn=>by
  induction n with
  | zero=>
    intro y d e j;have:y=s:=by simp at j;grind
    rw [this]
  | succ n u=>
   intro y d e j;have r:((n+1:Nat):Rat)*h=(n:Rat)*h+h:=by push_cast;grind
   rcases(show y-s<=(n:Rat)*h\/(n:Rat)*h<y-s by grind)with k|k
   .exact u y d e k
   .have w:(0:Rat)<=(n:Rat)*h:=aC (by exact_mod_cast aZ n) O4;rcases(show s<=y-h\/y-h<s by grind)with l|l
    .rw [u (y-h) l O4 O4];exact q (y-h) y l O4 e O4
    .exact q s y O4 d e O4
 have d:∃n:Nat,t-s<=(n:Rat)*h:=by
  have e:0<h⁻¹:=fH.2 v;refine⟨((t-s)*h⁻¹).ceil.toNat,?_⟩;have j:=@nH ((t-s)*h⁻¹);have r:((((t-s)*h⁻¹).ceil:Int):Rat)<=((((t-s)*h⁻¹).ceil.toNat:Nat):Rat):=by have:((t-s)*h⁻¹).ceil<=((((t-s)*h⁻¹).ceil.toNat:Nat):Int):=kN _;exact_mod_cast this
  have k:=cT (mZ j r) (show 0<=h by grind);have w:(t-s)*h⁻¹*h=t-s:=O4;grind
 obtain⟨n,H⟩:=d;exact o n t m O4 H
def Zb:List Int->Rat->Rat
 | [],_=>0
 | c::p,x=>(c:Rat)+x*Zb p x
theorem Yel(s t:Rat):∃K:Rat,0<K/\∀x,s<=x->x<=t->-K<=x/\x<=K:=by
 rcases(show(0<=s\/s<0) by grind)with h|h<;>rcases(show(0<=t\/t<0) by grind)with d|d
 .exact⟨t+1,O4,λx _ _=>O4⟩
 .exact⟨1,O4,λx _ _=>O4⟩
 .exact⟨t-s+1,O4,λx _ _=>O4⟩
 .exact⟨-s+1,O4,λx _ _=>O4⟩
theorem Zm6(s t:Rat):∀p:List Int,∃B:Rat,0<B/\∀x,s<=x->x<=t->-B<=Zb p x/\Zb p x<=B
 | []=>⟨1,O3,λx _ _=>by unfold Zb;grind⟩
 | c::p=>by obtain⟨B,e,g⟩:=Zm6 s t p;obtain⟨K,n,o⟩:=Yel s t;obtain⟨C,q,h⟩:=Yel (c:Rat) (c:Rat);have r:=h (c:Rat) O4 O4;refine⟨C+K*B,by have:=aV n e;grind,λx hs d=>?_⟩;obtain⟨j,k⟩:=g x hs d;obtain⟨l,m⟩:=o x hs d;obtain⟨f1,f2⟩:=Bi l m j k O4;unfold Zb;constructor<;>grind
theorem Gu(s t:Rat):∀p:List Int,∃L:Rat,0<L/\Lip s t L (Zb p)
 | []=>⟨1,O3,λx y _ _ _=>by unfold Zb;constructor<;>grind⟩
 | c::p=>by obtain⟨L,o,r⟩:=Gu s t p;obtain⟨B,w,j⟩:=Zm6 s t p;obtain⟨K,m,n⟩:=Yel s t;refine⟨K*L+B,by have:=aV m o;grind,λx y hs d h=>?_⟩;obtain⟨u,v⟩:=r x y hs d h;obtain⟨D,F⟩:=j y O4 h;obtain⟨k,l⟩:=n x hs O4;obtain⟨f1,f2⟩:=Bi (q:=x) (g:=Zb p x-Zb p y) (e:=L*(y-x)) k l O4 O4 O4;have G:=aC (a:=B-Zb p y) (b:=y-x) O4 O4;have H:=aC (a:=B+Zb p y) (b:=y-x) O4 O4;unfold Zb;constructor<;>grind
theorem Zgg(x:Rat):∀q:List Int,(∀i,cf q i=0)->Zb q x=0
 | [],_=>rfl
 | c::q,h=>by have d:c=0:=h 0;have e:=Zgg x q λi=>h (i+1);unfold Zb;rw [e,d];grind
theorem Qq(x:Rat):∀p q:List Int,(∀i,cf p i=cf q i)->Zb p x=Zb q x
 | [],q,h=>by rw [Zgg x q λi=>(h i).symm.trans (Zv (aZ _))];rfl
 | c::p,[],h=>by rw [Zgg x (c::p) λi=>(h i).trans (Zv (aZ _))];rfl
 | c::p,d::q,h=>by have e:c=d:=h 0;have g:=Qq x p q λi=>h (i+1);unfold Zb;rw [g,e]
def Oq:List Int->List Int->List Int
 | [],q=>q
 | p,[]=>p
 | a::p,b::q=>(a+b)::Oq p q
theorem Zn1(p:List Int):Oq p []=p:=by cases p<;>rfl
theorem Yh(x:Rat):∀p q:List Int,Zb (Oq p q) x=Zb p x+Zb q x
 | [],q=>by unfold Oq;show Zb q x=0+Zb q x;grind
 | a::p,[]=>by rw [Zn1];show Zb (a::p) x=Zb (a::p) x+0;grind
 | a::p,b::q=>by have h:=Yh x p q;unfold Oq Zb;rw [h];push_cast;grind
theorem Nh:∀(p q:List Int) (i:Nat),cf (Oq p q) i=cf p i+cf q i
 | [],q,i=>by unfold Oq;rw [show cf [] i=0 from Zv (aZ _)];omega
 | a::p,[],i=>by rw [Zn1,show cf [] i=0 from Zv (aZ _)];omega
 | a::p,b::q,0=>rfl
 | a::p,b::q,i+1=>Nh p q i
theorem Ze(x:Rat)(c:Int):∀p:List Int,Zb (p.map λa=>c*a) x=(c:Rat)*Zb p x
 | []=>by show(0:Rat)=c*0;grind
 | a::p=>by have h:=Ze x c p;simp only [cH];unfold Zb;rw [h];push_cast;grind
theorem Xa(c:Int):∀(p:List Int) (i:Nat),cf (p.map λa=>c*a) i=c*cf p i
 | [],i=>by simp [cf]
 | a::p,0=>rfl
 | a::p,i+1=>Xa c p i
def lmul:List Int->List Int->List Int
 | [],_=>[]
 | c::p,q=>Oq (q.map λa=>c*a) (0::lmul p q)
theorem Zi(x:Rat):∀p q:List Int,Zb (lmul p q) x=Zb p x*Zb q x
 | [],q=>by show(0:Rat)=0*Zb q x;grind
 | c::p,q=>by have h:=Zi x p q;unfold lmul;rw [Yh,Ze];show(c:Rat)*Zb q x+(((0:Int):Rat)+x*Zb (lmul p q) x)=((c:Rat)+x*Zb p x)*Zb q x;rw [h];grind
theorem Iv:∀(p q:List Int) (i:Nat),cf (lmul p q) i=Zp (λk=>cf p k*cf q (i-k)) (i+1)
 | [],q,i=>by rw [show cf (lmul [] q) i=0 from Zv (aZ _)];exact(Kk λk _=>by rw [show cf [] k=0 from Zv (aZ _),dD]).symm
 | c::p,q,0=>by unfold lmul;rw [Nh,Xa,Ya,Hb];show c*cf q 0+0=0+c*cf q 0;omega
 | c::p,q,i+1=>by have h:=Iv p q i;unfold lmul;rw [Nh,Xa,Ox];show c*cf q (i+1)+cf (lmul p q) i=c*cf q (i+1)+_;rw [h];congr 1;refine Yf λk d=>?_;show cf p k*cf q (i-k)=cf p k*cf q (i+1-(k+1));rw [show i+1-(k+1)=i-k by omega]
theorem Ho (a:Int)(c:Int)(x:List Int)(s:List Int)(y:List Int)(z:List Int)(h:∀t,a*cf x t=(ps s*ps y).c t-c*cf z t)(q:Rat):(a:Rat)*Zb x q=Zb s q*Zb y q-(c:Rat)*Zb z q:=by
 have d:∀t,cf (Oq (x.map λb=>a*b) (z.map λb=>c*b)) t=cf (lmul s y) t:=λt=>by rw [Nh,Xa,Xa,Iv,h t,PS.mul_c];show Zp (λk=>cf s k*cf y (t-k)) (t+1)-c*cf z t+c*cf z t=_;omega
 have e:=Qq q _ _ d;rw [Yh,Ze,Ze,Zi]at e;grind
theorem Zvb{x:List Int}(F:Tr x)(r:Tr y)(h:y≠[])(N:y.length<=x.length):Rl3 s t (Zb x) (Zb y) (Zb (Pq x y)):=by
 have R:=aD.2 h;obtain⟨r1,r2,k,u,M⟩:=Zcl r h x.length x F O;have hs:=Zdw x.length F r h N O;have o:Tr (Zbj (Dl x.length x y)):=Qx;obtain⟨m,n,P,Q,D⟩:=Zbh o;rw [hs]at D;have I:0<Cm y^k:=nG (Zco r h);obtain⟨B,G,v⟩:=Zm6 s t u;have l:(0:Rat)<(m:Rat):=by exact_mod_cast P
 have d:(0:Rat)<(n:Rat):=by exact_mod_cast Q
 have j:(0:Rat)<((Cm y^k:Int):Rat):=by exact_mod_cast I
 refine⟨(n:Rat)*((Cm y^k:Int):Rat),(m:Rat),(n:Rat)*B,aV d j,l,aV d G,λq e g=>⟨(n:Rat)*Zb u q,?_,?_,?_⟩⟩
 .have:=aC (a:=(n:Rat)) (b:=Zb u q+B) O4 (by have:=v q e g;grind);grind
 .have:=aC (a:=(n:Rat)) (b:=B-Zb u q) O4 (by have:=v q e g;grind);grind
 .have H:=Ho (Cm y^k) (-1) x u y (Dl x.length x y) (λt=>by rw [M t];omega) q;have w:Zb ((Pq x y).map λb=>m*b) q=Zb ((Dl x.length x y).map λb=>(-n)*b) q:=Qq q _ _ λi=>by rw [Xa,Xa,D i,Hy,jM,nF]
  rw [Ze,Ze]at w;push_cast at H w ⊢;grind
theorem rl2_of{g:Rat->Rat}(h:Rl3 s t f g (Zb [])):Rl2 s t f g:=by obtain⟨m,n,Q,k,v,j,l⟩:=h;refine⟨m,Q,k,j,λx d e=>?_⟩;obtain⟨q,o,r,u⟩:=l x d e;refine⟨q,o,r,?_⟩;have:Zb [] x=0:=rfl;rw [this]at u;grind
theorem Zi1 (s:Rat)(t:Rat) : ∀(f:Nat) (a b:List Int),Tr a->Tr b->cok f a b->∃r,On f a b=a::r/\Rls s t (Zb a) (r.map Zb)/\(b=[]->r=[])/\(b≠[]->∃n,r=b::n):=λf=>by
 induction f with
 | zero=>
  intro a b j k h;have d:b=[]:=h;subst d;exact⟨[],rfl,aA,λ_=>rfl,λh=>absurd rfl h⟩
 | succ f B=>
  intro a b j k h;by_cases d:b=[]
  .subst d;exact⟨[],Fo _ _,aA,λ_=>rfl,λh=>absurd rfl h⟩
  .obtain⟨g,F,D,l,w,hs⟩:=Zhs h d;obtain rfl:f=g:=O;obtain⟨r,o,q,u,v⟩:=B b (Pq a b) k (Bv j) w;have e:=Zvb (s:=s) (t:=t) j k d l;refine⟨b::r,by rw [hs,o],?_,λh=>absurd h d,λ_=>⟨r,rfl⟩⟩;by_cases m:Pq a b=[]
   .rw [u m];rw [m]at e;exact rl2_of e
   .obtain⟨n,rfl⟩:=v m;exact⟨e,q⟩
theorem Znr{L M:Rat}(h:L<=M)(j:Lip s t L f):Lip s t M f:=λx y d e g=>by obtain⟨a,b⟩:=j x y d e g;have:=cT h (show 0<=y-x by grind);constructor<;>grind
theorem Zs1(s t:Rat):∀e:List (List Int),∃L:Rat,0<L/\∀g∈e.map Zb,Lip s t L g
 | []=>⟨1,O3,λg d=>by cases d⟩
 | p::e=>by
  obtain⟨L,k,h⟩:=Zs1 s t e;obtain⟨M,l,j⟩:=Gu s t p;refine⟨L+M,O4,λg d=>?_⟩;rw [cH]at d;rcases bO.1 d with rfl|d
  .exact Znr O4 j
  .exact Znr O4 (h g d)
theorem Zcj{f:Nat}(k:Tr a)(l:Tr b)(m:cok f a b)(d:s<=t)(n:0<δ)(j:∀x,s<=x->x<=t->Big δ x (Zb a)) :
  Bn ((On f a b).map Zb) s=Bn ((On f a b).map Zb) t:=by
 obtain⟨r,g,h,_,_⟩:=Zi1 s t f a b k l m;obtain⟨L,o,e⟩:=Zs1 s t (On f a b);rw [g]at e ⊢;exact Zuv o e n j h d
theorem Zr8{K x:Rat}(e:0<=K)(j:1<x):∀p:List Int,(∀c∈p,-K<=(c:Rat)/\(c:Rat)<=K)->-(K*(x^p.length-1))<=(x-1)*Zb p x/\(x-1)*Zb p x<=K*(x^p.length-1)
 | [],_=>by simp only [jS];show _<=(x-1)*0/\(x-1)*0<=_;constructor<;>grind
 | c::p,h=>by obtain⟨a,b⟩:=Zr8 e j p λd g=>h d (aT _ g);obtain⟨k,l⟩:=h c (bM ..);have m:=aC (a:=x-1) (b:=K-c) O4 O4;have n:=aC (a:=x-1) (b:=K+c) O4 O4;have o:=aC (a:=x) (b:=K*(x^p.length-1)-(x-1)*Zb p x) O4 O4;have q:=aC (a:=x) (b:=K*(x^p.length-1)+(x-1)*Zb p x) O4 O4;rw [dG,jZ];unfold Zb;clear h a b;generalize x^p.length=P at *;generalize Zb p x=R at *;generalize (c:Rat)=C at *;constructor<;>grind
theorem Zgh(x:Rat)(l:Int):∀p:List Int,Zb (p ++ [l]) x=Zb p x+(l:Rat)*x^p.length
 | []=>by show(l:Rat)+x*0=0+l*x^0;rw [lC];grind
 | c::p=>by have h:=Zgh x l p;rw [iF,dG,jZ];unfold Zb;rw [h];grind
theorem Zse{x:Rat}(d:1<=x):∀n:Nat,1<=x^n
 | 0=>by rw [lC];decide
 | n+1=>by have h:=Zse d n;rw [jZ];have:=aC (a:=x^n-1) (b:=x-1) O4 O4;grind
theorem Zx4{K:Rat}{l:Int}(d:0<=K)(e:1<x)(h:∀c∈p,-K<=(c:Rat)/\(c:Rat)<=K)(j:K+1<=(x-1)*(l:Rat)):1<=(x-1)*Zb (p ++ [l]) x:=by obtain⟨a,b⟩:=Zr8 d e p h;have g:=Zse (show 1<=x by grind) p.length;rw [Zgh];clear h b;generalize x^p.length=P at *;generalize Zb p x=R at *;generalize (l:Rat)=C at *;have:=aC (a:=(x-1)*C-K-1) (b:=P) O4 O4;grind
def alt:List Int->List Int
 | []=>[]
 | c::p=>c::(alt p).map λa=>-1*a
theorem Zmr:∀(l:List Int) (m:Nat),m<=l.foldl (λm c=>max m c.natAbs) m/\∀c∈l,c.natAbs<=l.foldl (λm c=>max m c.natAbs) m
 | [],m=>⟨aH _,λc d=>by cases d⟩
 | a::l,m=>by
  obtain⟨e,g⟩:=Zmr l (max m a.natAbs);refine⟨aB (Nat.le_max_left _ _) e,λc d=>?_⟩;rcases bO.1 d with rfl|d
  .exact aB (Nat.le_max_right _ _) e
  .exact g c d
theorem Zpq(h:xs≠[]):xs=xs.take (xs.length-1) ++ [cf xs (xs.length-1)]:=by have d:=aD.2 h;have:=Ql 0 xs (xs.length-1) O;rw [show xs.length-1+1=xs.length by omega,bN]at this;exact this
theorem beyond(h:xs≠[])(g:0<cf xs (xs.length-1))(H:((Cj xs:Int):Rat)<=x):1<x/\1<=(x-1)*Zb xs x:=by
 have v:∀c∈xs.take (xs.length-1),c.natAbs<=Dg xs:=(Zmr _ 0).2;have m:((Dg xs:Nat):Int)+1<=(Cj xs-1)*cf xs (xs.length-1):=by unfold Cj;have B:((cf xs (xs.length-1)).natAbs:Int)=cf xs (xs.length-1):=O;generalize cf xs (xs.length-1)=l at *;obtain⟨n,rfl⟩:=gE (iV g);have j:(Int.natAbs (n:Int))=n:=O;rw [j];have D:=Nat.lt_mul_div_succ (Dg xs) (show 0<n by omega);have k:((Dg xs/n:Nat):Int)+2-1=((Dg xs/n+1:Nat):Int):=O;rw [k,<-dM,aJ];omega
 have d:2<=Cj xs:=by unfold Cj;generalize Dg xs/(cf xs (xs.length-1)).natAbs=q;omega
 have o:(2:Rat)<=((Cj xs:Int):Rat):=by exact_mod_cast d
 have w:(0:Rat)<((cf xs (xs.length-1):Int):Rat):=by exact_mod_cast g
 have r:((Dg xs:Nat):Rat)+1<=(((Cj xs:Int):Rat)-1)*((cf xs (xs.length-1):Int):Rat):=by exact_mod_cast m
 have e:((Dg xs:Nat):Rat)+1<=(x-1)*((cf xs (xs.length-1):Int):Rat):=by have:=aC (a:=x-((Cj xs:Int):Rat)) (b:=((cf xs (xs.length-1):Int):Rat)) O4 O4;grind
 refine⟨O4,?_⟩;rw [Zpq h];refine Zx4 (K:=((Dg xs:Nat):Rat)) (by exact_mod_cast aZ _) O4 (λc u=>?_) e;have F:=v c u;constructor
 .have:-c<=((Dg xs:Nat):Int):=O;have G:-(c:Rat)<=((Dg xs:Nat):Rat):=by exact_mod_cast this
  grind
 .have:c<=((Dg xs:Nat):Int):=O;exact_mod_cast this
theorem Zyp(c:Int)(p:List Int)(X Y:Int)(h:p≠[]):pev (c::p) X Y=c*Y^p.length+X*pev p X Y:=by
 have d:=aD.2 h;unfold pev;rw [dG,Ox,<-Oi];congr 1
 .show c*(X^0*Y^(p.length+1-1-0))=_;rw [dE,eI,show p.length+1-1-0=p.length by omega]
 .refine Yf λi hi=>?_;show cf p i*(X^(i+1)*Y^(p.length+1-1-(i+1)))=X*(cf p i*(X^i*Y^(p.length-1-i)));rw [show p.length+1-1-(i+1)=p.length-1-i by omega,eR];grind
theorem Zsj{X Y:Int}(e:0<Y):∀p:List Int,((pev p X Y:Int):Rat)=Zb p ((X:Rat)/(Y:Rat))*(Y:Rat)^(p.length-1)
 | []=>by show(0:Rat)=0*_;grind
 | [c]=>by
  have:pev [c] X Y=c:=by unfold pev;show 0+c*(X^0*Y^0)=c;rw [dE,dE];omega
  rw [this];show(c:Rat)=(c+X/Y*0)*(Y:Rat)^0;rw [lC];grind
 | c::d::p=>by
  have h:=Zsj (X:=X) e (d::p);rw [Zyp c (d::p) X Y O7];have g:(Y:Rat)≠0:=by
    have:(0:Rat)<(Y:Rat):=by exact_mod_cast e
    grind
  push_cast;rw [h];show(c:Rat)*(Y:Rat)^(p.length+1)+X*(Zb (d::p) (X/Y)*(Y:Rat)^(p.length+1-1))=((c:Rat)+X/Y*Zb (d::p) (X/Y))*(Y:Rat)^(p.length+1+1-1);rw [show p.length+1-1=p.length by omega,show p.length+1+1-1=p.length+1 by omega,jZ];generalize Zb (d::p) (X/Y)=R;generalize (Y:Rat)^p.length=P;have:(X:Rat)/Y*Y=X:=O4;grind
theorem Zxm{z:Int}{r q:Rat}(j:0<q)(h:(z:Rat)=r*q):z.sign=Ix r:=by
 rcases(show r<0\/r=0\/0<r by grind)with d|d|d
 .rw [Ej d];have:=aV (a:=-r) (b:=q) O4 j;have e:(z:Rat)<0:=O4;have g:z<0:=by exact_mod_cast e
  exact eE g
 .subst d;have e:(z:Rat)=0:=O4;have g:z=0:=by exact_mod_cast e
  subst g;rfl
 .rw [Ei d];have:=aV d j;have e:(0:Rat)<z:=O4;have g:0<z:=by exact_mod_cast e
  exact eW g
theorem Zk9{X Y:Int}(d:0<Y)(p:List Int):fat X Y p=Ix (Zb p ((X:Rat)/(Y:Rat))):=by
 have:(0:Rat)<(Y:Rat):=by exact_mod_cast d
 exact Zxm (Rat.pow_pos this) (Zsj d p)
end Go.Sky

