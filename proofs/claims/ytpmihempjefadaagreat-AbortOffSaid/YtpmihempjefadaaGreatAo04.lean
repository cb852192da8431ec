/- Rules, arithmetic and contracts: part 5. No conditions but those that each theorem names. -/
import Derived.Test.YtpmihempjefadaaGreatAo03
import Derived.Scope
set_option linter.all false
namespace Go.Sky
variable{p x y a b xs:List Int}{i:Nat}{s:Int}{ls:List (SL×List Int)}
theorem Zez (P:Nat->Prop) : ∀n,P n->∃m,P m/\∀k,k<m->¬P k:=by
 intro n
 induction n using Nat.strongRecOn with
 | _ n f=>
  intro h;by_cases e:∃k,k<n/\P k
  .obtain⟨k,d,c⟩:=e;exact f k d c
  .exact⟨n,h,λk d c=>e ⟨k,d,c⟩⟩
theorem Ybq{n:Nat}(h:2<=n):∃p,2<=p/\p∣n/\∀d,2<=d->d∣n->p<=d:=by
 obtain⟨p,⟨f,g⟩,j⟩:=Zez (λd=>2<=d/\d∣n) n ⟨h,Nat.dvd_refl n⟩;exact⟨p,f,g,λd k e=>by
  rcases aX d p with c|c
  .exact absurd ⟨k,e⟩ (j d c)
  .exact c⟩
theorem Zsu{n p:Nat}(q:2<=p)(j:p∣n)(k:∀d,2<=d->d∣n->p<=d)(u:0<n){x y:Int}(h:(p:Int)∣x*y):(p:Int)∣x\/(p:Int)∣y:=by
 by_cases g:(p:Int)∣x
 .exact .inl g
 .right;have m:Nat.gcd p x.natAbs=1:=by
   have f:=mB p x.natAbs;have o:0<Nat.gcd p x.natAbs:=Nat.gcd_pos_of_pos_left _ O;rcases aX (Nat.gcd p x.natAbs) 2 with c|c
   .omega
   .have r:=k _ c (Nat.dvd_trans f j);have t:=lY O f;exfalso;refine g (fW.1 ?_);rw [eI];have l:Nat.gcd p x.natAbs=p:=O;rw [<-l];exact nZ _ _
  have e:=fW.2 h;rw [eI,cH]at e;refine fW.1 ?_;rw [eI];exact(show Nat.Coprime p x.natAbs from m).dvd_of_dvd_mul_left e
theorem gauss{g:List Int}(hg:Xl g=1):∀(n:Nat) (k:Int) (s:List Int),k.natAbs=n->k≠0->(∀t,k*cf a t=(ps s*ps g).c t)->∃q:List Int,∀t,cf a t=(ps q*ps g).c t:=by
 intro n
 induction n using Nat.strongRecOn with
 | _ n ih=>
  intro k s o S h;rcases aX n 2 with P|P
  .have G:k*k=1:=by have:k=1\/k=-1:=O;rcases this with e|e<;>subst e<;>rfl
   refine⟨Yk s k,λt=>?_⟩;have e:(ps (Yk s k)*ps g).c t=k*(ps s*ps g).c t:=by rw [PS.mul_c,PS.mul_c,<-Mh];exact Yz λi _=>by rw [Nl,Nl,Nl,Qo];grind
   rw [e,<-h,<-eZ,G,fG]
  .obtain⟨p,V,W,pm⟩:=Ybq P;have I:∀{x y:Int},(p:Int)∣x*y->(p:Int)∣x\/(p:Int)∣y:=Zsu V W pm O;have r:(p:Int)∣k:=fW.1 (by rw [eI,o];exact W);have w:∃j,¬(p:Int)∣cf g j:=bJ λu=>by have:(p:Int)∣Xl g:=Dj λi=>bJ λhy=>u ⟨i,hy⟩;rw [hg]at this;have:=nI O3 this;omega
   obtain⟨j0,D⟩:=w;obtain⟨j,hj,F⟩:=Zez (λj=>¬(p:Int)∣cf g j) j0 D;have hs:∀i,(p:Int)∣cf s i:=λi0=>bJ λz=>by
    obtain⟨i,hi,B⟩:=Zez (λi=>¬(p:Int)∣cf s i) i0 z;have Q:=h (i+j);rw [PS.mul_c]at Q;have N:∀m,m<=i+j+1->(p:Int)∣Yb (λk=>if k=i then 0 else(ps s).c k*(ps g).c (i+j-k)) m:=λm=>by
     induction m with
     | zero=>intro _;exact jJ _
     | succ m M=>
      intro hm;rw [Yl];refine Int.dvd_add (M O) ?_;split
      .exact jJ _
      .rename_i a0;rw [Nl,Nl];rcases aX m i with v|v
       .exact fQ (bJ λu=>B m v u) (iZ _ _)
       .exact fQ (bJ λu=>F (i+j-m) O u) (Int.dvd_mul_left _ _)
    have Y:Yb (λk=>(ps s).c k*(ps g).c (i+j-k)) (i+j+1)=Yb (λk=>if k=i then 0 else(ps s).c k*(ps g).c (i+j-k)) (i+j+1)+cf s i*cf g j:=by
     have Z:Yb (λk=>(ps s).c k*(ps g).c (i+j-k)) (i+j+1)=Yb (λk=>(if k=i then 0 else(ps s).c k*(ps g).c (i+j-k))+(if k=i then(ps s).c k*(ps g).c (i+j-k)else 0)) (i+j+1):=
      Yz λk _=>by split<;>omega
     rw [Z,De,Bk i (f:=λk=>if k=i then(ps s).c k*(ps g).c (i+j-k)else 0) O (λq _ hq=>aD hq),aF rfl,Nl,Nl,show i+j-i=j by omega]
    rw [Y]at Q;have v:(p:Int)∣cf s i*cf g j:=by have l:cf s i*cf g j=k*cf a (i+j)-Yb (λk=>if k=i then 0 else(ps s).c k*(ps g).c (i+j-k)) (i+j+1):=O;rw [l];exact Int.dvd_sub (fQ r (iZ _ _)) (N _ (aI _))
    rcases I v with l|l
    .exact hi l
    .exact hj l
   obtain⟨d,c⟩:=r;have H:(p:Int)≠0:=O;refine ih d.natAbs ?_ d (s.map (· / (p:Int))) rfl ?_ ?_
   .rw [<-o,c,cH,eI];have:0<d.natAbs:=by
     rcases aV d.natAbs with R|R
     .rw [show d=0 by omega]at c;simp at c;exact absurd c S
     .exact R
    have:=aP d.natAbs V;omega
   .intro e;rw [e]at c;simp at c;exact S c
   .intro t;refine gU H ?_;rw [<-eZ,<-c,h,PS.mul_c,PS.mul_c,<-Mh];refine Yz λi _=>?_;rw [Nl,Nl,Nl,Zc6 O8,<-eZ,kN (hs i)]
def ev1:List Int->Int->Int
 | [],_=>0
 | c::r,t=>c+t*ev1 r t
def sdv:List Int->Int->List Int
 | [],_=>[]
 | [_],_=>[]
 | _::c::r,t=>ev1 (c::r) t::sdv (c::r) t
theorem Zk1:∀(u:List Int) (t:Int),(sdv u t).length=u.length-1
 | [],_=>rfl
 | [_],_=>rfl
 | _::c::r,t=>by unfold sdv;rw [dM,Zk1 (c::r) t];simp
theorem Zzc:∀(u:List Int) (t x:Int),ev1 u x=ev1 u t+(x-t)*ev1 (sdv u t) x
 | [],t,x=>by simp [ev1,sdv]
 | [c],t,x=>by simp [ev1,sdv]
 | a::c::r,t,x=>by have d:=Zzc (c::r) t x;show a+x*ev1 (c::r) x=a+t*ev1 (c::r) t+(x-t)*(ev1 (c::r) t+x*ev1 (sdv (c::r) t) x);rw [d];generalize ev1 (c::r) t=A;generalize ev1 (sdv (c::r) t) x=B;grind
theorem Dy(a:Int)(u:List Int)(i:Nat):cf (a::u) i=if i=0 then a else cf u (i-1):=by
 cases i with
 | zero=>rfl
 | succ i=>simp [cf]
def Zc5(i:Nat):cf [] i=0:=Yo (bI _)
theorem Yig:∀(u:List Int) (t:Int) (i:Nat),cf u (i+1)=cf (sdv u t) i-t*cf (sdv u t) (i+1)
 | [],t,i=>by unfold sdv;simp [Zc5]
 | [c],t,i=>by unfold sdv;rw [Dy,aD O];simp [Zc5]
 | a::c::r,t,i=>by
  unfold sdv;rw [Dy,aD O,fN];cases i with
  | zero=>
   rw [Dy,aF rfl,Dy,aF rfl,Dy,aD O];show c=ev1 (c::r) t-t*cf (sdv (c::r) t) 0
   match r with
   | []=>simp [ev1,sdv,cf]
   | d::r'=>unfold sdv;rw [Dy,aF rfl];show c=(c+t*ev1 (d::r') t)-_;omega
  | succ i=>
   rw [Dy _ (sdv _ _) (i+1),aD O,Dy _ (sdv _ _),aD O,fN,fN];exact Yig (c::r) t i
theorem Yns:∀(u:List Int) (t:Int),cf u 0=ev1 u t-t*cf (sdv u t) 0
 | [],t=>by simp [ev1,sdv,cf]
 | [c],t=>by simp [ev1,sdv,cf]
 | a::c::r,t=>by unfold sdv;rw [Dy,aF rfl,Dy,aF rfl];show a=(a+t*ev1 (c::r) t)-t*ev1 (c::r) t;omega
theorem Zrv:∀(n:Nat) (u:List Int) (R:List Int),u.length=n->(∃i,cf u i≠0)->R.Nodup->(∀t∈R,ev1 u t=0)->R.length<n
 | 0,u,R,e,c,_,_=>by obtain⟨i,hi⟩:=c;rw [aG e,Zc5]at hi;exact absurd rfl hi
 | n+1,u,[],e,c,_,_=>O8
 | n+1,u,t::R,e,c,hd,hR=>by
  have g:=hR t (cE ..);have m:=Zk1 u t;have k:∃i,cf (sdv u t) i≠0:=bJ λd=>by
   have f:∀i,cf (sdv u t) i=0:=λi=>bJ λl=>d ⟨i,l⟩;obtain⟨i,hi⟩:=c;cases i with
   | zero=>rw [Yns u t,g,f]at hi;simp at hi
   | succ i=>rw [Yig u t,f,f]at hi;simp at hi
  have:=Zrv n (sdv u t) R O k (kS.1 hd).2 λx d=>by
   have h:=hR x (bM _ d);rw [Zzc u t x,g,lB]at h;rcases fA.1 h with j|j
   .exfalso;have:x=t:=O;subst this;exact(kS.1 hd).1 d
   .exact j
  simp;omega
def kk:Nat->Nat
 | 0=>0
 | d+1=>30*kk d+1
def pts:List Int:=[0,1,2,3,4,5,6,7,8,9,10,11,12,13,14]
def Psim(a b:List Int):Prop:=∃m n:Int,0<m/\0<n/\∀i,m*cf a i=n*cf b i
def Psim.refl(a:List Int):Psim a a:=⟨1,1,O3,O3,λ_=>rfl⟩
def Psim.symm : Psim a b->Psim b a:=λ⟨m,n,c,d,h⟩=>⟨n,m,d,c,λi=>(h i).symm⟩
theorem Psim.trans{c:List Int} : Psim a b->Psim b c->Psim a c:=λ⟨m,n,d,e,h⟩ ⟨u,v,f,g,k⟩=>
 ⟨m*u,n*v,gL d f,gL e g,λi=>by have j:=h i;have l:=k i;grind⟩
def Psim.sim : Psim a b->Sim a b:=λ⟨m,n,c,d,h⟩=>⟨m,n,O,O,h⟩
theorem Zeq(h:Tr p):Psim (Yi p) p:=by
 by_cases c:p=[]
 .subst c;exact Psim.refl _
 .exact⟨Xl p,1,by have:=Mu p;have:=Za0 h c;omega,O3,λi=>by rw [fG,dV];exact Fi p i⟩
theorem Zkd(f:Tr a)(g:Tr b)(h:Psim a b):Yi a=Yi b:=by
 by_cases c:a=[]
 .rw [h.sim.nil g c,c]
 .have j:b≠[]:=λe=>c (h.sim.symm.nil f e);obtain⟨m,n,w,B,e⟩:=(Zeq f).trans (h.trans (Zeq g).symm);have q:=Xh f;have v:=Xh g;have hs:Sim (Yi a) (Yi b):=⟨m,n,O,O,e⟩;have d:Yi a≠[]:=λe=>c (aG (by rw [<-Zy,e];rfl));rcases Zri q v d (Hs f c) (Hs g j) hs with k|k
  .exact k
  .exfalso;have o:=q.mem d;have l:=e ((Yi a).length-1);have r:=k ((Yi a).length-1);rw [r]at l o;generalize cf (Yi b) ((Yi a).length-1)=z at l o;rw [kL]at l;have t:(m+n)*z=0:=by rw [lT];omega
   rcases fA.1 t with u|u<;>omega
def Zbn(y:List Int):Int:=if cf y (y.length-1)<0 then-cf y (y.length-1)else cf y (y.length-1)
def rb(x y:List Int):Int:=if cf y (y.length-1)<0 then-cf x (x.length-1)else cf x (x.length-1)
def Zch(x y:List Int):List Int:=Zbo (Yk x (Zbn y)) (shm y (rb x y) (x.length-y.length) y.length)
def Zav:Nat->List Int->List Int->List Int
 | 0,x,_=>x
 | f+1,x,y=>if x.length<y.length then x else Zav f (Zch x y) y
theorem Zpd(e:Tr x)(f:0<y.length)(d:y.length<=x.length):(Zch x y).length<x.length:=by
 have h:=Zbh (p:=Zch x y) (n:=x.length-1) λi hi=>by
  unfold Zch;rw [Zby,Qo,Yif];by_cases c:i=x.length-1
  .subst c;rw [aF O,show x.length-1-(x.length-y.length)=y.length-1 by omega];unfold Zbn rb;split
   .grind
   .grind
  .rw [Yo (p:=x) O,aD O];omega
 rw [show tzl (Zch x y)=Zch x y from Zai Zxc]at h;omega
theorem Yec(x:List Int)(t:Nat):Zbn y*cf x t=(ps (mono (x.length-y.length) (rb x y))*ps y).c t+cf (Zch x y) t:=by
 unfold Zch;rw [Zkr,Zby,Qo,Yif,Nl];by_cases c:x.length-y.length<=t
 .rw [aF c];by_cases d:t<x.length-y.length+y.length
  .rw [aF ⟨c,d⟩,dV (cf x t)];omega
  .rw [aD O,Yo (p:=y) O,dV (cf x t)];omega
 .rw [aD c,aD O,dV (cf x t)];omega
theorem Zfo(d:Tr y)(c:y≠[]):0<Zbn y:=by have:=d.mem c;unfold Zbn;split<;>omega
theorem Zfk{y:List Int}(m:Tr y)(d:y≠[]):∀(f:Nat) (x:List Int),Tr x->x.length<y.length+f->Tr (Zav f x y)/\(Zav f x y).length<y.length/\∃(k:Nat) (s:List Int),∀t,Zbn y^k*cf x t=(ps s*ps y).c t+cf (Zav f x y) t
 | 0,x,c,e=>⟨c,e,0,[],λt=>by rw [Kd (λt=>Yo (bI _)),dD];unfold Zav;omega⟩
 | f+1,x,c,e=>by
  unfold Zav;by_cases h:x.length<y.length
  .rw [aF h];exact⟨c,h,0,[],λt=>by rw [Kd (λt=>Yo (bI _)),dD];omega⟩
  .rw [aD h];have n:=Zpd c (aH.2 d) O;obtain⟨g,j,k,s,hs⟩:=Zfk m d f (Zch x y) Zxc O;refine⟨g,j,k+1,Zbo (Yk s 1) (Yk (mono (x.length-y.length) (rb x y)) (-(Zbn y^k))),λt=>?_⟩;have o:=hs t;have l:=Yec x (y:=y) t;rw [Zkq,eF];generalize Zbn y^k=K at *;generalize Zbn y=a at *;generalize (ps (mono (x.length-y.length) (rb x y))*ps y).c t=M at *;generalize (ps s*ps y).c t=S at *;generalize cf (Zch x y) t=X at *;generalize cf (Zav f (Zch x y) y) t=Z at *;have:K*a*cf x t=K*(a*cf x t):=O4;rw [this,l];grind
theorem Zr4(l:Int)(h:l≠0):∀n:Nat,(l<0/\n%2=1->l^n<0)/\(¬(l<0/\n%2=1)->0<l^n)
 | 0=>⟨λh=>O,λ_=>by rw [dD];decide⟩
 | n+1=>by
  have e:=Zr4 l h n;rw [eF];by_cases d:l<0
  .by_cases f:n%2=1
   .have c:=e.1 ⟨d,f⟩;exact⟨λh=>O,λ_=>Int.mul_pos_of_neg_of_neg c d⟩
   .have c:=e.2 O;exact⟨λ_=>Int.mul_neg_of_pos_of_neg c d,λh=>O⟩
  .have c:=e.2 O;exact⟨λh=>O,λ_=>gL c O⟩
def Zeu(p:List Int):List Int:=Yk p (-1)
theorem Dw(p:List Int)(i:Nat):cf (Zeu p) i=- cf p i:=by unfold Zeu;rw [Qo];omega
theorem Zvc(h:Tr p):Yi (Zeu p)=Zeu (Yi p):=by
 have e:Xl (Zeu p)=Xl p:=by
  have c:Xl (Zeu p)∣Xl p:=Dj λi=>by have h:=Lr (Zeu p) i;rw [Dw]at h;exact nB.1 h
  have d:Xl p∣Xl (Zeu p):=Dj λi=>by rw [Dw];exact nB.2 (Lr p i)
  exact Int.dvd_antisymm (Mu _) (Mu _) c d
 refine(Xh Nq).ext Nq λi=>?_;show cf (Yi (Zeu p)) i=cf (Zeu (Yi p)) i;rw [Dw,Za8,Dw,e,Za8];exact Int.neg_ediv_of_dvd (Lr p i)
theorem Zg0 (f:Nat)(u:Tr x)(n:Tr y)(g:y≠[])(D:y.length<=x.length)(B:x.length<y.length+f):Yi (Zeu (Zav f x y))=Nk x y:=by
 obtain⟨P,N,k,s,hs⟩:=Zfk n g f x u B;have G:=aH.2 g;obtain⟨H,h⟩:=Zg4 (p:=x) G D _ (aI _);have F:∀t,cf (Qx x y (x.length-y.length+1)) t=cf (Qk x y) t:=λt=>by unfold Qk;rw [aD O,Ik]
 have lp:=Pr x g;have j:=Ip y u;have c:=n.mem g;have o:0<Zbn y^k:=jT (Zfo n g);have d:=Zr4 (cf y (y.length-1)) c (x.length-y.length+1);generalize v:cf y (y.length-1)^(x.length-y.length+1)=L at h d;have w:L≠0:=by rw [<-v];exact Ke c _
 generalize Zbn y^k=K at hs o;have l:∀t,(ps (Zbo (Yk H K) (Yk s L))*ps y).c t=cf (Zbo (Yk (Zav f x y) L) (Yk (Qk x y) K)) t:=λt=>by rw [Zkq,Zby,Qo,Qo,<-F t];have q:=hs t;have I:=h t;generalize cf (Qx x y (x.length-y.length+1)) t=A at *;grind
 have z:=Ylr n g l λt M=>by rw [Zby,Qo,Qo,Yo (p:=Zav f x y) O,Yo (p:=Qk x y) O];omega
 have e:∀t,L*cf (Zav f x y) t=K*cf (Qk x y) t:=λt=>by have q:=l t;rw [Kd z,Zby,Qo,Qo]at q;grind
 unfold Nk;by_cases m:cf y (y.length-1)<0/\(x.length-y.length+1)%2=1
 .rw [aF m];have r:=d.1 m;exact Zkd Nq j ⟨-L,K,O,o,λt=>by rw [Dw,<-e];grind⟩
 .rw [aD m];have r:=d.2 m;rw [show Yk (Yi (Qk x y)) (-1)=Zeu (Yi (Qk x y))from rfl,<-Zvc j];exact Zkd Nq Nq ⟨L,K,r,o,λt=>by rw [Dw,Dw,kL,e,kL]⟩
theorem Zcb(c:Tr x):Tr (Nk x y):=by
 unfold Nk;split
 .exact Xh (Ip _ c)
 .exact Nq
theorem Zbq (y:List Int)(c:Tr x):(Nk x y).length=(Qk x y).length:=by
 unfold Nk;have h:Tr (Yi (Qk x y)):=Xh (Ip _ c);split
 .exact Zy _
 .rw [<-Zy (Qk x y)];exact((Zu0 (Yi (Qk x y)) (by decide:(-1:Int)≠0)).len h Nq).symm
theorem Zuw{n:Nat}(h:Sz n p):Sz n (Xj p):=λi=>by
 unfold Xj;rw [Bx];split
 .rw [iH];exact Cb h i
 .exact Cb h i
theorem Zkn(h:Tr p)(c:p≠[]):Xj p≠[]:=λe=>c (aG (by rw [<-Pp h,e];rfl))
theorem Bs{g:List Int}(h:Tr g)(c:g≠[]):0<cf (Hz g) ((Hz g).length-1):=by have d:=h.mem c;rw [Zbr h,Bx];have:g.length≠0:=λe=>c (aG e);split<;>omega
theorem Zdm(h:Tr p)(c:p≠[]):Xl (Xj p)=1:=by unfold Xj;rw [Zh3];exact Hs h c
theorem Zvi(h:Tr p)(c:Xl p=1)(d:0<cf p (p.length-1)):Xj p=p:=by unfold Xj;rw [Zfq c];unfold Hz;rw [aD O]
theorem Nf (F:Nat)(v:Tr xs)(w:xs≠[])(D:eok F (gA (Xj xs) (Xb (Xj xs))) (gB (Xj xs) (Xb (Xj xs)))) :
  pdv (Xj xs) (Nz F (Xj xs) (Xb (Xj xs)))/\Tr (sqf F xs)/\sqf F xs≠[]/\Xj xs=Qr (sqf F xs) (Nz F (Xj xs) (Xb (Xj xs)))/\Nz F (Xj xs) (Xb (Xj xs))≠[]/\Xj (sqf F xs)=sqf F xs:=by
 have hs:Tr (Xj xs):=Nw (Xh v);have j:Tr (Xb (Xj xs)):=Mg hs;have n:=Zkn v w;have l:=(Zdl hs j D).1;have o:=Zfe F hs j;have d:Nz F (Xj xs) (Xb (Xj xs))≠[]:=λe=>n ((e▸l).zero hs);have M:=Zkg hs j d;obtain⟨k,s,N,h⟩:=l;obtain⟨q,P⟩:=gauss M _ k s rfl N h;have c:Xj xs=Qr (tzl q) (Nz F (Xj xs) (Xb (Xj xs))):=hs.ext Qp λi=>by rw [He,P,Yem]
 obtain⟨I,R⟩:=Zx6 (Qq q) o d;have g:sqf F xs=tzl q:=by unfold sqf;have r:=R;rw [<-c]at r;exact r
 rw [<-c]at I;have f:tzl q≠[]:=λe=>n (by rw [c,e,Dh]);refine⟨I,by rw [g];exact Qq q,by rw [g];exact f,by rw [g];exact c,d,?_⟩;rw [g];refine Zvi (Qq q) ?_ ?_
 .have z:=Zdm v w;have t:Xl (tzl q)∣Xl (Xj xs):=Dj λi=>by
   rw [c,He,PS.mul_c];have G:∀m,Xl (tzl q)∣Yb (λk=>(ps (tzl q)).c k*(ps (Nz F (Xj xs) (Xb (Xj xs)))).c (i-k)) m:=λm=>by
    induction m with
    | zero=>exact jJ _
    | succ m Q=>rw [Yl];exact Int.dvd_add Q (fQ (Lr (tzl q) m) (iZ _ _))
   exact G _
  rw [z]at t;have B:=Mu (tzl q);have H:=nI O3 t;have u:Xl (tzl q)≠0:=Za0 (Qq q) f;omega
 .have S:=aH.2 f;have V:=aH.2 d;have z:0<cf (Xj xs) ((Xj xs).length-1):=Bs (Xh v) (λe=>w (aG (by rw [<-Zy,e];rfl)));have t:0<cf (Nz F (Xj xs) (Xb (Xj xs))) ((Nz F (Xj xs) (Xb (Xj xs))).length-1):=Bs (Zta F (Zjp hs j) (Zjo hs j)) (λe=>d (by unfold Nz;rw [e];rfl));have B:=Ma (Qq q) o f d;rw [<-c]at B;have H:cf (Xj xs) ((Xj xs).length-1)=cf (tzl q) ((tzl q).length-1)*cf (Nz F (Xj xs) (Xb (Xj xs))) ((Nz F (Xj xs) (Xb (Xj xs))).length-1):=by rw [B,c,He,<-c,show(tzl q).length+(Nz F (Xj xs) (Xb (Xj xs))).length-1-1=((tzl q).length-1)+((Nz F (Xj xs) (Xb (Xj xs))).length-1) by omega];exact Bu _ (λi hi=>Yo O) (λi hi=>Yo O)
  rw [H]at z;rcases jL 0 (cf (tzl q) ((tzl q).length-1))with u|u
  .exact u
  .exfalso;have:=gQ u (eK t);omega
def Nt(p:List Int):(Xb p).length=p.length-1:=Yu _ _
theorem Zv9{n:Nat}(c:Sz n p)(g:p.length<=25)(i:Nat):bl (cf p (i+1)*((i:Int)+1)).natAbs<=n+5:=by
 rcases aX (i+1) p.length with h|h
 .have d:=Xq (cf p (i+1)) ((i:Int)+1);have e:=c (i+1);have f:bl ((i:Int)+1).natAbs<=5:=(Qt 5 _).2 O;omega
 .rw [Yo h];simp [Ko]
theorem Zgm(p:List Int)(i:Nat):cf (Xb p) i=cf p (i+1)*((i:Int)+1):=by
 unfold Xb;rw [Ly];split
 .rfl
 .rw [Yo O,dC]
theorem Zas{n:Nat}(d:Sz n p)(c:p.length<=25):Sz (n+5) (Xb p):=λi=>by rw [Zgm];exact Zv9 d c i
theorem Zfa(h:Vp p)(c:∀i,i<p.length->bl (cf p (i+1)*((i:Int)+1)).natAbs<=65536):Vp (Xb p):=by
 refine⟨λi=>?_,Mg h.tr,by rw [Nt];have:=h.len;omega⟩;rw [Zgm];by_cases hi:i<p.length
 .exact c i hi
 .rw [Yo O];simp [Ko]
def sf_t(h:xs.length=0):Value.bool (decide (Zau xs))= .bool true:=aL Value.bool (aJ (.inl h))
theorem sf_i{n:Int}(h:xs.length≠0)(d:n=(((xs.length+2)*(xs.length+2)*(Qz xs+16):Nat):Int)):Value.bool (decide (Zau xs))= .bool (decide (n<=65536)):=aL Value.bool (cF.2 (by
 subst d;show(xs.length=0\/(xs.length+2)*(xs.length+2)*(Qz xs+16)<=65536)↔_;constructor
 .intro c;rcases c with c|c
  .exact absurd c h
  .exact lC.2 c
 .intro c;exact .inr (lC.1 c)))
theorem Yaw(h:(Qk x y).length=0):Nk x y=[]:=by have c:Qk x y=[]:=aG h;unfold Nk;rw [c];split<;>rfl
theorem Yki(e:y.length<=x.length)(c:(cf y (y.length-1)).sign<0)(d:((x.length:Int)-(y.length:Int)+1)%2=1):Nk x y=Yi (Qk x y):=by unfold Nk;rw [aF ⟨(sign_neg_iff _).1 c,O⟩]
theorem Zxh(c:¬(cf y (y.length-1)).sign<0):Nk x y=Yk (Yi (Qk x y)) (-1):=by unfold Nk;rw [aD (λh=>c ((sign_neg_iff _).2 h.1))]
theorem Zxg(d:y.length<=x.length)(c:¬((x.length:Int)-(y.length:Int)+1)%2=1):Nk x y=Yk (Yi (Qk x y)) (-1):=by unfold Nk;rw [aD (λh=>c O)]
theorem Zur{F:Nat}(k:Vp xs)(l:xs≠[])(h:Ykh F xs):Vp (sqf F xs):=by
 obtain⟨_,_,_,d,c⟩:=h;have j:=Ycu k;unfold sqf Hc;split
 .exact⟨Sz.nil _,Tr.nil,O8⟩
 .rename_i e;rcases c with c|c
  .exact absurd c e
  .have f:=(Zdx d).2 c.1;refine⟨?_,Qq _,?_⟩
   .rw [<-Zgd];exact(Zxe f c.2.1).tzl
   .have g:=Hj (Zhl (Xj xs) (Nz F (Xj xs) (Xb (Xj xs))) ((Xj xs).length-(Nz F (Xj xs) (Xb (Xj xs))).length+1));rw [Zgd,Zcp]at g;have:=j.len;have:=(Zdx d).1;omega
theorem Zkz{F:Nat}(g:Vp xs)(h:Ykh F xs):(sqf F xs).length<=xs.length:=by
 obtain⟨_,_,_,d,c⟩:=h;have j:=Pp g.tr;unfold sqf Hc;split
 .exact bI _
 .rename_i e;rcases c with c|c
  .exact absurd c e
  .have f:=Hj (Zhl (Xj xs) (Nz F (Xj xs) (Xb (Xj xs))) ((Xj xs).length-(Nz F (Xj xs) (Xb (Xj xs))).length+1));rw [Zgd,Zcp]at f;have:=(Zdx d).1;have:=c.1;omega
theorem Zz5{L:List Int}{n l:Int}(hi:i<L.length)(h:(n,l)=(L.take i).foldl Me (0,0))(hs:L.getD i 0=s)(c:s=0):(n,l)=(L.take (i+1)).foldl Me (0,0):=by rw [Ps 0 L i hi,Zey,<-h,hs];unfold Me;rw [aF c]
theorem Zz4{L:List Int}{n l:Int}(hi:i<L.length)(h:(n,l)=(L.take i).foldl Me (0,0))(hs:L.getD i 0=s)(c:s≠0)(d:s=-l):(n+1,s)=(L.take (i+1)).foldl Me (0,0):=by rw [Ps 0 L i hi,Zey,<-h,hs];unfold Me;rw [aD c];dsimp only;rw [aF d]
theorem Zz3{L:List Int}{n l:Int}(hi:i<L.length)(h:(n,l)=(L.take i).foldl Me (0,0))(hs:L.getD i 0=s)(c:s≠0)(d:¬s=-l):(n,s)=(L.take (i+1)).foldl Me (0,0):=by rw [Ps 0 L i hi,Zey,<-h,hs];unfold Me;rw [aD c];dsimp only;rw [aD d]
theorem Ynr{L:List Int}{n l:Int}(hi:L.length<=i)(h:(n,l)=(L.take i).foldl Me (0,0)):n=chg L:=by rw [cC hi]at h;unfold chg;rw [<-h]
theorem Yd2{z:Int}:-1<=z.sign/\z.sign<=1:=by
 rcases kB z 0 with h|h|h
 .rw [fS h];omega
 .subst h;simp
 .rw [gJ h];omega
theorem Yfq{α:Type}{d:α}{f:α->Int}{ls:List α}(h:i<ls.length):(ls.map f).getD i 0=f (ls.getD i d):=by simp [aE,h]
def sgx(ls:List (SL×List Int))(f:List Int->Int):List Int:=ls.map λz=>f z.2
def Zrl(ls:List (SL×List Int))(f:List Int->Int)(h:i<ls.length):(sgx ls f).getD i 0=f (ls.getD i ((none,0,0),[])).2:=Yfq h
def Zk0(ls:List (SL×List Int))(f:List Int->Int):(sgx ls f).length=ls.length:=aW ..
def fr(p:List Int):Int:=(cf p (p.length-1)).sign
def fl(p:List Int):Int:=if p.length%2=0 then-(cf p (p.length-1)).sign else(cf p (p.length-1)).sign
def fat(x y:Int)(p:List Int):Int:=(pev p x y).sign
def fat_r(x y:Int)(p:List Int):-1<=fat x y p/\fat x y p<=1:=Yd2
theorem Zmf:∀(f:Nat) {x y:List Int},Vp x->Vp y->cok f x y->∀p∈Mn f x y,Vp p
 | 0,x,y,d,_,_,p,c=>by rw [bZ.1 c];exact d
 | f+1,x,y,d,e,h,p,c=>by
  unfold Mn at c;split at c
  .rw [bZ.1 c];exact d
  .rcases h with h|h
   .contradiction
   .rcases aZ.1 c with rfl|c
    .exact d
    .exact Zmf f e (Zq3 d h.1) h.2.2 p c
theorem vp_chn{F:Nat}(e:Vp xs)(f:xs≠[])(j:Aj F xs):∀p∈chn F xs,Vp p:=by obtain⟨c,g,h⟩:=j;have d:=Zur e f c;exact Zmf F d (Im (Zfa d (λi hi=>g i (by have:=Zkz e c;omega)))) h
def cnt(F:Nat)(xs:List Int)(x y:Int):Int:=chg ((chn F xs).map (fat x y))
def sright(F:Nat)(xs:List Int):Int:=chg ((chn F xs).map fr)
def sleft(F:Nat)(xs:List Int):Int:=chg ((chn F xs).map fl)
theorem Zxk{C:List (List Int)}(h:ls.map Prod.snd=C)(f:List Int->Int):sgx ls f=C.map f:=by rw [<-h,iC];rfl
def Mv{C:List (List Int)}{p:List Int->Prop}(h:ls.map Prod.snd=C)(c:∀q∈C,p q):∀z∈ls,p z.2:=λz d=>c _ (h▸List.mem_map_of_mem d)
theorem Zhm(L:List Int):0<=chg L/\chg L<=L.length:=by
 unfold chg;suffices h:∀(l:List Int) (s:Int×Int),s.1<=(l.foldl Me s).1/\(l.foldl Me s).1<=s.1+l.length by have:=h L (0,0);simpa using this
 intro l
 induction l with
 | nil=>intro s;simp
 | cons x l c=>
  intro s;have d:=c (Me s x);have e:=chg1_n s x;simp only [gV,dM];omega
theorem Zeg:∀(f:Nat) (x y:List Int),(Mn f x y).length<=f+1
 | 0,x,y=>aI _
 | f+1,x,y=>by
  unfold Mn;split
  .simp
  .have:=Zeg f y (Nk x y);simp;omega
def sm(xs:List Int)(i:Nat):Nat:=(xs.take i).foldl (λm c=>max m c.natAbs) 0
def Zap{x y:Int}(h:¬La x y):Ho x y=x/Mp x y/\Iq x y=y/Mp x y/\Yei x y=0:=⟨aD h,aD h,aD h⟩
theorem nr_bl{x y:Int}(h:¬La x y):bl (Ho x y).natAbs<=65536/\bl (Iq x y).natAbs<=65536:=by obtain⟨c,d,_⟩:=Zap h;rw [c,d];unfold La at h;omega
theorem Zo2{x y:Int}(h:¬La x y)(c:0<y):0<Iq x y:=by rw [(Zap h).2.1];exact Ybo c
abbrev R2:=Int×Int
def Pk(a b:R2):R2:=(Ho (Ho (a.1*b.2+b.1*a.2) (a.2*b.2)*1) (Iq (a.1*b.2+b.1*a.2) (a.2*b.2)*2),Iq (Ho (a.1*b.2+b.1*a.2) (a.2*b.2)*1) (Iq (a.1*b.2+b.1*a.2) (a.2*b.2)*2))
def Zef(a b:R2):Prop:=¬La (a.1*b.2+b.1*a.2) (a.2*b.2)/\¬La (Ho (a.1*b.2+b.1*a.2) (a.2*b.2)*1) (Iq (a.1*b.2+b.1*a.2) (a.2*b.2)*2)
instance (a b:R2):Decidable (Zef a b):=by unfold Zef;infer_instance
def Ybl{a b:R2}(h:Zef a b):Yei (Ho (a.1*b.2+b.1*a.2) (a.2*b.2)*1) (Iq (a.1*b.2+b.1*a.2) (a.2*b.2)*2)=0:=(Zap h.2).2.2
def isp(c:R2->Int)(e:Int):Nat->R2->R2->Int->Int->Nat->List (R2×R2)
 | 0,_,_,_,_,_=>[]
 | f+1,a,b,fr,g,d=>if fr=g then []else if fr-g=1/\e<=(d:Int)then [(a,b)]else isp c e f a (Pk a b) fr (c (Pk a b)) (d+1) ++ isp c e f (Pk a b) b (c (Pk a b)) g (d+1)
def Zyz(c:R2->Int)(g:R2->Prop)(e:Int):Nat->R2->R2->Int->Int->Nat->Prop
 | 0,_,_,_,_,_=>False
 | f+1,a,b,fr,h,d=>fr=h\/(fr-h=1/\e<=(d:Int))\/(d<1000/\Zef a b/\g (Pk a b)/\Zyz c g e f a (Pk a b) fr (c (Pk a b)) (d+1)/\Zyz c g e f (Pk a b) b (c (Pk a b)) h (d+1))
instance ispDec (c:R2->Int) (e:R2->Prop) [DecidablePred e] (g:Int):∀f a b fr h d,Decidable (Zyz c e g f a b fr h d)
 | 0,_,_,_,_,_=>inferInstanceAs (Decidable False)
 | f+1,a,b,fr,h,d=>@instDecidableOr _ _ _ (@instDecidableOr _ _ _ (@instDecidableAnd _ _ _ (@instDecidableAnd _ _ _ (@instDecidableAnd _ _ _ (@instDecidableAnd _ _ (ispDec c e g f a (Pk a b) fr (c (Pk a b)) (d+1)) (ispDec c e g f (Pk a b) b (c (Pk a b)) h (d+1)))))))
def okQ(z:R2):Prop:=bl z.1.natAbs<=65536/\bl z.2.natAbs<=65536/\0<z.2
def evok(ls:List (SL×List Int))(m:R2):Prop:=∀z∈ls,¬Kg z.2 m.1 m.2
def cvx(ls:List (SL×List Int))(m:R2):Int:=chg (sgx ls (fat m.1 m.2))
def cvc(F:Nat)(xs:List Int)(m:R2):Int:=cnt F xs m.1 m.2
def evc(F:Nat)(xs:List Int)(m:R2):Prop:=∀p∈chn F xs,¬Kg p m.1 m.2
def slow(a:R2):R2:=(Ho a.1 a.2,Iq a.1 a.2)
def sisol(F:Nat)(xs:List Int)(f:Nat)(a b:R2)(c:Int):List (R2×R2):=isp (cvc F xs) c f (slow a) (slow b) (cvc F xs a) (cvc F xs b) 0
def isOK(F:Nat)(xs:List Int)(f:Nat)(a b:R2)(c:Int):Prop:=Aj F xs/\evc F xs a/\evc F xs b/\¬La a.1 a.2/\¬La b.1 b.2/\Zyz (cvc F xs) (evc F xs) c f (slow a) (slow b) (cvc F xs a) (cvc F xs b) 0/\(sisol F xs f a b c).length<=1000000
open Go.RowKit Below
variable {P:Program} {N:Nat} {sc:Nat->Prop} {env env':Qi} {H H':Hp} {Q Q':Exit->Act->World->Prop} {M:Nat->Prop}
def CalM(P:Program)(f:FuncId)(args:Array Value)(pre:List Pc){G:Type}(φ:G->Prop)(val:G->Value)(d c:G->Pc):Prop:=
 ∀w,(∀p∈pre,p.holds w)->Calls P f args w λe h=>∃g,e= .returned (val g)/\φ g/\Below w.heap.size w h/\(d g).holds h/\(∀b,(d g).fp b->w.heap.size<=b)/\
  (c g).holds h/\(c g).own=false/\(∀b,(c g).fp b->w.heap.size<=b\/∃q∈pre,q.fp b)/\∀b,(d g).fp b->(c g).fp b->False
def FPostM(P:Program)(fn:Func)(w0:World)(pre:List Pc){G:Type}(φ:G->Prop)(val:G->Value)(d c:G->Pc):Exit->Act->World->Prop:=
 bodyPost P fn λe f=>∃g,e= .returned (val g)/\φ g/\Below w0.heap.size w0 f/\(d g).holds f/\(∀b,(d g).fp b->w0.heap.size<=b)/\
  (c g).holds f/\(c g).own=false/\(∀b,(c g).fp b->w0.heap.size<=b\/∃q∈pre,q.fp b)/\∀b,(d g).fp b->(c g).fp b->False
theorem Zen{β:Type}{q:β->Pc}{zs ys:List β}(i j n:Nat)(hi:lk H i=some (Hf q zs))(l:lk H j=some (Hf q ys))(d:Nat.beq i 0=false)(e:Nat.beq j 0=false) :
  ∀a w,Sat N sc env H a w->Sat N sc env ((n,Hf q (zs ++ ys))::H) a w:=
 Zu4 i j n hi l d e rfl rfl (λw g k y f=>by
  rcases cY.1 f with h|h
  .exact g y h
  .exact k y h) (λb c=>by
  obtain⟨y,f,c⟩:=c;rcases cY.1 f with h|h
  .exact .inl ⟨y,h,c⟩
  .exact .inr ⟨y,h,c⟩) rfl
abbrev qD (z:SL×Nat):Pc:=d9p (Xp z.1) z.2
abbrev JE:=(R2×R2)×(SL×SL×SL×SL)
abbrev encJ (y:JE):Value:= .agg #[.bool (decide (y.1.1.1<0)),Xp y.2.1,.bool (decide (y.1.1.2<0)),Xp y.2.2.1,.bool (decide (y.1.2.1<0)),Xp y.2.2.2.1,.bool (decide (y.1.2.2<0)),Xp y.2.2.2.2]
abbrev qJ (y:JE):Pc:=Hf qD [(y.2.1,y.1.1.1.natAbs),(y.2.2.1,y.1.1.2.natAbs),(y.2.2.2.1,y.1.2.1.natAbs),(y.2.2.2.2,y.1.2.2.natAbs)]
abbrev J0:JE:=(((0,0),(0,0)),((none,0,0),(none,0,0),(none,0,0),(none,0,0)))
end Go.Sky
namespace Go.Sky
variable{M M0:Nat->Prop}{o:Oper}{x y:Operand}{t tb:TypeId}{cs:Array Value}{v:Value}{vs:List Value}{zs:List (SL×List Int)}{r:List Pc}{z:SL×List Int}
variable {P:Program} {N:Nat} {sc:Nat->Prop} {env env':Qi} {H H':Hp} {Q Q':Exit->Act->World->Prop}
theorem Zrq(w:World)(g:Nat)(cs:Array Value)(t:TypeId){fr:Nat×Nat}(a:w.heap[g]? = some (.cells cs t fr)):w.setRow g cs=w:=by
 obtain⟨b,c⟩:=aO.1 a;have h:(w.setRow g cs).heap=w.heap:=by
  apply Array.ext_getElem?;intro i;by_cases h:g=i
  .subst h;rw [setRow_heap w g cs cs t fr a,a]
  .unfold World.setRow;dsimp only;rw [Array.getElem?_modify,aD h]
 have e:w.setRow g cs={ w with heap:=(w.setRow g cs).heap }:=rfl;rw [e,h]
theorem Zmo (i:Nat)     {b j k:Nat}    (s:o.op= .store t x y) (p:o.dst=none)
  (D:ev env x=some (.pointer (some ⟨b,j,none⟩))) (F:ev env y=some v) (m:lk H i=some (Nb b tb cs)) (B:v.cells=vs.toArray) (q:∀w,(sizeOf t).run P w= .ok k w) (d:vs.length=k)
  (c:Nat.ble (j+vs.length) cs.size=true) (l:∀u∈vs,u.oneCell'=true) (e:Gr cs j vs=cs) :
  T P N sc M o env H (G:=Unit) (λ_=>True) (λ_=>env) (λ_=>H):=λa w hs K Q n=>by
 have g:w.heap[b]? = some (.cells cs tb (0,0)):=hs.hold i _ m;have f:=run_storeCells_at P b j tb vs 0 cs w g (by simpa using iV c) l;simp only [fR]at f;have h:(execOp a.eval o).run P w= .ok .skip (w.setRow b (Gr cs j vs)):=by simp [execOp,s,hs.ev D,hs.ev F,Instr.storeAt,Instr.sureAddr,storeVar,B,q,d,f,Gr]
 rw [e,Zrq w b cs tb g]at h;unfold Oper.wp;rw [h];show K (a.put o.dst _) _;rw [p];exact n () _ _ aA (hs.put_none undef) (Chg.refl _ _)
def t_stp1     {i b j:Nat}   {w0:World}  (m:o.op= .store t x y) (k:o.dst=none)
  (p:ev env x=some (.pointer (some ⟨b,j,none⟩))) (q:ev env y=some v) (g:lk H i=some (box b tb cs)) (d:i≠0) (l:∀w,(sizeOf t).run P w= .ok 1 w) (c:Nat.ble (j+1) cs.size=true) (e:One N sc env H v)
  (f:lk H 0=some (Zt w0 M0)) (n:∀b,w0.heap.size<=b->sc b) (h:M b) :
  T P N sc M o env H (G:=Unit) (λ_=>True) (λ_=>env) (λ_=>(i,box b tb (Gr cs j [v]))::H):=λa w hs=>
 t_stp (cs':=#[]) (vs:=[v]) m k p q g d (Zo (e a w hs)) l rfl c ⟨e,aA⟩ f n h a w hs
def Yep{al:Bool}(i:Nat)(hi:lk H i=some (Qj 1 Ob (λy:SL×List Int=>Yt 2 wv (Xp y.1) y.2) v zs))(a:Nat.beq i 0=false)(b:z∈zs)(h:PreOk H al r):PreOk H al (Yt 2 wv (Xp z.1) z.2::r):=Yeo (q:=λy:SL×List Int=>Yt 2 wv (Xp y.1) y.2) (z:=z) i hi a b h
end Go.Sky
namespace Go.Sky
variable{v:Int}{o:Oper}{x y:Operand}{t tb:TypeId}{b k i:Nat}{kd:IntKind}{M M0:Nat->Prop}{w0:World}{cs:Array Value}
variable {P:Program} {N:Nat} {sc:Nat->Prop} {env env':Qi} {H H':Hp} {Q Q':Exit->Act->World->Prop}
def Ae(l:List Int):Array Value:=(l.map (Value.int .i64)).toArray
theorem Yao(l:List Int):(Ae l).size=l.length:=by simp [Ae]
theorem Ycs{l:List Int}{j:Nat}(h:j<l.length):(Ae l)[j]? = some (.int .i64 (l.getD j 0)):=by simp [Ae,aM h,aE]
theorem Ycr{l:List Int}{j:Nat}(h:j<l.length):Gr (Ae l) j [.int .i64 v]=Ae (l.set j v):=by unfold Gr Ae;congr 1;rw [jV,aF h,eE,cQ,nJ,List.map_drop];simp
theorem Gt (i:Nat)   {e:TypeId} {d c:Nat}  {m:Int} (j:o.op= .indexAddr t x y) (n:ev env x=some (.pointer (some ⟨b,d,none⟩))) (p:ev env y=some (.int kd m))
  (l:P.underlying t=some (.array c e)) (h:∀w,(sizeOf e).run P w= .ok k w) (f:m=(i:Int):=by omega) (g:i<c:=by omega):Ms P N sc o env H (.pointer (some ⟨b,d+i*k,none⟩)):=λa w hs=>by
 subst f;simp [execOp,j,hs.ev n,hs.ev p,Instr.indexAt,Instr.sureAddr,asIntOf,run_underlying l,h,g,Px]
theorem Yb9 (i:Nat){j:Nat}{l:List Int}(d:o.op= .load t x)(f:ev env x=some (.pointer (some ⟨b,j,none⟩)))(a:lk H i=some (box b tb (Ae l)))(e:∀w,(isAgg t).run P w= .ok false w)(c:j<l.length:=by omega) :
  Ms P N sc o env H (.int .i64 (l.getD j 0)):=Zlo _ d f a e (Ycs c)
theorem d_lwa{l:List Int}(e:o.op= .load t x)(h:ev env x=some (.pointer (some ⟨b,0,none⟩)))(a:lk H i=some (box b tb (Ae l)))(f:∀w,(isAgg t).run P w= .ok true w)(c:∀w,(sizeOf t).run P w= .ok k w)(d:l.length=k) :
  Ms P N sc o env H (.agg (Ae l)):=
 Zzs (l.map (Value.int .i64)) e h a f c (by simpa using d) (λn u g=>by rw [bR];simpa [Ae]using g)
theorem Zuv (i:Nat)     {j:Nat} {l:List Int}    (m:o.op= .store t x y) (g:o.dst=none)
  (q:ev env x=some (.pointer (some ⟨b,j,none⟩))) (r:ev env y=some (.int .i64 v)) (e:lk H i=some (box b tb (Ae l))) (h:∀w,(sizeOf t).run P w= .ok 1 w) 
  (d:lk H 0=some (Zt w0 M0)) (p:∀b,w0.heap.size<=b->sc b) (f:M b) (a:i≠0:=by decide) (c:j<l.length:=by omega) :
  T P N sc M o env H (G:=Unit) (λ_=>True) (λ_=>env) (λ_=>(i,box b tb (Ae (l.set j v)))::H):=by
 rw [<-Ycr c];exact Zhu [.int .i64 v] m g q r e a rfl h rfl (by rw [Yao];exact c) (λu n=>Zl (by rw [bZ.1 n];rfl)) rfl d p f
theorem Yc4 (i:Nat)       {l:List Int}   (j:o.op= .store t x y) (f:o.dst=none)
  (p:ev env x=some (.pointer (some ⟨b,0,none⟩))) (q:ev env y=some (.agg (Ae l))) (d:lk H i=some (box b tb cs)) (g:∀w,(sizeOf t).run P w= .ok k w) (h:l.length=k) (r:cs.size=k)
  (c:lk H 0=some (Zt w0 M0)) (n:∀b,w0.heap.size<=b->sc b) (e:M b) (a:i≠0:=by decide) :
  T P N sc M o env H (G:=Unit) (λ_=>True) (λ_=>env) (λ_=>(i,box b tb (Ae l))::H):=
 Zhu (l.map (Value.int .i64)) j f p q d a rfl g (by simpa using h) O9 (λu m=>Zl (by obtain⟨z,_,rfl⟩:=eV.1 m;rfl)) (by unfold Gr Ae;rw [eX,iS,bR,kD O9,iT]) c n e
def Py:Nat->Nat->Nat
 | _,0=>1
 | 0,_+1=>0
 | n+1,k+1=>Py n k+Py n (k+1)
theorem Zwi:∀n k,Py n k<=2^n
 | 0,0=>O3
 | _+1,0=>dZ _
 | 0,_+1=>bI _
 | n+1,k+1=>by have a:=Zwi n k;have c:=Zwi n (k+1);show Py n k+Py n (k+1)<=2^(n+1);rw [cJ];omega
theorem Zls:∀n k,n<k->Py n k=0
 | _,0,h=>absurd h (cK _)
 | 0,_+1,_=>rfl
 | n+1,k+1,h=>by show Py n k+Py n (k+1)=0;rw [Zls n k O,Zls n (k+1) O]
structure Tab (l:List Int) (n k:Nat):Prop where
 len:l.length=625
 eq:∀r c,r<25->c<25->l.getD (r*25+c) 0=if r<n\/(r=n/\c<k)then(Py r c:Int)else 0
theorem Zhh{l:List Int}{j:Nat}(hi:i<l.length:=by omega):(l.set i v).getD j 0=if j=i then v else l.getD j 0:=by
 rw [aE,aE,oA];by_cases h:i=j
 .subst h;rw [aF rfl,aF hi,aF rfl];rfl
 .rw [aD h,aD (λe=>h e.symm)]
theorem Tab.start:Tab (List.replicate 625 0) 0 0:=⟨aT,λr c d a=>by rw [aD O,aE];rw [iG];split<;>rfl⟩
theorem Tab.step{l:List Int}{n:Nat}(h:Tab l n k)(w:n<25)(u:k<25)(s:v=(Py n k:Int)){j:Nat}(m:j=n*25+k):Tab (l.set j v) n (k+1):=by
 subst m;have p:=h.len;refine⟨by rw [bX];exact p,λr c q f=>?_⟩;rw [Zhh,h.eq r c q f];by_cases e:r*25+c=n*25+k
 .have a:r=n:=O;have d:c=k:=O;subst a;subst d;rw [aF rfl,aF O];exact s
 .rw [aD e];have:¬(r=n/\c=k):=λ⟨a,d⟩=>e (by rw [a,d]);by_cases g:r<n\/(r=n/\c<k)
  .rw [aF g,aF O]
  .rw [aD g,aD O]
theorem Tab.row{l:List Int}{n:Nat}(h:Tab l n k)(f:n<k):Tab l (n+1) 0:=⟨h.len,λr c e d=>by
 rw [h.eq r c e d];by_cases g:r<n\/(r=n/\c<k)
 .rw [aF g,aF O]
 .rw [aD g];by_cases a:r<n+1\/(r=n+1/\c<0)
  .rw [aF a,Zls r c O];rfl
  .rw [aD a]⟩
theorem Tab.get{l:List Int}{n r c:Nat}(h:Tab l n k)(f:r<25)(d:c<25)(a:r<n\/(r=n/\c<k)){j:Nat}(e:j=r*25+c):l.getD j 0=(Py r c:Int):=by rw [e,h.eq r c f d,aF a]
theorem Zz2 (n:Nat)(k:Nat)(c:1<=n:=by omega)(a:1<=k:=by omega):Py n k=Py (n-1) (k-1)+Py (n-1) k:=by obtain⟨m,rfl⟩:∃m,n=m+1:=⟨n-1,O⟩;obtain⟨j,rfl⟩:∃j,k=j+1:=⟨k-1,O⟩;rfl
end Go.Sky
namespace Go.Sky
variable{k b:Nat}{t tb:TypeId}{parts:List (Nat×Value)}{cells:Array Value}{o:Oper}{x y:Operand}{kd:IntKind}{v0 v1 v2:Value}{M M0:Nat->Prop}
structure Tb (l:List Int) (n k:Nat):Prop where
 len:l.length=36
 eq:∀r c,r<6->c<6->l.getD (r*6+c) 0=if r<n\/(r=n/\c<k)then(Py r c:Int)else 0
theorem Tb.start:Tb (List.replicate 36 0) 0 0:=⟨aT,λr c d a=>by rw [aD O,aE];rw [iG];split<;>rfl⟩
theorem Tb.step{l:List Int}{n:Nat}{v:Int}(h:Tb l n k)(u:n<6)(s:k<6)(q:v=(Py n k:Int)){j:Nat}(i:j=n*6+k):Tb (l.set j v) n (k+1):=by
 subst i;have m:=h.len;refine⟨by rw [bX];exact m,λr c p f=>?_⟩;rw [Zhh,h.eq r c p f];by_cases e:r*6+c=n*6+k
 .have a:r=n:=O;have d:c=k:=O;subst a;subst d;rw [aF rfl,aF O];exact q
 .rw [aD e];have:¬(r=n/\c=k):=λ⟨a,d⟩=>e (by rw [a,d]);by_cases g:r<n\/(r=n/\c<k)
  .rw [aF g,aF O]
  .rw [aD g,aD O]
theorem Tb.row{l:List Int}{n:Nat}(h:Tb l n k)(f:n<k):Tb l (n+1) 0:=⟨h.len,λr c e d=>by
 rw [h.eq r c e d];by_cases g:r<n\/(r=n/\c<k)
 .rw [aF g,aF O]
 .rw [aD g];by_cases a:r<n+1\/(r=n+1/\c<0)
  .rw [aF a,Zls r c O];rfl
  .rw [aD a]⟩
theorem Tb.get{l:List Int}{n r c:Nat}(h:Tb l n k)(f:r<6)(d:c<6)(a:r<n\/(r=n/\c<k)){j:Nat}(e:j=r*6+c):l.getD j 0=(Py r c:Int):=by rw [e,h.eq r c f d,aF a]
theorem Zwj (k:Nat){n:Nat}(h:n<=5:=by omega):Py n k<=32:=aB (Zwi n k) (aB (dK O3 h) O3)
theorem Zd1 {P:Program} {e:TypeId} {n:Nat} {c a:TypeInfo} {z:Value}   (hi:P.info? t=some c) (g:P.underlying t=some (.array n e)) (h:c.zero=some z) (d:P.info? e=some a)
  (f:Instr.fill (λi=>some (i*a.size,a.size)) z.cells parts=some cells):P.built t parts=some cells:=by
 unfold Program.built;simp only [hi,g,h,d,f]
variable {P:Program} {N:Nat} {sc:Nat->Prop} {env env':Qi} {H H':Hp} {Q Q':Exit->Act->World->Prop}
def Ye{α:Type _}(i:Nat)(a b c:α):α:=match i with
 | 0=>a
 | 1=>b
 | _=>c
theorem Bm{α:Type _}{p:α->Prop}{i:Nat}{a b c:α}(d:p a)(e:p b)(f:p c):p (Ye i a b c):=by unfold Ye;split<;>assumption
theorem Znn (i:Nat)   {e:TypeId}   {m:Int}  (j:o.op= .index t x y) (n:ev env x=some (.agg #[v0,v1,v2])) (p:ev env y=some (.int kd m))
  (l:P.underlying t=some (.array 3 e)) (g:∀w,(sizeOf e).run P w= .ok 1 w) (f:∀w,(isAgg e).run P w= .ok false w) (c:m=(i:Int)) (h:i<3:=by omega):Ms P N sc o env H (Ye i v0 v1 v2):=λa w hs=>by
 subst c;have d:i=0\/i=1\/i=2:=O;rcases d with rfl|rfl|rfl<;>simp [execOp,j,hs.ev n,hs.ev p,Instr.index,asIntOf,run_underlying l,g,f,asAgg,part,Ye]
theorem Zg3 {α:Type}  {enc:α->Value}  {f g j:List α} (i c d e n:Nat) (l:lk H c=some (Yt k enc v0 f)) (m:lk H d=some (Yt k enc v1 g)) (p:lk H e=some (Yt k enc v2 j))
  (q:Nat.beq c 0=false) (r:Nat.beq d 0=false) (s:Nat.beq e 0=false):∀a w,Sat N sc env H a w->Sat N sc env ((n,Yt k enc (Ye i v0 v1 v2) (Ye i f g j))::H) a w:=by
 match i with
 | 0=>exact Zcf c n l q rfl (λw h=>h) (λb h=>h) rfl
 | 1=>exact Zcf d n m r rfl (λw h=>h) (λb h=>h) rfl
 | i+2=>exact Zcf e n p s rfl (λw h=>h) (λb h=>h) rfl
theorem Ztv (i:Nat)(j:Nat){α:Type}{enc:α->Value}{l:List α}(d:α)(n:o.op= .load t x)(s:ev env x=some (.pointer (some ⟨b,0+j*k,none⟩)))(g:lk H i=some (box b tb (cellsOf enc l).toArray))(e:Enc P t k enc)(m:j<l.length) :
  Ms P N sc o env H (enc (l.getD j d)):=λa w hs=>by
 have hi:l[j]? = some (l.getD j d):=by simp [List.getD,aM m]
 have h:=e.load (l.getD j d) w ⟨b,0+j*k,none⟩ (λq u p=>by have f:=Ga e.cells l j _ hi q u p;rw [Px,hs.boxc g];simpa using f)
 have c:=hs.ev s;generalize enc (l.getD j d)=r at h ⊢;generalize (⟨b,0+j*k,none⟩:Addr)=v at h c;simp [execOp,n,c,Instr.loadAt,Instr.sureAddr,h]
theorem t_sbe (i:Nat)(j:Nat)(k:Nat) {α:Type}      {enc:α->Value} {l:List α} (z:α) {w0:World}  (q:o.op= .store t x y) (n:o.dst=none)
  (v:ev env x=some (.pointer (some ⟨b,0+j*k,none⟩))) (w:ev env y=some (enc z)) (h:lk H i=some (box b tb (cellsOf enc l).toArray)) (a:Enc P t k enc) (f:j<l.length)
  (g:lk H 0=some (Zt w0 M0)) (s:∀b,w0.heap.size<=b->sc b) (m:M b) (c:i≠0:=by decide) :
  T P N sc M o env H (G:=Unit) (λ_=>True) (λ_=>env) (λ_=>(i,box b tb (cellsOf enc (l.set j z)).toArray)::H):=by
 have p:=Xe a.cells l;have e:(enc z).cells.toList.length=k:=by simp [a.cells]
 have d:(j+1)*k<=l.length*k:=aP _ f;rw [eN]at d;refine Zhu ((enc z).cells.toList) q n v w h c rfl a.size e (by rw [e,iY,p];omega) (λu r=>Zl (a.one z u r)) ?_ g s m;unfold Gr;rw [bR,e,Zc8 a.cells l j z f]
end Go.Sky
namespace Go.Sky
variable{o:Oper}{x:Operand}{t tb te:TypeId}{M M0:Nat->Prop}{cs:Array Value}
variable {P:Program} {N:Nat} {sc:Nat->Prop} {env env':Qi} {H H':Hp} {Q Q':Exit->Act->World->Prop}
theorem d_lea{α:Type}{i b k q:Nat}{enc:α->Value}{l:List α}(f:o.op= .load t x)(j:ev env x=some (.pointer (some ⟨b,0,none⟩)))(a:lk H i=some (box b tb (cellsOf enc l).toArray))(c:Enc P te q enc)(g:∀w,(isAgg t).run P w= .ok true w)(d:∀w,(sizeOf t).run P w= .ok k w)(e:l.length*q=k) :
  Ms P N sc o env H (.agg (cellsOf enc l).toArray):=
 Zzs (cellsOf enc l) f j a g d (by rw [Xe c.cells l];exact e) (λn u h=>by rw [bR];simpa using h)
theorem t_sea {α:Type}   {y:Operand}  {i b k q:Nat}  {enc:α->Value} {l:List α} {w0:World}  (r:o.op= .store t x y) (m:o.dst=none)
  (v:ev env x=some (.pointer (some ⟨b,0,none⟩))) (B:ev env y=some (.agg (cellsOf enc l).toArray)) (g:lk H i=some (box b tb cs)) (d:Enc P te q enc) (n:∀w,(sizeOf t).run P w= .ok k w) (p:l.length*q=k) (j:cs.size=k)
  (f:lk H 0=some (Zt w0 M0)) (s:∀b,w0.heap.size<=b->sc b) (h:M b) (a:i≠0:=by decide) :
  T P N sc M o env H (G:=Unit) (λ_=>True) (λ_=>env) (λ_=>(i,box b tb (cellsOf enc l).toArray)::H):=by
 have c:(cellsOf enc l).length=k:=by rw [Xe d.cells l];exact p
 refine Zhu (cellsOf enc l) r m v B g a rfl n c (by rw [c,bR,j];exact aI _) (λu e=>?_) (by unfold Gr;rw [eX,iS,bR,kD O9,iT]) f s h
 unfold cellsOf at e;obtain⟨z,_,D⟩:=jH.1 e;exact Zl (d.one z u D)
end Go.Sky
namespace Go.Sky
variable {P:Program} {N:Nat} {sc:Nat->Prop} {env env':Qi} {H H':Hp} {Q Q':Exit->Act->World->Prop}
abbrev Ze:=(Int×Int×Int)×(SL×List Int)×(SL×List Int)×(SL×List Int)
abbrev Of (g:Ze):Value:= .agg #[.int .i64 g.1.1,.int .i64 g.1.2.1,.int .i64 g.1.2.2,Xp g.2.1.1,Xp g.2.2.1.1,Xp g.2.2.2.1]
abbrev qC (z:SL×List Int):Pc:=Yt 1 Xf (Xp z.1) z.2
abbrev qG (g:Ze):Pc:=Hf qC [g.2.1,g.2.2.1,g.2.2.2]
abbrev G0:Ze:=((0,0,0),((none,0,0),[]),((none,0,0),[]),((none,0,0),[]))
def Gn (g:Ze)(z:SL×List Int){v:Value}{ps:List Ze}(j n:Nat)(i:lk H j=some (Qj 6 Of qG v ps))(c:Nat.beq j 0=false)(d:g∈ps)(e:z∈[g.2.1,g.2.2.1,g.2.2.2]):∀a w,Sat N sc env H a w->Sat N sc env ((n,Yt 1 Xf (Xp z.1) z.2)::H) a w:=
 Zcf j n i c rfl (λw h=>h.2 g d z e) (λb f=> .inr ⟨g,d,z,e,f⟩) rfl
end Go.Sky
namespace Go.Sky
variable{x c y z a b:List Int}{i:Nat}{over ov:Int}{s η ε t δ:Rat}{f:Rat->Rat}{fs:List (Rat->Rat)}
theorem Db{x:Int}(h:Mw x):bl x.natAbs<=64:=(Qt 64 _).2 (by obtain⟨d,e⟩:=h;omega)
theorem in_bl{x:Int}(h:bl x.natAbs<=63):Mw x:=by have:=(Qt 63 x.natAbs).1 h;exact⟨O,O⟩
theorem bl_pw{n:Int}(h:bl n.natAbs<=100)(hi:i<=10):bl (n^i).natAbs<=1000:=by
 rcases aV i with d|d
 .subst d;rw [dD];decide
 .exact aB (Be n h i d) (by have:=aP 100 hi;omega)
def Ar:List Int->Int
 | []=>1
 | x::r=>x*Ar r
def zc6_eq:(Value.agg (List.replicate 36 (Value.int .i64 0)).toArray).cells=Ae (List.replicate 36 0):=rfl
def Zqu:(Value.agg (List.replicate 36 (Value.int .i64 0)).toArray).cells.size=36:=rfl
def w60(n j k:Nat):Int:=60/(Py n k:Int)*(Py j k:Int)
def ctl(c:List Int)(j m:Nat):Int:=Yb (λk=>c.getD k 0*w60 (c.length-1) j k) m
def Yh5(c:List Int)(j m:Nat):ctl c j (m+1)=ctl c j m+c.getD m 0*w60 (c.length-1) j m:=rfl
theorem Zqb:∀{n k:Nat},k<=n->0<Py n k
 | n,0,_=>by cases n<;>exact Nat.one_pos
 | n+1,k+1,h=>by have:=Zqb (n:=n) (k:=k) O;show 0<Py n k+Py n (k+1);omega
theorem Yct (n:Nat)(k:Nat){j:Nat}(g:j<=5):0<=w60 n j k/\w60 n j k<=1920:=by have h:=Zwj k g;unfold w60;have d:(0:Int)<=60/(Py n k:Int):=kR O3 O;have e:(60:Int)/(Py n k:Int)<=60:=mA _ O3;refine⟨dS d O,?_⟩;have:=lG e (show(Py j k:Int)<=32 by omega) O O3;omega
theorem Zwp (k:Nat){n j:Nat}(d:j<=5):bl (w60 n j k).natAbs<=11:=by have:=Yct n k d;exact(Qt 11 _).2 O
theorem Gz(h:∀x∈c,Mw x)(k:Nat):Mw (c.getD k 0):=by
 by_cases d:k<c.length
 .exact h _ (Zi d)
 .rw [aE,bQ O];exact⟨O3,O3⟩
theorem Yip(h:∀x∈c,Mw x){j m:Nat}(d:j<=5)(e:m<=31):bl (ctl c j m).natAbs<=80:=
 Zjb (K:=75) (λk _=>by have g:=Db (Gz h k);have l:=Zwp k (n:=c.length-1) d;have:=Xq (c.getD k 0) (w60 (c.length-1) j k);omega) e
def Zho(c:List Int)(over:Int):Bool:=(List.range c.length).all λj=>decide ((ctl c j (j+1)).natAbs<=62914560*over)
theorem Zqj(h:∀j,j<c.length->((ctl c j (j+1)).natAbs:Int)<=62914560*over):Zho c over=true:=by unfold Zho;rw [bF];intro j d;exact aJ (h j (dA.1 d))
theorem bndB_f{j:Nat}(d:j<c.length)(h:¬((ctl c j (j+1)).natAbs:Int)<=62914560*over):Zho c over=false:=by
 cases hb:Zho c over with
 | false=>rfl
 | true=>
  unfold Zho at hb;rw [bF]at hb;exact absurd (cD (hb j (dA.2 d))) h
theorem wc_abs{s:Int}:(#[.bool false,.string (Xo s.natAbs)]:Array Value)=wc (s.natAbs:Int):=by have:decide (((s.natAbs:Nat):Int)<0)=false:=aK O;rw [show wc (s.natAbs:Int)=#[.bool (decide (((s.natAbs:Nat):Int)<0)),.string (Xo ((s.natAbs:Nat):Int).natAbs)]from rfl,this,eI]
theorem sgp(z:Int):0<z.sign↔0<z:=by simpa using Zbj z
def axB(c:List Int)(over:Int):Bool:=decide (1<=c.length) && decide (c.length<=6) && !(decide (1<c.length) && decide (c.getD (c.length-1) 0=0)) && Zho c over
def Ln(g:Int):List Int->Int
 | []=>g
 | x::r=>Ln (Int.gcd g x) r
def Ee:∀(a b:List Int) (g:Int),Ln g (a ++ b)=Ln (Ln g a) b
 | [],_,_=>rfl
 | x::a,b,g=>Ee a b _
theorem Zhi{l:List Int}{g:Int}(h:i<l.length):Ln g (l.take (i+1))=(Int.gcd (Ln g (l.take i)) (l.getD i 0):Int):=by rw [Ps 0 _ _ h,Ee];rfl
theorem Zgo:∀{l:List Int} {g:Int} {m:Nat},(∀x∈l,bl x.natAbs<=m)->bl g.natAbs<=m->bl (Ln g l).natAbs<=m
 | [],_,_,_,h=>h
 | x::l,g,m,h,hg=>Zgo (l:=l) (λy d=>h y (bM _ d)) (aB (Zql g x) (by have:=h x (cE ..);omega))
abbrev Cs:=List Int×List Int×List Int
def Zut(fr d ov:Int):Bool:=decide (0<=fr) && decide (fr<d) && decide (d<=3600000) && decide (1<=ov) && decide (ov<=4294967296)
def Zal(fr d ov:Int)(x y z:List Int):Bool:=Zut fr d ov && axB x ov && axB y ov && axB z ov && decide (Ln ov (x ++ y ++ z)=1)
def Kw(i:Nat)(x y z:List Int):List Int:=match i with
 | 0=>[]
 | 1=>x
 | 2=>x ++ y
 | _=>x ++ y ++ z
theorem Zct(x y z:List Int)(h:i<3):Kw (i+1) x y z=Kw i x y z ++ Ye i x y z:=by
 match i,h with
 | 0,_=>rfl
 | 1,_=>rfl
 | 2,_=>rfl
theorem Zj2 (i:Nat){fr d:Int}(h:axB (Ye i x y z) ov=false):Zal fr d ov x y z=false:=by unfold Zal;revert h;unfold Ye;split<;>intro h<;>simp [h]
theorem Zjq{fr d:Int}(h:¬(0<=fr/\fr<d/\d<=3600000/\1<=ov/\ov<=4294967296)):Zal fr d ov x y z=false:=by
 cases hb:Zal fr d ov x y z with
 | false=>rfl
 | true=>
  unfold Zal Zut at hb;simp only [aQ,cT]at hb;exact absurd O h
theorem Zug(h:1<=c.length->c.length<=6->¬(1<c.length/\c.getD (c.length-1) 0=0)->Zho c ov=true->False):axB c ov=false:=by
 cases hb:axB c ov with
 | false=>rfl
 | true=>
  unfold axB at hb;simp only [aQ,gY,kH,cT,iI]at hb;exact(h hb.1.1.1 hb.1.1.2 (λe=>by rcases hb.1.2 with d|d;exact d e.1;exact d e.2) hb.2).elim
theorem Yi1(e:1<=c.length)(g:c.length<=6)(h:¬(1<c.length/\c.getD (c.length-1) 0=0))(j:Zho c ov=true):axB c ov=true:=by
 unfold axB;simp only [aQ,gY,kH,cT,iI];refine⟨⟨⟨e,g⟩,?_⟩,j⟩;by_cases d:1<c.length
 .exact .inr λk=>h ⟨d,k⟩
 .exact .inl d
theorem segB_e{fr g:Int}(d:0<=fr/\fr<g/\g<=3600000/\1<=ov/\ov<=4294967296)(e:∀k,k<3->axB (Ye k x y z) ov=true):Zal fr g ov x y z=decide (Ln ov (Kw 3 x y z)=1):=by have h:axB x ov=true:=e 0 O3;have j:axB y ov=true:=e 1 O3;have l:axB z ov=true:=e 2 O3;unfold Zal Zut;rw [aJ d.1,aJ d.2.1,aJ d.2.2.1,aJ d.2.2.2.1,aJ d.2.2.2.2,h,j,l];rfl
def Ay(d:∀a∈x,Mw a)(e:∀a∈y,Mw a)(g:∀a∈z,Mw a)(i:Nat):∀a∈Ye i x y z,Mw a:=Bm (p:=λl=>∀a∈l,Mw a) d e g
theorem bl_fc(e:∀a∈x,Mw a)(g:∀a∈y,Mw a)(j:∀a∈z,Mw a)(l:bl ov.natAbs<=64)(i k:Nat):bl (Ln (Ln ov (Kw i x y z)) ((Ye i x y z).take k)).natAbs<=64:=by
 refine Zgo (λa d=>Db (Ay e g j i a (fP d))) (Zgo (λa d=>Db ?_) l);unfold Kw at d;split at d
 .cases d
 .exact e a d
 .rcases cY.1 d with h|h
  .exact e a h
  .exact g a h
 .rcases cY.1 d with h|h
  .rcases cY.1 h with h|h
   .exact e a h
   .exact g a h
  .exact j a h
abbrev RWL:=List (Bool×ByteArray)
def smallR(r:RWL):Bool:=decide (r.length<=8) && r.all λc=>decide (c.2.size<=6)
noncomputable def dec (r:RWL):List Int:=if h:okP r=true then(okP_ex h).choose else []
noncomputable def bdE (r:RWL):Int:=if okP r=true then Zwk (dec r)else 2
noncomputable def bdZ (r:RWL):Int:=if bdE r=0 then sbound (dec r)else 0
def firstE(r:RWL)(x y d e:Int):Int:=if okP r=true then(if r.length=0\/0<x*e-d*y then 3 else 0)else 2
def chke:Nat->Nat->Nat->Nat->Nat->Bool
 | 0,d,_,A,_=>Nat.ble (A+d*64) 65500
 | f+1,d,e,A,B=>Nat.ble (A+d*64) 65500 && (Nat.beq e 0 || (List.range e).all λl=>chke f e l B (bif Nat.ble l 1 then 2 else A+(d-e+1)*B))
inductive SV:List Int->List Int->Prop
 | one (a:Int):SV [a] [a]
 | step (a:Int) (r t:List Int):SV r t->SV (a::r) (a::t)
 | skip (a u w:Int) (r t:List Int):(a=1\/a=-1)->(-1<=u/\u<=1)->(-1<=w/\w<=1)->SV (-a::r) (-a::t)->SV (a::u::-a::r) (a::w::-a::t)
theorem Znp{s:Int×Int}{a u:Int}(e:a=1\/a=-1)(g:-1<=u/\u<=1):Me (Me (Me s a) u) (-a)=Me (Me s a) (-a):=by obtain⟨n,l⟩:=s;have d:u=-1\/u=0\/u=1:=O;rcases e with rfl|rfl<;>rcases d with rfl|rfl|rfl<;>simp [Me]
theorem SV.fold(h:SV a b):∀s,a.foldl Me s=b.foldl Me s:=by
 induction h with
 | one a=>intro s;rfl
 | step a r t _ d=>intro s;exact d (Me s a)
 | skip a u w r t e g j _ d=>
  intro s;show(r.foldl Me (Me (Me (Me s a) u) (-a)))=(t.foldl Me (Me (Me (Me s a) w) (-a)));rw [Znp e g,Znp e j];exact d (Me s a)
def SV.chg(h:SV a b):chg a=chg b:=aL Prod.fst (h.fold (0,0))
def Er(x:Rat):Int:=if x<0 then -1 else if x=0 then 0 else 1
theorem Yea{x:Rat}:-1<=Er x/\Er x<=1:=by unfold Er;split;decide;split<;>decide
theorem An{x:Rat}(h:0<x):Er x=1:=by unfold Er;rw [aD O4,aD O4]
theorem Ao{x:Rat}(h:x<0):Er x=-1:=by unfold Er;rw [aF h]
def Big(η x:Rat)(f:Rat->Rat):Prop:=η<f x\/f x < -η
def Tri(η x:Rat):(Rat->Rat)->List (Rat->Rat)->Prop
 | _,[]=>True
 | _,[g]=>Big η x g
 | f,g::k::r=>(Big η x g/\Tri η x g (k::r))\/(Big η x k/\f x*k x<0/\Tri η x k r)
def Near(η x y:Rat)(f:Rat->Rat):Prop:=f x-f y<=η/\f y-f x<=η
theorem Zqp{x y:Rat}(e:0<=η)(h:Big η x f)(d:Near η x y f):Er (f x)=Er (f y)/\(Er (f x)=1\/Er (f x)=-1):=by
 obtain⟨g,j⟩:=d;rcases h with h|h
 .rw [An O4,An O4];exact⟨rfl,.inl rfl⟩
 .rw [Ao O4,Ao O4];exact⟨rfl,.inr rfl⟩
theorem opp_sg{a b:Rat}(h:a*b<0):Er b=- Er a:=by
 rcases(show a<0\/a=0\/0<a by grind)with e|e|e
 .rw [Ao e,An (by
   rcases(show b<=0\/0<b by grind)with d|d
   .have:=aN (a:=-a) (b:=-b) O4 O4;grind
   .exact d)];rfl
 .subst e;grind
 .rw [An e,Ao (by
   rcases(show 0<=b\/b<0 by grind)with d|d
   .have:=aN (a:=a) (b:=b) O4 d;grind
   .exact d)]
theorem Zn6{η x y:Rat}(h:0<=η):∀(n:Nat) (f:Rat->Rat) (fs:List (Rat->Rat)),fs.length<=n->Big η x f->(∀g∈f::fs,Near η x y g)->Tri η x f fs->
  SV ((f::fs).map λg=>Er (g x)) ((f::fs).map λg=>Er (g y))
 | _,f,[],_,q,d,_=>by have:=(Zqp h q (d f (cE ..))).1;simp only [cQ,iQ,this];exact SV.one _
 | 0,f,g::r,u,_,_,_=>absurd u O8
 | n+1,f,[g],u,q,d,m=>by have p:=(Zqp h q (d f (cE ..))).1;have e:=Zn6 h n g [] O8 m (λk o=>d k (bM _ o)) aA;rw [cQ,cQ,p];exact SV.step _ _ _ e
 | n+1,f,g::k::r,u,q,d,m=>by
  have p:=Zqp h q (d f (cE ..));rcases m with⟨B,m⟩|⟨o,F,m⟩
  .have e:=Zn6 h n g (k::r) (by simp at u ⊢;omega) B (λk o=>d k (bM _ o)) m;rw [cQ (l:=g::k::r),cQ (l:=g::k::r),p.1];exact SV.step _ _ _ e
  .have e:=Zn6 h n k r (by simp at u ⊢;omega) o (λj D=>d j (bM _ (bM _ D))) m;have v:=(Zqp h o (d k O8)).1;have w:=opp_sg F;rw [cQ (l:=r),cQ (l:=r)]at e;simp only [cQ];rw [<-v]at e ⊢;rw [w]at e ⊢;rw [<-p.1];exact SV.skip _ _ _ _ _ p.2 Yea Yea e
structure Lnk (η x:Rat) (f g k:Rat->Rat):Prop where
 big:¬Big η x g->Big η x k
 opp:¬Big η x g->f x*k x<0
def Lnks(η x:Rat):(Rat->Rat)->List (Rat->Rat)->Prop
 | _,[]=>True
 | _,[g]=>Big η x g
 | f,g::k::r=>Lnk η x f g k/\Lnks η x g (k::r)
theorem Zkw{η x:Rat} : ∀(n:Nat) (f:Rat->Rat) (fs:List (Rat->Rat)),fs.length<=n->Lnks η x f fs->Tri η x f fs
 | _,f,[],_,_=>trivial
 | 0,f,g::r,e,_=>absurd e O8
 | n+1,f,[g],_,h=>h
 | n+1,f,[g,k],e,h=>by
  by_cases d:Big η x g
  .exact .inl ⟨d,h.2⟩
  .exact .inr ⟨h.1.big d,h.1.opp d,aA⟩
 | n+1,f,g::k::j::r,e,h=>by
  by_cases d:Big η x g
  .exact .inl ⟨d,Zkw n g (k::j::r) (by simp at e ⊢;omega) h.2⟩
  .exact .inr ⟨h.1.big d,h.1.opp d,Zkw n k (j::r) (by simp at e ⊢;omega) h.2.2⟩
def Rl3(s t:Rat)(f g k:Rat->Rat):Prop:=∃m n Q:Rat,0<m/\0<n/\0<Q/\∀x,s<=x->x<=t->∃q,-Q<=q/\q<=Q/\m*f x=q*g x-n*k x
def Rl2(s t:Rat)(f g:Rat->Rat):Prop:=∃m Q:Rat,0<m/\0<Q/\∀x,s<=x->x<=t->∃q,-Q<=q/\q<=Q/\m*f x=q*g x
def Rls(s t:Rat):(Rat->Rat)->List (Rat->Rat)->Prop
 | _,[]=>True
 | f,[g]=>Rl2 s t f g
 | f,g::k::r=>Rl3 s t f g k/\Rls s t g (k::r)
theorem Zb2{q Q g e:Rat}(h:-Q<=q)(j:q<=Q)(k:-e<=g)(l:g<=e)(m:0<=Q):q*g<=Q*e/\-(Q*e)<=q*g:=by have a:=aN (a:=Q-q) (b:=e+g) O4 O4;have b:=aN (a:=Q+q) (b:=e-g) O4 O4;have c:=aN (a:=Q-q) (b:=e-g) O4 O4;have d:=aN (a:=Q+q) (b:=e+g) O4 O4;constructor<;>grind
theorem Zdp{x:Rat}{g:Rat->Rat}(h:¬Big η x g):-η<=g x/\g x<=η:=by unfold Big at h;constructor<;>grind
theorem Zwu{x:Rat}{g:Rat->Rat}(h:η<=ε)(d:Big ε x g):Big η x g:=by unfold Big at *;grind
theorem Gb{a b:Rat}(h:0<ε)(j:0<a)(k:0<b):∃e:Rat,0<e/\e<=ε/\e*a<=b:=by
 have g:0<b*a⁻¹:=bB k (gD.2 j);have l:b*a⁻¹*a=b:=O4;rcases(show ε<=b*a⁻¹\/b*a⁻¹<=ε by grind)with d|d
 .exact⟨ε,h,O4,by have:=dO d (show 0<=a by grind);grind⟩
 .exact⟨b*a⁻¹,g,d,O4⟩
theorem pair3{g k:Rat->Rat}(h:Rl3 s t f g k)(D:0<ε)(N:∀x,s<=x->x<=t->Big ε x f\/Big ε x g) :
  ∃e,0<e/\(∀x,s<=x->x<=t->Big e x g\/Big e x k)/\∀η,0<η->η<=e->∀x,s<=x->x<=t->Lnk η x f g k:=by
 obtain⟨m,n,Q,w,M,hQ,P⟩:=h;obtain⟨e,B,Y,Z⟩:=Gb D (show 0<Q+n by grind) (Rat.mul_pos w D);have l:∀η,0<η->η<=e->∀x,s<=x->x<=t->¬Big η x g->Big η x k/\f x*k x<0:=λη p r x hs j d=>by
  obtain⟨q,R,S,q3⟩:=P x hs j;obtain⟨H,I⟩:=Zdp d;obtain⟨p1,p2⟩:=Zb2 R S H I O4;have v:Big ε x f:=(N x hs j).resolve_right λh=>d (Zwu O4 h);have V:η*(Q+n)<=m*ε:=by have:=dO r (show 0<=Q+n by grind);grind
  have W:0<η*n:=bB p M;rcases v with v|v
  .have F:m*ε<m*f x:=by have:=bB w (show 0<f x-ε by grind);grind
   have G:n*k x < - (n*η):=O4;have u:k x < -η:=by
    rcases(show k x < -η\/-η<=k x by grind)with o|o
    .exact o
    .have:=aN (a:=n) (b:=k x+η) O4 O4;grind
   refine⟨.inr u,?_⟩;have:=bB (a:=f x) (b:=- k x) O4 O4;grind
  .have F:m*f x < - (m*ε):=by have:=bB w (show 0 < -ε-f x by grind);grind
   have G:n*η<n*k x:=O4;have u:η<k x:=by
    rcases(show η<k x\/k x<=η by grind)with o|o
    .exact o
    .have:=aN (a:=n) (b:=η-k x) O4 O4;grind
   refine⟨.inl u,?_⟩;have:=bB (a:=- f x) (b:=k x) O4 O4;grind
 refine⟨e,B,λx hs j=>?_,λη p r x hs j=>⟨λd=>(l η p r x hs j d).1,λd=>(l η p r x hs j d).2⟩⟩;by_cases d:Big e x g
 .exact .inl d
 .exact .inr (l e B O4 x hs j d).1
theorem pair2{g:Rat->Rat}(h:Rl2 s t f g)(l:0<ε)(w:∀x,s<=x->x<=t->Big ε x f\/Big ε x g) :
  ∃e,0<e/\∀η,0<η->η<=e->∀x,s<=x->x<=t->Big η x g:=by
 obtain⟨m,Q,k,v,B⟩:=h;obtain⟨e,o,H,I⟩:=Gb l v (bB k l);refine⟨e,o,λη M u x hs n=>?_⟩;by_cases j:Big η x g
 .exact j
 .exfalso;obtain⟨q,D,F,R⟩:=B x hs n;obtain⟨p,r⟩:=Zdp j;obtain⟨N,P⟩:=Zb2 D F p r O4;have d:Big ε x f:=(w x hs n).resolve_right λh=>j (Zwu O4 h);have G:η*Q<=m*ε:=by have:=dO u (show 0<=Q by grind);grind
  rcases d with d|d
  .have:=bB k (show 0<f x-ε by grind);grind
  .have:=bB k (show 0 < -ε-f x by grind);grind
theorem Zsk{s t:Rat} : ∀(n:Nat) (f:Rat->Rat) (fs:List (Rat->Rat)) (ε:Rat),fs.length<=n->Rls s t f fs->0<ε->(∀g r,fs=g::r->∀x,s<=x->x<=t->Big ε x f\/Big ε x g)->
  ∃e,0<e/\∀η,0<η->η<=e->∀x,s<=x->x<=t->Lnks η x f fs
 | _,f,[],ε,_,_,l,_=>⟨ε,l,λ_ _ _ _ _ _=>trivial⟩
 | 0,f,g::r,ε,hl,_,_,_=>absurd hl O8
 | n+1,f,[g],ε,_,h,l,v=>pair2 h l (v g [] rfl)
 | n+1,f,g::k::r,ε,hl,h,l,v=>by
  obtain⟨e,w,D,B⟩:=pair3 h.1 l (v g (k::r) rfl);obtain⟨p,q,j⟩:=Zsk n g (k::r) e (by simp at hl ⊢;omega) h.2 w (λG H u=>by injection u with d o;subst d;exact D)
  rcases(show e<=p\/p<=e by grind)with F|F
  .exact⟨e,w,λη d o x hs m=>⟨B η d o x hs m,j η d O4 x hs m⟩⟩
  .exact⟨p,q,λη d o x hs m=>⟨B η d O4 x hs m,j η d o x hs m⟩⟩
def Lip(s t L:Rat)(f:Rat->Rat):Prop:=∀x y,s<=x->x<=y->y<=t->f x-f y<=L*(y-x)/\f y-f x<=L*(y-x)
def vat(fs:List (Rat->Rat))(x:Rat):Int:=chg (fs.map λg=>Er (g x))
theorem Ykc{L:Rat}(q:0<L)(w:∀g∈f::fs,Lip s t L g)(m:0<δ)(l:∀x,s<=x->x<=t->Big δ x f)(B:Rls s t f fs) :
  ∃h,0<h/\∀x y,s<=x->x<=y->y<=t->y-x<=h->vat (f::fs) x=vat (f::fs) y:=by
 obtain⟨e,n,o⟩:=Zsk fs.length f fs δ (aI _) B m (λg r _ x hs D=> .inl (l x hs D));obtain⟨η,k,I,M⟩:=Gb m (show(0:Rat)<1 by decide) n;obtain⟨h,p,G,H⟩:=Gb k q k;refine⟨h,p,λx y d j F v=>SV.chg ?_⟩;refine Zn6 O4 fs.length f fs (aI _) (Zwu O4 (l x d O4)) (λg u=>?_) (Zkw _ _ _ (aI _) (o η k O4 x d O4));obtain⟨a,b⟩:=w g u x y d j F;have:=dO v (show 0<=L by grind);exact⟨O4,O4⟩
theorem Yap{L:Rat}(w:0<L)(F:∀g∈f::fs,Lip s t L g)(D:0<δ)(B:∀x,s<=x->x<=t->Big δ x f)(H:Rls s t f fs)(m:s<=t) :
  vat (f::fs) s=vat (f::fs) t:=by
 obtain⟨h,u,p⟩:=Ykc w F D B H;have o:∀n:Nat,∀y,s<=y->y<=t->y-s<=(n:Rat)*h->vat (f::fs) s=vat (f::fs) y:=λn=>by
  induction n with
  | zero=>
    intro y d e j;have:y=s:=by simp at j;grind
    rw [this]
  | succ n r=>
   intro y d e j;have q:((n+1:Nat):Rat)*h=(n:Rat)*h+h:=by push_cast;grind
   rcases(show y-s<=(n:Rat)*h\/(n:Rat)*h<y-s by grind)with k|k
   .exact r y d e k
   .have v:(0:Rat)<=(n:Rat)*h:=aN (by exact_mod_cast bI n) O4;rcases(show s<=y-h\/y-h<s by grind)with l|l
    .rw [r (y-h) l O4 O4];exact p (y-h) y l O4 e O4
    .exact p s y O4 d e O4
 have d:∃n:Nat,t-s<=(n:Rat)*h:=by
  have e:0<h⁻¹:=gD.2 u;refine⟨((t-s)*h⁻¹).ceil.toNat,?_⟩;have j:=@oL ((t-s)*h⁻¹);have q:((((t-s)*h⁻¹).ceil:Int):Rat)<=((((t-s)*h⁻¹).ceil.toNat:Nat):Rat):=by have:((t-s)*h⁻¹).ceil<=((((t-s)*h⁻¹).ceil.toNat:Nat):Int):=lW _;exact_mod_cast this
  have k:=dO (oB j q) (show 0<=h by grind);have v:(t-s)*h⁻¹*h=t-s:=O4;grind
 obtain⟨n,G⟩:=d;exact o n t m O4 G
def Zb:List Int->Rat->Rat
 | [],_=>0
 | c::p,x=>(c:Rat)+x*Zb p x
theorem Ymo(s t:Rat):∃K:Rat,0<K/\∀x,s<=x->x<=t->-K<=x/\x<=K:=by
 rcases(show(0<=s\/s<0) by grind)with h|h<;>rcases(show(0<=t\/t<0) by grind)with d|d
 .exact⟨t+1,O4,λx _ _=>O4⟩
 .exact⟨1,O4,λx _ _=>O4⟩
 .exact⟨t-s+1,O4,λx _ _=>O4⟩
 .exact⟨-s+1,O4,λx _ _=>O4⟩
theorem Zrz(s t:Rat):∀p:List Int,∃B:Rat,0<B/\∀x,s<=x->x<=t->-B<=Zb p x/\Zb p x<=B
 | []=>⟨1,O3,λx _ _=>by unfold Zb;grind⟩
 | c::p=>by obtain⟨B,e,g⟩:=Zrz s t p;obtain⟨K,n,o⟩:=Ymo s t;obtain⟨C,q,h⟩:=Ymo (c:Rat) (c:Rat);have r:=h (c:Rat) O4 O4;refine⟨C+K*B,by have:=bB n e;grind,λx hs d=>?_⟩;obtain⟨j,k⟩:=g x hs d;obtain⟨l,m⟩:=o x hs d;obtain⟨f1,f2⟩:=Zb2 l m j k O4;unfold Zb;constructor<;>grind
theorem Ct(s t:Rat):∀p:List Int,∃L:Rat,0<L/\Lip s t L (Zb p)
 | []=>⟨1,O3,λx y _ _ _=>by unfold Zb;constructor<;>grind⟩
 | c::p=>by obtain⟨L,o,r⟩:=Ct s t p;obtain⟨B,w,j⟩:=Zrz s t p;obtain⟨K,m,n⟩:=Ymo s t;refine⟨K*L+B,by have:=bB m o;grind,λx y hs d h=>?_⟩;obtain⟨u,v⟩:=r x y hs d h;obtain⟨D,F⟩:=j y O4 h;obtain⟨k,l⟩:=n x hs O4;obtain⟨f1,f2⟩:=Zb2 (q:=x) (g:=Zb p x-Zb p y) (e:=L*(y-x)) k l O4 O4 O4;have G:=aN (a:=B-Zb p y) (b:=y-x) O4 O4;have H:=aN (a:=B+Zb p y) (b:=y-x) O4 O4;unfold Zb;constructor<;>grind
theorem Zj7(x:Rat):∀q:List Int,(∀i,cf q i=0)->Zb q x=0
 | [],_=>rfl
 | c::q,h=>by have d:c=0:=h 0;have e:=Zj7 x q λi=>h (i+1);unfold Zb;rw [e,d];grind
theorem Ng(x:Rat):∀p q:List Int,(∀i,cf p i=cf q i)->Zb p x=Zb q x
 | [],q,h=>by rw [Zj7 x q λi=>(h i).symm.trans (Yo (bI _))];rfl
 | c::p,[],h=>by rw [Zj7 x (c::p) λi=>(h i).trans (Yo (bI _))];rfl
 | c::p,d::q,h=>by have e:c=d:=h 0;have g:=Ng x p q λi=>h (i+1);unfold Zb;rw [g,e]
def Mb:List Int->List Int->List Int
 | [],q=>q
 | p,[]=>p
 | a::p,b::q=>(a+b)::Mb p q
theorem Zsv(p:List Int):Mb p []=p:=by cases p<;>rfl
theorem Xd(x:Rat):∀p q:List Int,Zb (Mb p q) x=Zb p x+Zb q x
 | [],q=>by unfold Mb;show Zb q x=0+Zb q x;grind
 | a::p,[]=>by rw [Zsv];show Zb (a::p) x=Zb (a::p) x+0;grind
 | a::p,b::q=>by have h:=Xd x p q;unfold Mb Zb;rw [h];push_cast;grind
theorem My:∀(p q:List Int) (i:Nat),cf (Mb p q) i=cf p i+cf q i
 | [],q,i=>by unfold Mb;rw [show cf [] i=0 from Yo (bI _)];omega
 | a::p,[],i=>by rw [Zsv,show cf [] i=0 from Yo (bI _)];omega
 | a::p,b::q,0=>rfl
 | a::p,b::q,i+1=>My p q i
theorem Zg(x:Rat)(c:Int):∀p:List Int,Zb (p.map λa=>c*a) x=(c:Rat)*Zb p x
 | []=>by show(0:Rat)=c*0;grind
 | a::p=>by have h:=Zg x c p;simp only [cQ];unfold Zb;rw [h];push_cast;grind
theorem Qh(c:Int):∀(p:List Int) (i:Nat),cf (p.map λa=>c*a) i=c*cf p i
 | [],i=>by simp [cf]
 | a::p,0=>rfl
 | a::p,i+1=>Qh c p i
def lmul:List Int->List Int->List Int
 | [],_=>[]
 | c::p,q=>Mb (q.map λa=>c*a) (0::lmul p q)
theorem Zp(x:Rat):∀p q:List Int,Zb (lmul p q) x=Zb p x*Zb q x
 | [],q=>by show(0:Rat)=0*Zb q x;grind
 | c::p,q=>by have h:=Zp x p q;unfold lmul;rw [Xd,Zg];show(c:Rat)*Zb q x+(((0:Int):Rat)+x*Zb (lmul p q) x)=((c:Rat)+x*Zb p x)*Zb q x;rw [h];grind
theorem Em:∀(p q:List Int) (i:Nat),cf (lmul p q) i=Yb (λk=>cf p k*cf q (i-k)) (i+1)
 | [],q,i=>by rw [show cf (lmul [] q) i=0 from Yo (bI _)];exact(Ft λk _=>by rw [show cf [] k=0 from Yo (bI _),dC]).symm
 | c::p,q,0=>by unfold lmul;rw [My,Qh,Yl,Hl];show c*cf q 0+0=0+c*cf q 0;omega
 | c::p,q,i+1=>by have h:=Em p q i;unfold lmul;rw [My,Qh,Mz];show c*cf q (i+1)+cf (lmul p q) i=c*cf q (i+1)+_;rw [h];congr 1;refine Yz λk d=>?_;show cf p k*cf q (i-k)=cf p k*cf q (i+1-(k+1));rw [show i+1-(k+1)=i-k by omega]
theorem Dt (a:Int)(c:Int)(x:List Int)(s:List Int)(y:List Int)(z:List Int)(h:∀t,a*cf x t=(ps s*ps y).c t-c*cf z t)(q:Rat):(a:Rat)*Zb x q=Zb s q*Zb y q-(c:Rat)*Zb z q:=by
 have d:∀t,cf (Mb (x.map λb=>a*b) (z.map λb=>c*b)) t=cf (lmul s y) t:=λt=>by rw [My,Qh,Qh,Em,h t,PS.mul_c];show Yb (λk=>cf s k*cf y (t-k)) (t+1)-c*cf z t+c*cf z t=_;omega
 have e:=Ng q _ _ d;rw [Xd,Zg,Zg,Zp]at e;grind
theorem Ya6(D:Tr x)(p:Tr y)(h:y≠[])(M:y.length<=x.length):Rl3 s t (Zb x) (Zb y) (Zb (Nk x y)):=by
 have Q:=aH.2 h;obtain⟨r1,r2,k,u,I⟩:=Zfk p h x.length x D O;have hs:=Zg0 x.length D p h M O;have o:Tr (Zeu (Zav x.length x y)):=Nq;obtain⟨m,n,N,P,w⟩:=Zeq o;rw [hs]at w;have H:0<Zbn y^k:=jT (Zfo p h);obtain⟨B,F,r⟩:=Zrz s t u;have l:(0:Rat)<(m:Rat):=by exact_mod_cast N
 have d:(0:Rat)<(n:Rat):=by exact_mod_cast P
 have j:(0:Rat)<((Zbn y^k:Int):Rat):=by exact_mod_cast H
 refine⟨(n:Rat)*((Zbn y^k:Int):Rat),(m:Rat),(n:Rat)*B,bB d j,l,bB d F,λq e g=>⟨(n:Rat)*Zb u q,?_,?_,?_⟩⟩
 .have:=aN (a:=(n:Rat)) (b:=Zb u q+B) O4 (by have:=r q e g;grind);grind
 .have:=aN (a:=(n:Rat)) (b:=B-Zb u q) O4 (by have:=r q e g;grind);grind
 .have G:=Dt (Zbn y^k) (-1) x u y (Zav x.length x y) (λt=>by rw [I t];omega) q;have v:Zb ((Nk x y).map λb=>m*b) q=Zb ((Zav x.length x y).map λb=>(-n)*b) q:=Ng q _ _ λi=>by rw [Qh,Qh,w i,Dw,kL,oK]
  rw [Zg,Zg]at v;push_cast at G v ⊢;grind
theorem rl2_of{g:Rat->Rat}(h:Rl3 s t f g (Zb [])):Rl2 s t f g:=by obtain⟨m,n,Q,k,u,j,l⟩:=h;refine⟨m,Q,k,j,λx d e=>?_⟩;obtain⟨q,o,p,r⟩:=l x d e;refine⟨q,o,p,?_⟩;have:Zb [] x=0:=rfl;rw [this]at r;grind
theorem Zmy (s:Rat)(t:Rat) : ∀(f:Nat) (a b:List Int),Tr a->Tr b->cok f a b->∃r,Mn f a b=a::r/\Rls s t (Zb a) (r.map Zb)/\(b=[]->r=[])/\(b≠[]->∃n,r=b::n):=λf=>by
 induction f with
 | zero=>
  intro a b j k h;have d:b=[]:=h;subst d;exact⟨[],rfl,aA,λ_=>rfl,λh=>absurd rfl h⟩
 | succ f w=>
  intro a b j k h;by_cases d:b=[]
  .subst d;exact⟨[],Bn _ _,aA,λ_=>rfl,λh=>absurd rfl h⟩
  .obtain⟨g,D,B,l,v,hs⟩:=Zlr h d;obtain rfl:f=g:=O;obtain⟨r,o,p,q,u⟩:=w b (Nk a b) k (Zcb j) v;have e:=Ya6 (s:=s) (t:=t) j k d l;refine⟨b::r,by rw [hs,o],?_,λh=>absurd h d,λ_=>⟨r,rfl⟩⟩;by_cases m:Nk a b=[]
   .rw [q m];rw [m]at e;exact rl2_of e
   .obtain⟨n,rfl⟩:=u m;exact⟨e,p⟩
theorem Zsl{L M:Rat}(h:L<=M)(j:Lip s t L f):Lip s t M f:=λx y d e g=>by obtain⟨a,b⟩:=j x y d e g;have:=dO h (show 0<=y-x by grind);constructor<;>grind
theorem Zyr(s t:Rat):∀e:List (List Int),∃L:Rat,0<L/\∀g∈e.map Zb,Lip s t L g
 | []=>⟨1,O3,λg d=>by cases d⟩
 | p::e=>by
  obtain⟨L,k,h⟩:=Zyr s t e;obtain⟨M,l,j⟩:=Ct s t p;refine⟨L+M,O4,λg d=>?_⟩;rw [cQ]at d;rcases aZ.1 d with rfl|d
  .exact Zsl O4 j
  .exact Zsl O4 (h g d)
theorem Zfi{f:Nat}(k:Tr a)(l:Tr b)(m:cok f a b)(d:s<=t)(n:0<δ)(j:∀x,s<=x->x<=t->Big δ x (Zb a)) :
  vat ((Mn f a b).map Zb) s=vat ((Mn f a b).map Zb) t:=by
 obtain⟨r,g,h,_,_⟩:=Zmy s t f a b k l m;obtain⟨L,o,e⟩:=Zyr s t (Mn f a b);rw [g]at e ⊢;exact Yap o e n j h d
theorem Zrw(x:Rat)(l:Int):∀p:List Int,Zb (p ++ [l]) x=Zb p x+(l:Rat)*x^p.length
 | []=>by show(l:Rat)+x*0=0+l*x^0;rw [eO];grind
 | c::p=>by have h:=Zrw x l p;rw [iF,dM,dX];unfold Zb;rw [h];grind
def alt:List Int->List Int
 | []=>[]
 | c::p=>c::(alt p).map λa=>-1*a
theorem Yez(c:Int)(p:List Int)(X Y:Int)(h:p≠[]):pev (c::p) X Y=c*Y^p.length+X*pev p X Y:=by
 have d:=aH.2 h;unfold pev;rw [dM,Mz,<-Mh];congr 1
 .show c*(X^0*Y^(p.length+1-1-0))=_;rw [dD,fG,show p.length+1-1-0=p.length by omega]
 .refine Yz λi hi=>?_;show cf p i*(X^(i+1)*Y^(p.length+1-1-(i+1)))=X*(cf p i*(X^i*Y^(p.length-1-i)));rw [show p.length+1-1-(i+1)=p.length-1-i by omega,eF];grind
theorem Zx5{X Y:Int}(e:0<Y):∀p:List Int,((pev p X Y:Int):Rat)=Zb p ((X:Rat)/(Y:Rat))*(Y:Rat)^(p.length-1)
 | []=>by show(0:Rat)=0*_;grind
 | [c]=>by
  have:pev [c] X Y=c:=by unfold pev;show 0+c*(X^0*Y^0)=c;rw [dD,dD];omega
  rw [this];show(c:Rat)=(c+X/Y*0)*(Y:Rat)^0;rw [eO];grind
 | c::d::p=>by
  have h:=Zx5 (X:=X) e (d::p);rw [Yez c (d::p) X Y O8];have g:(Y:Rat)≠0:=by
    have:(0:Rat)<(Y:Rat):=by exact_mod_cast e
    grind
  push_cast;rw [h];show(c:Rat)*(Y:Rat)^(p.length+1)+X*(Zb (d::p) (X/Y)*(Y:Rat)^(p.length+1-1))=((c:Rat)+X/Y*Zb (d::p) (X/Y))*(Y:Rat)^(p.length+1+1-1);rw [show p.length+1-1=p.length by omega,show p.length+1+1-1=p.length+1 by omega,dX];generalize Zb (d::p) (X/Y)=R;generalize (Y:Rat)^p.length=P;have:(X:Rat)/Y*Y=X:=O4;grind
theorem Ydw{z:Int}{r q:Rat}(j:0<q)(h:(z:Rat)=r*q):z.sign=Er r:=by
 rcases(show r<0\/r=0\/0<r by grind)with d|d|d
 .rw [Ao d];have:=bB (a:=-r) (b:=q) O4 j;have e:(z:Rat)<0:=O4;have g:z<0:=by exact_mod_cast e
  exact fS g
 .subst d;have e:(z:Rat)=0:=O4;have g:z=0:=by exact_mod_cast e
  subst g;rfl
 .rw [An d];have:=bB d j;have e:(0:Rat)<z:=O4;have g:0<z:=by exact_mod_cast e
  exact gJ g
theorem Zpr{X Y:Int}(d:0<Y)(p:List Int):fat X Y p=Er (Zb p ((X:Rat)/(Y:Rat))):=by
 have:(0:Rat)<(Y:Rat):=by exact_mod_cast d
 exact Ydw (Rat.pow_pos this) (Zx5 d p)
end Go.Sky

