/- Rules, arithmetic and contracts: part 5. No conditions but those that each theorem names. -/
import Derived.Test.YtlnoheikolgejaaGreatLa03
import Derived.Scope
set_option linter.all false
namespace Go.Sky
variable{p x y a b xs:List Int}{i:Nat}{s:Int}{ls:List (SL×List Int)}
theorem Zdb (P:Nat->Prop) : ∀n,P n->∃m,P m/\∀k,k<m->¬P k:=by
 intro n
 induction n using Nat.strongRecOn with
 | _ n f=>
  intro h;by_cases e:∃k,k<n/\P k
  .obtain⟨k,d,c⟩:=e;exact f k d c
  .exact⟨n,h,λk d c=>e ⟨k,d,c⟩⟩
theorem Zxu{n:Nat}(h:2<=n):∃p,2<=p/\p∣n/\∀d,2<=d->d∣n->p<=d:=by
 obtain⟨p,⟨f,g⟩,j⟩:=Zdb (λd=>2<=d/\d∣n) n ⟨h,Nat.dvd_refl n⟩;exact⟨p,f,g,λd k e=>by
  rcases bE d p with c|c
  .exact absurd ⟨k,e⟩ (j d c)
  .exact c⟩
theorem Zpz{n p:Nat}(q:2<=p)(j:p∣n)(k:∀d,2<=d->d∣n->p<=d)(u:0<n){x y:Int}(h:(p:Int)∣x*y):(p:Int)∣x\/(p:Int)∣y:=by
 by_cases g:(p:Int)∣x
 .exact .inl g
 .right;have m:Nat.gcd p x.natAbs=1:=by
   have f:=mA p x.natAbs;have o:0<Nat.gcd p x.natAbs:=Nat.gcd_pos_of_pos_left _ O;rcases bE (Nat.gcd p x.natAbs) 2 with c|c
   .omega
   .have r:=k _ c (Nat.dvd_trans f j);have t:=lT O f;exfalso;refine g (fS.1 ?_);rw [eC];have l:Nat.gcd p x.natAbs=p:=O;rw [<-l];exact nV _ _
  have e:=fS.2 h;rw [eC,cJ]at e;refine fS.1 ?_;rw [eC];exact(show Nat.Coprime p x.natAbs from m).dvd_of_dvd_mul_left e
theorem gauss{g:List Int}(hg:Xb g=1):∀(n:Nat) (k:Int) (s:List Int),k.natAbs=n->k≠0->(∀t,k*cf a t=(ps s*ps g).c t)->∃q:List Int,∀t,cf a t=(ps q*ps g).c t:=by
 intro n
 induction n using Nat.strongRecOn with
 | _ n ih=>
  intro k s o S h;rcases bE n 2 with P|P
  .have G:k*k=1:=by have:k=1\/k=-1:=O;rcases this with e|e<;>subst e<;>rfl
   refine⟨Yf s k,λt=>?_⟩;have e:(ps (Yf s k)*ps g).c t=k*(ps s*ps g).c t:=by rw [PS.mul_c,PS.mul_c,<-Ow];exact Yq λi _=>by rw [Px,Px,Px,Xx];grind
   rw [e,<-h,<-eT,G,fA]
  .obtain⟨p,V,W,pm⟩:=Zxu P;have I:∀{x y:Int},(p:Int)∣x*y->(p:Int)∣x\/(p:Int)∣y:=Zpz V W pm O;have r:(p:Int)∣k:=fS.1 (by rw [eC,o];exact W);have w:∃j,¬(p:Int)∣cf g j:=bF λu=>by have:(p:Int)∣Xb g:=Fb λi=>bF λhy=>u ⟨i,hy⟩;rw [hg]at this;have:=nF O3 this;omega
   obtain⟨j0,D⟩:=w;obtain⟨j,hj,F⟩:=Zdb (λj=>¬(p:Int)∣cf g j) j0 D;have hs:∀i,(p:Int)∣cf s i:=λi0=>bF λz=>by
    obtain⟨i,hi,B⟩:=Zdb (λi=>¬(p:Int)∣cf s i) i0 z;have Q:=h (i+j);rw [PS.mul_c]at Q;have N:∀m,m<=i+j+1->(p:Int)∣Yb (λk=>if k=i then 0 else(ps s).c k*(ps g).c (i+j-k)) m:=λm=>by
     induction m with
     | zero=>intro _;exact jC _
     | succ m M=>
      intro hm;rw [Yk];refine Int.dvd_add (M O) ?_;split
      .exact jC _
      .rename_i a0;rw [Px,Px];rcases bE m i with v|v
       .exact gX (bF λu=>B m v u) (iT _ _)
       .exact gX (bF λu=>F (i+j-m) O u) (Int.dvd_mul_left _ _)
    have Y:Yb (λk=>(ps s).c k*(ps g).c (i+j-k)) (i+j+1)=Yb (λk=>if k=i then 0 else(ps s).c k*(ps g).c (i+j-k)) (i+j+1)+cf s i*cf g j:=by
     have Z:Yb (λk=>(ps s).c k*(ps g).c (i+j-k)) (i+j+1)=Yb (λk=>(if k=i then 0 else(ps s).c k*(ps g).c (i+j-k))+(if k=i then(ps s).c k*(ps g).c (i+j-k)else 0)) (i+j+1):=
      Yq λk _=>by split<;>omega
     rw [Z,Gx,Dm i (f:=λk=>if k=i then(ps s).c k*(ps g).c (i+j-k)else 0) O (λq _ hq=>aD hq),aF rfl,Px,Px,show i+j-i=j by omega]
    rw [Y]at Q;have v:(p:Int)∣cf s i*cf g j:=by have l:cf s i*cf g j=k*cf a (i+j)-Yb (λk=>if k=i then 0 else(ps s).c k*(ps g).c (i+j-k)) (i+j+1):=O;rw [l];exact Int.dvd_sub (gX r (iT _ _)) (N _ (aK _))
    rcases I v with l|l
    .exact hi l
    .exact hj l
   obtain⟨d,c⟩:=r;have H:(p:Int)≠0:=O;refine ih d.natAbs ?_ d (s.map (· / (p:Int))) rfl ?_ ?_
   .rw [<-o,c,cJ,eC];have:0<d.natAbs:=by
     rcases aZ d.natAbs with R|R
     .rw [show d=0 by omega]at c;simp at c;exact absurd c S
     .exact R
    have:=aM d.natAbs V;omega
   .intro e;rw [e]at c;simp at c;exact S c
   .intro t;refine gO H ?_;rw [<-eT,<-c,h,PS.mul_c,PS.mul_c,<-Ow];refine Yq λi _=>?_;rw [Px,Px,Px,Zbj O7,<-eT,kL (hs i)]
def ev1:List Int->Int->Int
 | [],_=>0
 | c::r,t=>c+t*ev1 r t
def sdv:List Int->Int->List Int
 | [],_=>[]
 | [_],_=>[]
 | _::c::r,t=>ev1 (c::r) t::sdv (c::r) t
theorem Ziw:∀(u:List Int) (t:Int),(sdv u t).length=u.length-1
 | [],_=>rfl
 | [_],_=>rfl
 | _::c::r,t=>by unfold sdv;rw [cD,Ziw (c::r) t];simp
theorem Zvc:∀(u:List Int) (t x:Int),ev1 u x=ev1 u t+(x-t)*ev1 (sdv u t) x
 | [],t,x=>by simp [ev1,sdv]
 | [c],t,x=>by simp [ev1,sdv]
 | a::c::r,t,x=>by have d:=Zvc (c::r) t x;show a+x*ev1 (c::r) x=a+t*ev1 (c::r) t+(x-t)*(ev1 (c::r) t+x*ev1 (sdv (c::r) t) x);rw [d];generalize ev1 (c::r) t=A;generalize ev1 (sdv (c::r) t) x=B;grind
theorem Fp(a:Int)(u:List Int)(i:Nat):cf (a::u) i=if i=0 then a else cf u (i-1):=by
 cases i with
 | zero=>rfl
 | succ i=>simp [cf]
def Zbi(i:Nat):cf [] i=0:=Yl (bB _)
theorem Yec:∀(u:List Int) (t:Int) (i:Nat),cf u (i+1)=cf (sdv u t) i-t*cf (sdv u t) (i+1)
 | [],t,i=>by unfold sdv;simp [Zbi]
 | [c],t,i=>by unfold sdv;rw [Fp,aD O];simp [Zbi]
 | a::c::r,t,i=>by
  unfold sdv;rw [Fp,aD O,fG];cases i with
  | zero=>
   rw [Fp,aF rfl,Fp,aF rfl,Fp,aD O];show c=ev1 (c::r) t-t*cf (sdv (c::r) t) 0
   match r with
   | []=>simp [ev1,sdv,cf]
   | d::r'=>unfold sdv;rw [Fp,aF rfl];show c=(c+t*ev1 (d::r') t)-_;omega
  | succ i=>
   rw [Fp _ (sdv _ _) (i+1),aD O,Fp _ (sdv _ _),aD O,fG,fG];exact Yec (c::r) t i
theorem Yjg:∀(u:List Int) (t:Int),cf u 0=ev1 u t-t*cf (sdv u t) 0
 | [],t=>by simp [ev1,sdv,cf]
 | [c],t=>by simp [ev1,sdv,cf]
 | a::c::r,t=>by unfold sdv;rw [Fp,aF rfl,Fp,aF rfl];show a=(a+t*ev1 (c::r) t)-t*ev1 (c::r) t;omega
theorem Zow:∀(n:Nat) (u:List Int) (R:List Int),u.length=n->(∃i,cf u i≠0)->R.Nodup->(∀t∈R,ev1 u t=0)->R.length<n
 | 0,u,R,e,c,_,_=>by obtain⟨i,hi⟩:=c;rw [aE e,Zbi]at hi;exact absurd rfl hi
 | n+1,u,[],e,c,_,_=>O7
 | n+1,u,t::R,e,c,hd,hR=>by
  have g:=hR t (bX ..);have m:=Ziw u t;have k:∃i,cf (sdv u t) i≠0:=bF λd=>by
   have f:∀i,cf (sdv u t) i=0:=λi=>bF λl=>d ⟨i,l⟩;obtain⟨i,hi⟩:=c;cases i with
   | zero=>rw [Yjg u t,g,f]at hi;simp at hi
   | succ i=>rw [Yec u t,f,f]at hi;simp at hi
  have:=Zow n (sdv u t) R O k (List.nodup_cons.1 hd).2 λx d=>by
   have h:=hR x (bJ _ d);rw [Zvc u t x,g,lA]at h;rcases eU.1 h with j|j
   .exfalso;have:x=t:=O;subst this;exact(List.nodup_cons.1 hd).1 d
   .exact j
  simp;omega
def kk:Nat->Nat
 | 0=>0
 | d+1=>30*kk d+1
def pts:List Int:=[0,1,2,3,4,5,6,7,8,9,10,11,12,13,14]
def Psim(a b:List Int):Prop:=∃m n:Int,0<m/\0<n/\∀i,m*cf a i=n*cf b i
def Psim.refl(a:List Int):Psim a a:=⟨1,1,O3,O3,λ_=>rfl⟩
def Psim.symm : Psim a b->Psim b a:=λ⟨m,n,c,d,h⟩=>⟨n,m,d,c,λi=>(h i).symm⟩
theorem Psim.trans{c:List Int} : Psim a b->Psim b c->Psim a c:=λ⟨m,n,d,e,h⟩ ⟨u,v,f,g,k⟩=>
 ⟨m*u,n*v,gW d f,gW e g,λi=>by have j:=h i;have l:=k i;grind⟩
def Psim.sim : Psim a b->Sim a b:=λ⟨m,n,c,d,h⟩=>⟨m,n,O,O,h⟩
theorem Zcz(h:Tr p):Psim (Yi p) p:=by
 by_cases c:p=[]
 .subst c;exact Psim.refl _
 .exact⟨Xb p,1,by have:=Ni p;have:=Bq h c;omega,O3,λi=>by rw [fA,dJ];exact Hf p i⟩
theorem Zid(f:Tr a)(g:Tr b)(h:Psim a b):Yi a=Yi b:=by
 by_cases c:a=[]
 .rw [h.sim.nil g c,c]
 .have j:b≠[]:=λe=>c (h.sim.symm.nil f e);obtain⟨m,n,w,B,e⟩:=(Zcz f).trans (h.trans (Zcz g).symm);have q:=Yy f;have v:=Yy g;have hs:Sim (Yi a) (Yi b):=⟨m,n,O,O,e⟩;have d:Yi a≠[]:=λe=>c (aE (by rw [<-Zw,e];rfl));rcases Zom q v d (Kr f c) (Kr g j) hs with k|k
  .exact k
  .exfalso;have o:=q.mem d;have l:=e ((Yi a).length-1);have r:=k ((Yi a).length-1);rw [r]at l o;generalize cf (Yi b) ((Yi a).length-1)=z at l o;rw [kJ]at l;have t:(m+n)*z=0:=by rw [lO];omega
   rcases eU.1 t with u|u<;>omega
def An(y:List Int):Int:=if cf y (y.length-1)<0 then-cf y (y.length-1)else cf y (y.length-1)
def rb(x y:List Int):Int:=if cf y (y.length-1)<0 then-cf x (x.length-1)else cf x (x.length-1)
def Zaw(x y:List Int):List Int:=Aq (Yf x (An y)) (shm y (rb x y) (x.length-y.length) y.length)
def Bl:Nat->List Int->List Int->List Int
 | 0,x,_=>x
 | f+1,x,y=>if x.length<y.length then x else Bl f (Zaw x y) y
theorem Zmr(e:Tr x)(f:0<y.length)(d:y.length<=x.length):(Zaw x y).length<x.length:=by
 have h:=Ai (p:=Zaw x y) (n:=x.length-1) λi hi=>by
  unfold Zaw;rw [Ay,Xx,Yeb];by_cases c:i=x.length-1
  .subst c;rw [aF O,show x.length-1-(x.length-y.length)=y.length-1 by omega];unfold An rb;split
   .grind
   .grind
  .rw [Yl (p:=x) O,aD O];omega
 rw [show tzl (Zaw x y)=Zaw x y from Cw Ztn]at h;omega
theorem Yad(x:List Int)(t:Nat):An y*cf x t=(ps (mono (x.length-y.length) (rb x y))*ps y).c t+cf (Zaw x y) t:=by
 unfold Zaw;rw [Zio,Ay,Xx,Yeb,Px];by_cases c:x.length-y.length<=t
 .rw [aF c];by_cases d:t<x.length-y.length+y.length
  .rw [aF ⟨c,d⟩,dJ (cf x t)];omega
  .rw [aD O,Yl (p:=y) O,dJ (cf x t)];omega
 .rw [aD c,aD O,dJ (cf x t)];omega
theorem Zd4(d:Tr y)(c:y≠[]):0<An y:=by have:=d.mem c;unfold An;split<;>omega
theorem Zd0{y:List Int}(m:Tr y)(d:y≠[]):∀(f:Nat) (x:List Int),Tr x->x.length<y.length+f->Tr (Bl f x y)/\(Bl f x y).length<y.length/\∃(k:Nat) (s:List Int),∀t,An y^k*cf x t=(ps s*ps y).c t+cf (Bl f x y) t
 | 0,x,c,e=>⟨c,e,0,[],λt=>by rw [Mr (λt=>Yl (bB _)),cW];unfold Bl;omega⟩
 | f+1,x,c,e=>by
  unfold Bl;by_cases h:x.length<y.length
  .rw [aF h];exact⟨c,h,0,[],λt=>by rw [Mr (λt=>Yl (bB _)),cW];omega⟩
  .rw [aD h];have n:=Zmr c (aG.2 d) O;obtain⟨g,j,k,s,hs⟩:=Zd0 m d f (Zaw x y) Ztn O;refine⟨g,j,k+1,Aq (Yf s 1) (Yf (mono (x.length-y.length) (rb x y)) (-(An y^k))),λt=>?_⟩;have o:=hs t;have l:=Yad x (y:=y) t;rw [Zin,dX];generalize An y^k=K at *;generalize An y=a at *;generalize (ps (mono (x.length-y.length) (rb x y))*ps y).c t=M at *;generalize (ps s*ps y).c t=S at *;generalize cf (Zaw x y) t=X at *;generalize cf (Bl f (Zaw x y) y) t=Z at *;have:K*a*cf x t=K*(a*cf x t):=O4;rw [this,l];grind
theorem Zo8(l:Int)(h:l≠0):∀n:Nat,(l<0/\n%2=1->l^n<0)/\(¬(l<0/\n%2=1)->0<l^n)
 | 0=>⟨λh=>O,λ_=>by rw [cW];decide⟩
 | n+1=>by
  have e:=Zo8 l h n;rw [dX];by_cases d:l<0
  .by_cases f:n%2=1
   .have c:=e.1 ⟨d,f⟩;exact⟨λh=>O,λ_=>Int.mul_pos_of_neg_of_neg c d⟩
   .have c:=e.2 O;exact⟨λ_=>Int.mul_neg_of_pos_of_neg c d,λh=>O⟩
  .have c:=e.2 O;exact⟨λh=>O,λ_=>gW c O⟩
def Zc2(p:List Int):List Int:=Yf p (-1)
theorem Fm(p:List Int)(i:Nat):cf (Zc2 p) i=- cf p i:=by unfold Zc2;rw [Xx];omega
theorem Zrz(h:Tr p):Yi (Zc2 p)=Zc2 (Yi p):=by
 have e:Xb (Zc2 p)=Xb p:=by
  have c:Xb (Zc2 p)∣Xb p:=Fb λi=>by have h:=Ma (Zc2 p) i;rw [Fm]at h;exact mX.1 h
  have d:Xb p∣Xb (Zc2 p):=Fb λi=>by rw [Fm];exact mX.2 (Ma p i)
  exact Int.dvd_antisymm (Ni _) (Ni _) c d
 refine(Yy Ob).ext Ob λi=>?_;show cf (Yi (Zc2 p)) i=cf (Zc2 (Yi p)) i;rw [Fm,Aa,Fm,e,Aa];exact Int.neg_ediv_of_dvd (Ma p i)
theorem Zfe (f:Nat)(u:Tr x)(n:Tr y)(g:y≠[])(D:y.length<=x.length)(B:x.length<y.length+f):Yi (Zc2 (Bl f x y))=Pw x y:=by
 obtain⟨P,N,k,s,hs⟩:=Zd0 n g f x u B;have G:=aG.2 g;obtain⟨H,h⟩:=Zfi (p:=x) G D _ (aK _);have F:∀t,cf (Qi x y (x.length-y.length+1)) t=cf (Xs x y) t:=λt=>by unfold Xs;rw [aD O,Lt]
 have lp:=Qz x g;have j:=Lx y u;have c:=n.mem g;have o:0<An y^k:=kN (Zd4 n g);have d:=Zo8 (cf y (y.length-1)) c (x.length-y.length+1);generalize v:cf y (y.length-1)^(x.length-y.length+1)=L at h d;have w:L≠0:=by rw [<-v];exact Mt c _
 generalize An y^k=K at hs o;have l:∀t,(ps (Aq (Yf H K) (Yf s L))*ps y).c t=cf (Aq (Yf (Bl f x y) L) (Yf (Xs x y) K)) t:=λt=>by rw [Zin,Ay,Xx,Xx,<-F t];have q:=hs t;have I:=h t;generalize cf (Qi x y (x.length-y.length+1)) t=A at *;grind
 have z:=Yhf n g l λt M=>by rw [Ay,Xx,Xx,Yl (p:=Bl f x y) O,Yl (p:=Xs x y) O];omega
 have e:∀t,L*cf (Bl f x y) t=K*cf (Xs x y) t:=λt=>by have q:=l t;rw [Mr z,Ay,Xx,Xx]at q;grind
 unfold Pw;by_cases m:cf y (y.length-1)<0/\(x.length-y.length+1)%2=1
 .rw [aF m];have r:=d.1 m;exact Zid Ob j ⟨-L,K,O,o,λt=>by rw [Fm,<-e];grind⟩
 .rw [aD m];have r:=d.2 m;rw [show Yf (Yi (Xs x y)) (-1)=Zc2 (Yi (Xs x y))from rfl,<-Zrz j];exact Zid Ob Ob ⟨L,K,r,o,λt=>by rw [Fm,Fm,kJ,e,kJ]⟩
theorem Zap(c:Tr x):Tr (Pw x y):=by
 unfold Pw;split
 .exact Yy (Lx _ c)
 .exact Ob
theorem Au (y:List Int)(c:Tr x):(Pw x y).length=(Xs x y).length:=by
 unfold Pw;have h:Tr (Yi (Xs x y)):=Yy (Lx _ c);split
 .exact Zw _
 .rw [<-Zw (Xs x y)];exact((Zro (Yi (Xs x y)) (by decide:(-1:Int)≠0)).len h Ob).symm
theorem Zrl{n:Nat}(h:Sz n p):Sz n (Xa p):=λi=>by
 unfold Xa;rw [Dw];split
 .rw [iF];exact Fs h i
 .exact Fs h i
theorem Zij(h:Tr p)(c:p≠[]):Xa p≠[]:=λe=>c (aE (by rw [<-Qy h,e];rfl))
theorem Dt{g:List Int}(h:Tr g)(c:g≠[]):0<cf (Ku g) ((Ku g).length-1):=by have d:=h.mem c;rw [Av h,Dw];have:g.length≠0:=λe=>c (aE e);split<;>omega
theorem Zbz(h:Tr p)(c:p≠[]):Xb (Xa p)=1:=by unfold Xa;rw [Zga];exact Kr h c
theorem Zr6(h:Tr p)(c:Xb p=1)(d:0<cf p (p.length-1)):Xa p=p:=by unfold Xa;rw [Zd7 c];unfold Ku;rw [aD O]
theorem Pu (F:Nat)(v:Tr xs)(w:xs≠[])(D:eok F (gA (Xa xs) (Ys (Xa xs))) (gB (Xa xs) (Ys (Xa xs)))) :
  pdv (Xa xs) (Om F (Xa xs) (Ys (Xa xs)))/\Tr (sqf F xs)/\sqf F xs≠[]/\Xa xs=Qc (sqf F xs) (Om F (Xa xs) (Ys (Xa xs)))/\Om F (Xa xs) (Ys (Xa xs))≠[]/\Xa (sqf F xs)=sqf F xs:=by
 have hs:Tr (Xa xs):=Ok (Yy v);have j:Tr (Ys (Xa xs)):=Ov hs;have n:=Zij v w;have l:=(Zby hs j D).1;have o:=Zds F hs j;have d:Om F (Xa xs) (Ys (Xa xs))≠[]:=λe=>n ((e▸l).zero hs);have M:=Zih hs j d;obtain⟨k,s,N,h⟩:=l;obtain⟨q,P⟩:=gauss M _ k s rfl N h;have c:Xa xs=Qc (tzl q) (Om F (Xa xs) (Ys (Xa xs))):=hs.ext Xy λi=>by rw [Ki,P,Yat]
 obtain⟨I,R⟩:=Zud (Qa q) o d;have g:sqf F xs=tzl q:=by unfold sqf;have r:=R;rw [<-c]at r;exact r
 rw [<-c]at I;have f:tzl q≠[]:=λe=>n (by rw [c,e,Fa]);refine⟨I,by rw [g];exact Qa q,by rw [g];exact f,by rw [g];exact c,d,?_⟩;rw [g];refine Zr6 (Qa q) ?_ ?_
 .have z:=Zbz v w;have t:Xb (tzl q)∣Xb (Xa xs):=Fb λi=>by
   rw [c,Ki,PS.mul_c];have G:∀m,Xb (tzl q)∣Yb (λk=>(ps (tzl q)).c k*(ps (Om F (Xa xs) (Ys (Xa xs)))).c (i-k)) m:=λm=>by
    induction m with
    | zero=>exact jC _
    | succ m Q=>rw [Yk];exact Int.dvd_add Q (gX (Ma (tzl q) m) (iT _ _))
   exact G _
  rw [z]at t;have B:=Ni (tzl q);have H:=nF O3 t;have u:Xb (tzl q)≠0:=Bq (Qa q) f;omega
 .have S:=aG.2 f;have V:=aG.2 d;have z:0<cf (Xa xs) ((Xa xs).length-1):=Dt (Yy v) (λe=>w (aE (by rw [<-Zw,e];rfl)));have t:0<cf (Om F (Xa xs) (Ys (Xa xs))) ((Om F (Xa xs) (Ys (Xa xs))).length-1):=Dt (Zqb F (Zhr hs j) (Zhq hs j)) (λe=>d (by unfold Om;rw [e];rfl));have B:=On (Qa q) o f d;rw [<-c]at B;have H:cf (Xa xs) ((Xa xs).length-1)=cf (tzl q) ((tzl q).length-1)*cf (Om F (Xa xs) (Ys (Xa xs))) ((Om F (Xa xs) (Ys (Xa xs))).length-1):=by rw [B,c,Ki,<-c,show(tzl q).length+(Om F (Xa xs) (Ys (Xa xs))).length-1-1=((tzl q).length-1)+((Om F (Xa xs) (Ys (Xa xs))).length-1) by omega];exact Du _ (λi hi=>Yl O) (λi hi=>Yl O)
  rw [H]at z;rcases jE 0 (cf (tzl q) ((tzl q).length-1))with u|u
  .exact u
  .exfalso;have:=gL u (eE t);omega
def Of(p:List Int):(Ys p).length=p.length-1:=Yo _ _
theorem Zso{n:Nat}(c:Sz n p)(g:p.length<=25)(i:Nat):bl (cf p (i+1)*((i:Int)+1)).natAbs<=n+5:=by
 rcases bE (i+1) p.length with h|h
 .have d:=Xg (cf p (i+1)) ((i:Int)+1);have e:=c (i+1);have f:bl ((i:Int)+1).natAbs<=5:=(Qg 5 _).2 O;omega
 .rw [Yl h];simp [La]
theorem Zez(p:List Int)(i:Nat):cf (Ys p) i=cf p (i+1)*((i:Int)+1):=by
 unfold Ys;rw [Mh];split
 .rfl
 .rw [Yl O,cY]
theorem Bg{n:Nat}(d:Sz n p)(c:p.length<=25):Sz (n+5) (Ys p):=λi=>by rw [Zez];exact Zso d c i
theorem Zdn(h:Vp p)(c:∀i,i<p.length->bl (cf p (i+1)*((i:Int)+1)).natAbs<=65536):Vp (Ys p):=by
 refine⟨λi=>?_,Ov h.tr,by rw [Of];have:=h.len;omega⟩;rw [Zez];by_cases hi:i<p.length
 .exact c i hi
 .rw [Yl O];simp [La]
def sf_t(h:xs.length=0):Value.bool (decide (Bi xs))= .bool true:=aL Value.bool (aN (.inl h))
theorem sf_i{n:Int}(h:xs.length≠0)(d:n=(((xs.length+2)*(xs.length+2)*(Qk xs+16):Nat):Int)):Value.bool (decide (Bi xs))= .bool (decide (n<=65536)):=aL Value.bool (dD.2 (by
 subst d;show(xs.length=0\/(xs.length+2)*(xs.length+2)*(Qk xs+16)<=65536)↔_;constructor
 .intro c;rcases c with c|c
  .exact absurd c h
  .exact lB.2 c
 .intro c;exact .inr (lB.1 c)))
theorem Zwz(h:(Xs x y).length=0):Pw x y=[]:=by have c:Xs x y=[]:=aE h;unfold Pw;rw [c];split<;>rfl
theorem Yf5(e:y.length<=x.length)(c:(cf y (y.length-1)).sign<0)(d:((x.length:Int)-(y.length:Int)+1)%2=1):Pw x y=Yi (Xs x y):=by unfold Pw;rw [aF ⟨(Oh _).1 c,O⟩]
theorem Ztr(c:¬(cf y (y.length-1)).sign<0):Pw x y=Yf (Yi (Xs x y)) (-1):=by unfold Pw;rw [aD (λh=>c ((Oh _).2 h.1))]
theorem Ztq(d:y.length<=x.length)(c:¬((x.length:Int)-(y.length:Int)+1)%2=1):Pw x y=Yf (Yi (Xs x y)) (-1):=by unfold Pw;rw [aD (λh=>c O)]
theorem Zrg{F:Nat}(k:Vp xs)(l:xs≠[])(h:Yf4 F xs):Vp (sqf F xs):=by
 obtain⟨_,_,_,d,c⟩:=h;have j:=Zyv k;unfold sqf Kh;split
 .exact⟨Sz.nil _,Tr.nil,O7⟩
 .rename_i e;rcases c with c|c
  .exact absurd c e
  .have f:=(Zb9 d).2 c.1;refine⟨?_,Qa _,?_⟩
   .rw [<-Zeu];exact(Zto f c.2.1 _).tzl
   .have g:=Kl (Zfu (Xa xs) (Om F (Xa xs) (Ys (Xa xs))) ((Xa xs).length-(Om F (Xa xs) (Ys (Xa xs))).length+1));rw [Zeu,Za7]at g;have:=j.len;have:=(Zb9 d).1;omega
theorem Ziu{F:Nat}(g:Vp xs)(h:Yf4 F xs):(sqf F xs).length<=xs.length:=by
 obtain⟨_,_,_,d,c⟩:=h;have j:=Qy g.tr;unfold sqf Kh;split
 .exact bB _
 .rename_i e;rcases c with c|c
  .exact absurd c e
  .have f:=Kl (Zfu (Xa xs) (Om F (Xa xs) (Ys (Xa xs))) ((Xa xs).length-(Om F (Xa xs) (Ys (Xa xs))).length+1));rw [Zeu,Za7]at f;have:=(Zb9 d).1;have:=c.1;omega
theorem Zv5{L:List Int}{n l:Int}(hi:i<L.length)(h:(n,l)=(L.take i).foldl Ou (0,0))(hs:L.getD i 0=s)(c:s=0):(n,l)=(L.take (i+1)).foldl Ou (0,0):=by rw [Qb 0 L (k:=i) hi,Zc9,<-h,hs];unfold Ou;rw [aF c]
theorem Zv4{L:List Int}{n l:Int}(hi:i<L.length)(h:(n,l)=(L.take i).foldl Ou (0,0))(hs:L.getD i 0=s)(c:s≠0)(d:s=-l):(n+1,s)=(L.take (i+1)).foldl Ou (0,0):=by rw [Qb 0 L (k:=i) hi,Zc9,<-h,hs];unfold Ou;rw [aD c];dsimp only;rw [aF d]
theorem Zv3{L:List Int}{n l:Int}(hi:i<L.length)(h:(n,l)=(L.take i).foldl Ou (0,0))(hs:L.getD i 0=s)(c:s≠0)(d:¬s=-l):(n,s)=(L.take (i+1)).foldl Ou (0,0):=by rw [Qb 0 L (k:=i) hi,Zc9,<-h,hs];unfold Ou;rw [aD c];dsimp only;rw [aD d]
theorem Yjf{L:List Int}{n l:Int}(hi:L.length<=i)(h:(n,l)=(L.take i).foldl Ou (0,0)):n=chg L:=by rw [cK hi]at h;unfold chg;rw [<-h]
theorem Zzz{z:Int}:-1<=z.sign/\z.sign<=1:=by
 rcases jV z 0 with h|h|h
 .rw [fM h];omega
 .subst h;simp
 .rw [gF h];omega
theorem Ybn{α:Type}{d:α}{f:α->Int}{ls:List α}(h:i<ls.length):(ls.map f).getD i 0=f (ls.getD i d):=by simp [aC,h]
def sgx(ls:List (SL×List Int))(f:List Int->Int):List Int:=ls.map λz=>f z.2
def Zoo(ls:List (SL×List Int))(f:List Int->Int)(h:i<ls.length):(sgx ls f).getD i 0=f (ls.getD i ((none,0,0),[])).2:=Ybn h
def Ziv(ls:List (SL×List Int))(f:List Int->Int):(sgx ls f).length=ls.length:=aQ ..
def fr(p:List Int):Int:=(cf p (p.length-1)).sign
def fl(p:List Int):Int:=if p.length%2=0 then-(cf p (p.length-1)).sign else(cf p (p.length-1)).sign
def fat(x y:Int)(p:List Int):Int:=(pev p x y).sign
def fat_r(x y:Int)(p:List Int):-1<=fat x y p/\fat x y p<=1:=Zzz
theorem Zj3:∀(f:Nat) {x y:List Int},Vp x->Vp y->cok f x y->∀p∈Nc f x y,Vp p
 | 0,x,y,d,_,_,p,c=>by rw [bZ.1 c];exact d
 | f+1,x,y,d,e,h,p,c=>by
  unfold Nc at c;split at c
  .rw [bZ.1 c];exact d
  .rcases h with h|h
   .contradiction
   .rcases bG.1 c with rfl|c
    .exact d
    .exact Zj3 f e (Zn7 d h.1) h.2.2 p c
theorem vp_chn{F:Nat}(e:Vp xs)(f:xs≠[])(j:Ce F xs):∀p∈chn F xs,Vp p:=by obtain⟨c,g,h⟩:=j;have d:=Zrg e f c;exact Zj3 F d (Lv (Zdn d (λi hi=>g i (by have:=Ziu e c;omega)))) h
def cnt(F:Nat)(xs:List Int)(x y:Int):Int:=chg ((chn F xs).map (fat x y))
def sright(F:Nat)(xs:List Int):Int:=chg ((chn F xs).map fr)
def sleft(F:Nat)(xs:List Int):Int:=chg ((chn F xs).map fl)
theorem Ztt{C:List (List Int)}(h:ls.map Prod.snd=C)(f:List Int->Int):sgx ls f=C.map f:=by rw [<-h,kZ];rfl
def Nj{C:List (List Int)}{p:List Int->Prop}(h:ls.map Prod.snd=C)(c:∀q∈C,p q):∀z∈ls,p z.2:=λz d=>c _ (h▸List.mem_map_of_mem d)
theorem Zfw(L:List Int):0<=chg L/\chg L<=L.length:=by
 unfold chg;suffices h:∀(l:List Int) (s:Int×Int),s.1<=(l.foldl Ou s).1/\(l.foldl Ou s).1<=s.1+l.length by have:=h L (0,0);simpa using this
 intro l
 induction l with
 | nil=>intro s;simp
 | cons x l c=>
  intro s;have d:=c (Ou s x);have e:=chg1_n s x;simp only [gP,cD];omega
theorem Zcm:∀(f:Nat) (x y:List Int),(Nc f x y).length<=f+1
 | 0,x,y=>aK _
 | f+1,x,y=>by
  unfold Nc;split
  .simp
  .have:=Zcm f y (Pw x y);simp;omega
def sm(xs:List Int)(i:Nat):Nat:=(xs.take i).foldl (λm c=>max m c.natAbs) 0
def Zc6{x y:Int}(h:¬Ld x y):Hi x y=x/Nu x y/\Ij x y=y/Nu x y/\Yao x y=0:=⟨aD h,aD h,aD h⟩
theorem nr_bl{x y:Int}(h:¬Ld x y):bl (Hi x y).natAbs<=65536/\bl (Ij x y).natAbs<=65536:=by obtain⟨c,d,_⟩:=Zc6 h;rw [c,d];unfold Ld at h;omega
theorem Zr7{x y:Int}(h:¬Ld x y)(c:0<y):0<Ij x y:=by rw [(Zc6 h).2.1];exact Zxs c
abbrev R2:=Int×Int
def Qt(a b:R2):R2:=(Hi (Hi (a.1*b.2+b.1*a.2) (a.2*b.2)*1) (Ij (a.1*b.2+b.1*a.2) (a.2*b.2)*2),Ij (Hi (a.1*b.2+b.1*a.2) (a.2*b.2)*1) (Ij (a.1*b.2+b.1*a.2) (a.2*b.2)*2))
def Zcl(a b:R2):Prop:=¬Ld (a.1*b.2+b.1*a.2) (a.2*b.2)/\¬Ld (Hi (a.1*b.2+b.1*a.2) (a.2*b.2)*1) (Ij (a.1*b.2+b.1*a.2) (a.2*b.2)*2)
instance (a b:R2):Decidable (Zcl a b):=by unfold Zcl;infer_instance
def Zxl{a b:R2}(h:Zcl a b):Yao (Hi (a.1*b.2+b.1*a.2) (a.2*b.2)*1) (Ij (a.1*b.2+b.1*a.2) (a.2*b.2)*2)=0:=(Zc6 h.2).2.2
def isp(c:R2->Int)(e:Int):Nat->R2->R2->Int->Int->Nat->List (R2×R2)
 | 0,_,_,_,_,_=>[]
 | f+1,a,b,fr,g,d=>if fr=g then []else if fr-g=1/\e<=(d:Int)then [(a,b)]else isp c e f a (Qt a b) fr (c (Qt a b)) (d+1) ++ isp c e f (Qt a b) b (c (Qt a b)) g (d+1)
def Zu2(c:R2->Int)(g:R2->Prop)(e:Int):Nat->R2->R2->Int->Int->Nat->Prop
 | 0,_,_,_,_,_=>False
 | f+1,a,b,fr,h,d=>fr=h\/(fr-h=1/\e<=(d:Int))\/(d<1000/\Zcl a b/\g (Qt a b)/\Zu2 c g e f a (Qt a b) fr (c (Qt a b)) (d+1)/\Zu2 c g e f (Qt a b) b (c (Qt a b)) h (d+1))
instance ispDec (c:R2->Int) (e:R2->Prop) [DecidablePred e] (g:Int):∀f a b fr h d,Decidable (Zu2 c e g f a b fr h d)
 | 0,_,_,_,_,_=>inferInstanceAs (Decidable False)
 | f+1,a,b,fr,h,d=>@instDecidableOr _ _ _ (@instDecidableOr _ _ _ (@instDecidableAnd _ _ _ (@instDecidableAnd _ _ _ (@instDecidableAnd _ _ _ (@instDecidableAnd _ _ (ispDec c e g f a (Qt a b) fr (c (Qt a b)) (d+1)) (ispDec c e g f (Qt a b) b (c (Qt a b)) h (d+1)))))))
def okQ(z:R2):Prop:=bl z.1.natAbs<=65536/\bl z.2.natAbs<=65536/\0<z.2
def evok(ls:List (SL×List Int))(m:R2):Prop:=∀z∈ls,¬Mv z.2 m.1 m.2
def cvx(ls:List (SL×List Int))(m:R2):Int:=chg (sgx ls (fat m.1 m.2))
def cvc(F:Nat)(xs:List Int)(m:R2):Int:=cnt F xs m.1 m.2
def evc(F:Nat)(xs:List Int)(m:R2):Prop:=∀p∈chn F xs,¬Mv p m.1 m.2
def slow(a:R2):R2:=(Hi a.1 a.2,Ij a.1 a.2)
def sisol(F:Nat)(xs:List Int)(f:Nat)(a b:R2)(c:Int):List (R2×R2):=isp (cvc F xs) c f (slow a) (slow b) (cvc F xs a) (cvc F xs b) 0
def isOK(F:Nat)(xs:List Int)(f:Nat)(a b:R2)(c:Int):Prop:=Ce F xs/\evc F xs a/\evc F xs b/\¬Ld a.1 a.2/\¬Ld b.1 b.2/\Zu2 (cvc F xs) (evc F xs) c f (slow a) (slow b) (cvc F xs a) (cvc F xs b) 0/\(sisol F xs f a b c).length<=1000000
open Go.RowKit Below
variable {P:Program} {N:Nat} {sc:Nat->Prop} {env env':Xz} {H H':Hp} {Q Q':Exit->Act->World->Prop} {M:Nat->Prop}
def CalM(P:Program)(f:FuncId)(args:Array Value)(d:List Pc){G:Type}(φ:G->Prop)(val:G->Value)(h c:G->Pc):Prop:=
 ∀w,(∀p∈d,p.holds w)->Calls P f args w λe j=>∃g,e= .returned (val g)/\φ g/\Below w.heap.size w j/\(h g).holds j/\(∀b,(h g).fp b->w.heap.size<=b)/\
  (c g).holds j/\(c g).own=false/\(∀b,(c g).fp b->w.heap.size<=b\/∃q∈d,q.fp b)/\∀b,(h g).fp b->(c g).fp b->False
def FPostM(P:Program)(fn:Func)(d:World)(h:List Pc){G:Type}(φ:G->Prop)(val:G->Value)(f c:G->Pc):Exit->Act->World->Prop:=
 bodyPost P fn λe j=>∃g,e= .returned (val g)/\φ g/\Below d.heap.size d j/\(f g).holds j/\(∀b,(f g).fp b->d.heap.size<=b)/\
  (c g).holds j/\(c g).own=false/\(∀b,(c g).fp b->d.heap.size<=b\/∃q∈h,q.fp b)/\∀b,(f g).fp b->(c g).fp b->False
theorem Iz{β:Type}{q:β->Pc}{zs ys:List β}(i j n:Nat)(hi:lk H i=some (Im q zs))(l:lk H j=some (Im q ys))(d:Nat.beq i 0=false)(e:Nat.beq j 0=false) :
  ∀a w,Sat N sc env H a w->Sat N sc env ((n,Im q (zs ++ ys))::H) a w:=
 Zrs i j n hi l d e rfl rfl (λw g k y f=>by
  rcases cS.1 f with h|h
  .exact g y h
  .exact k y h) (λb c=>by
  obtain⟨y,f,c⟩:=c;rcases cS.1 f with h|h
  .exact .inl ⟨y,h,c⟩
  .exact .inr ⟨y,h,c⟩) rfl
abbrev qD (z:SL×Nat):Pc:=d9p (Xw z.1) z.2
abbrev JE:=(R2×R2)×(SL×SL×SL×SL)
abbrev encJ (y:JE):Value:= .agg #[.bool (decide (y.1.1.1<0)),Xw y.2.1,.bool (decide (y.1.1.2<0)),Xw y.2.2.1,.bool (decide (y.1.2.1<0)),Xw y.2.2.2.1,.bool (decide (y.1.2.2<0)),Xw y.2.2.2.2]
abbrev qJ (y:JE):Pc:=Im qD [(y.2.1,y.1.1.1.natAbs),(y.2.2.1,y.1.1.2.natAbs),(y.2.2.2.1,y.1.2.1.natAbs),(y.2.2.2.2,y.1.2.2.natAbs)]
abbrev J0:JE:=(((0,0),(0,0)),((none,0,0),(none,0,0),(none,0,0),(none,0,0)))
end Go.Sky
namespace Go.Sky
variable{M M0:Nat->Prop}{o:Oper}{x y:Operand}{t tb:TypeId}{b:Nat}{cs:Array Value}{v:Value}{vs:List Value}{zs:List (SL×List Int)}{r:List Pc}{z:SL×List Int}
variable {P:Program} {N:Nat} {sc:Nat->Prop} {env env':Xz} {H H':Hp} {Q Q':Exit->Act->World->Prop}
theorem Zos(w:World)(g:Nat)(cs:Array Value)(t:TypeId){fr:Nat×Nat}(a:w.heap[g]? = some (.cells cs t fr)):w.setRow g cs=w:=by
 obtain⟨c,d⟩:=aO.1 a;have h:(w.setRow g cs).heap=w.heap:=by
  apply Array.ext_getElem?;intro i;by_cases h:g=i
  .subst h;rw [setRow_heap w g cs cs t fr a,a]
  .unfold World.setRow;dsimp only;rw [Array.getElem?_modify,aD h]
 have e:w.setRow g cs={ w with heap:=(w.setRow g cs).heap }:=rfl;rw [e,h]
theorem Zke (i:Nat)     {j k:Nat}    (s:o.op= .store t x y) (p:o.dst=none)
  (D:ev env x=some (.pointer (some ⟨b,j,none⟩))) (F:ev env y=some v) (m:lk H i=some (Ke b tb cs)) (B:v.cells=vs.toArray) (q:∀w,(sizeOf t).run P w= .ok k w) (d:vs.length=k)
  (c:Nat.ble (j+vs.length) cs.size=true) (l:∀u∈vs,u.oneCell'=true) (e:Ip cs j vs=cs) :
  T P N sc M o env H (G:=Unit) (λ_=>True) (λ_=>env) (λ_=>H):=λa w hs K Q n=>by
 have g:w.heap[b]? = some (.cells cs tb (0,0)):=hs.hold i _ m;have f:=run_storeCells_at P b j tb vs 0 cs w g (by simpa using iO c) l;simp only [fK]at f;have h:(execOp a.eval o).run P w= .ok .skip (w.setRow b (Ip cs j vs)):=by simp [execOp,s,hs.ev D,hs.ev F,Instr.storeAt,Instr.sureAddr,storeVar,B,q,d,f,Ip]
 rw [e,Zos w b cs tb g]at h;unfold Oper.wp;rw [h];show K (a.put o.dst _) _;rw [p];exact n () _ _ aA (hs.put_none undef) (Chg.refl _ _)
def Yih{c:Code}(h:E P N sc c (Exit.noGoto Q) env H):E P N sc (.scope c) Q env H:=λa w hs=>wp_scope_straight (h a w hs)
def Zti(h:X N sc .ret Q env H):X N sc .ret (Exit.noGoto Q) env H:=h
def Yii{l:Nat}(h:X N sc .normal Q env H):E P N sc (.label l) Q env H:=λa w hs=>wp_label (h a w hs)
def t_stp1     {i j:Nat}   {f:World}  (n:o.op= .store t x y) (l:o.dst=none)
  (q:ev env x=some (.pointer (some ⟨b,j,none⟩))) (s:ev env y=some v) (h:lk H i=some (box b tb cs)) (d:i≠0) (m:∀w,(sizeOf t).run P w= .ok 1 w) (c:Nat.ble (j+1) cs.size=true) (e:One N sc env H v)
  (g:lk H 0=some (Yt f M0)) (p:∀b,f.heap.size<=b->sc b) (k:M b) :
  T P N sc M o env H (G:=Unit) (λ_=>True) (λ_=>env) (λ_=>(i,box b tb (Ip cs j [v]))::H):=λa w hs=>
 t_stp (cs':=#[]) (vs:=[v]) n l q s h d (Zi (e a w hs)) m rfl c ⟨e,aA⟩ g p k a w hs
def Yav{al:Bool}(i:Nat)(hi:lk H i=some (Qh 1 Kx (λy:SL×List Int=>Yg 2 wv (Xw y.1) y.2) v zs))(a:Nat.beq i 0=false)(c:z∈zs)(h:PreOk H al r):PreOk H al (Yg 2 wv (Xw z.1) z.2::r):=Yau (q:=λy:SL×List Int=>Yg 2 wv (Xw y.1) y.2) (z:=z) i hi a c h
end Go.Sky
namespace Go.Sky
variable{v:Int}{o:Oper}{x y:Operand}{t tb:TypeId}{b i:Nat}{kd:IntKind}{M M0:Nat->Prop}{w0:World}{cs:Array Value}
variable {P:Program} {N:Nat} {sc:Nat->Prop} {env env':Xz} {H H':Hp} {Q Q':Exit->Act->World->Prop}
def Cc(l:List Int):Array Value:=(l.map (Value.int .i64)).toArray
theorem Zwq(l:List Int):(Cc l).size=l.length:=by simp [Cc]
theorem Zyt{l:List Int}{j:Nat}(h:j<l.length):(Cc l)[j]? = some (.int .i64 (l.getD j 0)):=by simp [Cc,aH h,aC]
theorem Zys{l:List Int}{j:Nat}(h:j<l.length):Ip (Cc l) j [.int .i64 v]=Cc (l.set j v):=by unfold Ip Cc;congr 1;rw [jR,aF h,cE,bN,iN,List.map_drop];simp
theorem Ir (i:Nat)   {e:TypeId} {d k c:Nat}  {m:Int} (j:o.op= .indexAddr t x y) (n:ev env x=some (.pointer (some ⟨b,d,none⟩))) (p:ev env y=some (.int kd m))
  (l:P.underlying t=some (.array c e)) (h:∀w,(sizeOf e).run P w= .ok k w) (f:m=(i:Int):=by omega) (g:i<c:=by omega):Nf P N sc o env H (.pointer (some ⟨b,d+i*k,none⟩)):=λa w hs=>by
 subst f;simp [execOp,j,hs.ev n,hs.ev p,Instr.indexAt,Instr.sureAddr,asIntOf,run_underlying l,h,g,Pb]
theorem Zx8 (i:Nat){j:Nat}{l:List Int}(d:o.op= .load t x)(f:ev env x=some (.pointer (some ⟨b,j,none⟩)))(a:lk H i=some (box b tb (Cc l)))(e:∀w,(isAgg t).run P w= .ok false w)(c:j<l.length:=by omega) :
  Nf P N sc o env H (.int .i64 (l.getD j 0)):=Zx9 _ d f a e (Zyt c)
theorem d_lwa{k:Nat}{l:List Int}(e:o.op= .load t x)(h:ev env x=some (.pointer (some ⟨b,0,none⟩)))(a:lk H i=some (box b tb (Cc l)))(f:∀w,(isAgg t).run P w= .ok true w)(c:∀w,(sizeOf t).run P w= .ok k w)(d:l.length=k) :
  Nf P N sc o env H (.agg (Cc l)):=
 Zvt (l.map (Value.int .i64)) e h a f c (by simpa using d) (λn u g=>by rw [bP];simpa [Cc]using g)
theorem Zrk (i:Nat)     {j:Nat} {l:List Int}    (k:o.op= .store t x y) (g:o.dst=none)
  (p:ev env x=some (.pointer (some ⟨b,j,none⟩))) (q:ev env y=some (.int .i64 v)) (e:lk H i=some (box b tb (Cc l))) (h:∀w,(sizeOf t).run P w= .ok 1 w) 
  (d:lk H 0=some (Yt w0 M0)) (n:∀b,w0.heap.size<=b->sc b) (f:M b) (a:i≠0:=by decide) (c:j<l.length:=by omega) :
  T P N sc M o env H (G:=Unit) (λ_=>True) (λ_=>env) (λ_=>(i,box b tb (Cc (l.set j v)))::H):=by
 rw [<-Zys c];exact Zf1 [.int .i64 v] k g p q e a rfl h rfl (by rw [Zwq];exact c) (λu m=>Ze (by rw [bZ.1 m];rfl)) rfl d n f
theorem Zy3 (i:Nat)     {k:Nat}  {l:List Int}   (j:o.op= .store t x y) (f:o.dst=none)
  (p:ev env x=some (.pointer (some ⟨b,0,none⟩))) (q:ev env y=some (.agg (Cc l))) (d:lk H i=some (box b tb cs)) (g:∀w,(sizeOf t).run P w= .ok k w) (h:l.length=k) (r:cs.size=k)
  (c:lk H 0=some (Yt w0 M0)) (n:∀b,w0.heap.size<=b->sc b) (e:M b) (a:i≠0:=by decide) :
  T P N sc M o env H (G:=Unit) (λ_=>True) (λ_=>env) (λ_=>(i,box b tb (Cc l))::H):=
 Zf1 (l.map (Value.int .i64)) j f p q d a rfl g (by simpa using h) O8 (λu m=>Ze (by obtain⟨z,_,rfl⟩:=eQ.1 m;rfl)) (by unfold Ip Cc;rw [dY,fD,bP,jW O8,fE]) c n e
def Ph:Nat->Nat->Nat
 | _,0=>1
 | 0,_+1=>0
 | n+1,k+1=>Ph n k+Ph n (k+1)
theorem Zsx:∀n k,Ph n k<=2^n
 | 0,0=>O3
 | _+1,0=>dO _
 | 0,_+1=>bB _
 | n+1,k+1=>by have a:=Zsx n k;have c:=Zsx n (k+1);show Ph n k+Ph n (k+1)<=2^(n+1);rw [cC];omega
theorem Zjg:∀n k,n<k->Ph n k=0
 | _,0,h=>absurd h (cN _)
 | 0,_+1,_=>rfl
 | n+1,k+1,h=>by show Ph n k+Ph n (k+1)=0;rw [Zjg n k O,Zjg n (k+1) O]
structure Tab (l:List Int) (n k:Nat):Prop where
 len:l.length=625
 eq:∀r c,r<25->c<25->l.getD (r*25+c) 0=if r<n\/(r=n/\c<k)then(Ph r c:Int)else 0
theorem Zfq{l:List Int}{j:Nat}(hi:i<l.length:=by omega):(l.set i v).getD j 0=if j=i then v else l.getD j 0:=by
 rw [aC,aC,List.getElem?_set];by_cases h:i=j
 .subst h;rw [aF rfl,aF hi,aF rfl];rfl
 .rw [aD h,aD (λe=>h e.symm)]
theorem Tab.start:Tab (List.replicate 625 0) 0 0:=⟨aV,λr c d a=>by rw [aD O,aC];rw [iE];split<;>rfl⟩
theorem Tab.step{l:List Int}{n k:Nat}(h:Tab l n k)(w:n<25)(u:k<25)(s:v=(Ph n k:Int)){j:Nat}(m:j=n*25+k):Tab (l.set j v) n (k+1):=by
 subst m;have p:=h.len;refine⟨by rw [cI];exact p,λr c q f=>?_⟩;rw [Zfq,h.eq r c q f];by_cases e:r*25+c=n*25+k
 .have a:r=n:=O;have d:c=k:=O;subst a;subst d;rw [aF rfl,aF O];exact s
 .rw [aD e];have:¬(r=n/\c=k):=λ⟨a,d⟩=>e (by rw [a,d]);by_cases g:r<n\/(r=n/\c<k)
  .rw [aF g,aF O]
  .rw [aD g,aD O]
theorem Tab.row{l:List Int}{n k:Nat}(h:Tab l n k)(f:n<k):Tab l (n+1) 0:=⟨h.len,λr c e d=>by
 rw [h.eq r c e d];by_cases g:r<n\/(r=n/\c<k)
 .rw [aF g,aF O]
 .rw [aD g];by_cases a:r<n+1\/(r=n+1/\c<0)
  .rw [aF a,Zjg r c O];rfl
  .rw [aD a]⟩
theorem Tab.get{l:List Int}{n k r c:Nat}(h:Tab l n k)(f:r<25)(d:c<25)(a:r<n\/(r=n/\c<k)){j:Nat}(e:j=r*25+c):l.getD j 0=(Ph r c:Int):=by rw [e,h.eq r c f d,aF a]
theorem Zv2 (n:Nat)(k:Nat)(c:1<=n:=by omega)(a:1<=k:=by omega):Ph n k=Ph (n-1) (k-1)+Ph (n-1) k:=by obtain⟨m,rfl⟩:∃m,n=m+1:=⟨n-1,O⟩;obtain⟨j,rfl⟩:∃j,k=j+1:=⟨k-1,O⟩;rfl
end Go.Sky
namespace Go.Sky
variable{t tb:TypeId}{parts:List (Nat×Value)}{cells:Array Value}{o:Oper}{x y:Operand}{kd:IntKind}{v0 v1 v2:Value}{b:Nat}{M M0:Nat->Prop}
structure Tb (l:List Int) (n k:Nat):Prop where
 len:l.length=36
 eq:∀r c,r<6->c<6->l.getD (r*6+c) 0=if r<n\/(r=n/\c<k)then(Ph r c:Int)else 0
theorem Tb.start:Tb (List.replicate 36 0) 0 0:=⟨aV,λr c d a=>by rw [aD O,aC];rw [iE];split<;>rfl⟩
theorem Tb.step{l:List Int}{n k:Nat}{v:Int}(h:Tb l n k)(u:n<6)(s:k<6)(q:v=(Ph n k:Int)){j:Nat}(i:j=n*6+k):Tb (l.set j v) n (k+1):=by
 subst i;have m:=h.len;refine⟨by rw [cI];exact m,λr c p f=>?_⟩;rw [Zfq,h.eq r c p f];by_cases e:r*6+c=n*6+k
 .have a:r=n:=O;have d:c=k:=O;subst a;subst d;rw [aF rfl,aF O];exact q
 .rw [aD e];have:¬(r=n/\c=k):=λ⟨a,d⟩=>e (by rw [a,d]);by_cases g:r<n\/(r=n/\c<k)
  .rw [aF g,aF O]
  .rw [aD g,aD O]
theorem Tb.row{l:List Int}{n k:Nat}(h:Tb l n k)(f:n<k):Tb l (n+1) 0:=⟨h.len,λr c e d=>by
 rw [h.eq r c e d];by_cases g:r<n\/(r=n/\c<k)
 .rw [aF g,aF O]
 .rw [aD g];by_cases a:r<n+1\/(r=n+1/\c<0)
  .rw [aF a,Zjg r c O];rfl
  .rw [aD a]⟩
theorem Tb.get{l:List Int}{n k r c:Nat}(h:Tb l n k)(f:r<6)(d:c<6)(a:r<n\/(r=n/\c<k)){j:Nat}(e:j=r*6+c):l.getD j 0=(Ph r c:Int):=by rw [e,h.eq r c f d,aF a]
theorem Zsy (k:Nat){n:Nat}(h:n<=5:=by omega):Ph n k<=32:=aB (Zsx n k) (aB (dE O3 h) O3)
theorem Ff {P:Program} {e:TypeId} {n:Nat} {c a:TypeInfo} {z:Value}   (hi:P.info? t=some c) (g:P.underlying t=some (.array n e)) (h:c.zero=some z) (d:P.info? e=some a)
  (f:Instr.fill (λi=>some (i*a.size,a.size)) z.cells parts=some cells):P.built t parts=some cells:=by
 unfold Program.built;simp only [hi,g,h,d,f]
variable {P:Program} {N:Nat} {sc:Nat->Prop} {env env':Xz} {H H':Hp} {Q Q':Exit->Act->World->Prop}
def Zt{α:Type _}(i:Nat)(a b c:α):α:=match i with
 | 0=>a
 | 1=>b
 | _=>c
theorem Ft{α:Type _}{p:α->Prop}{i:Nat}{a b c:α}(d:p a)(e:p b)(f:p c):p (Zt i a b c):=by unfold Zt;split<;>assumption
theorem Zle (i:Nat)   {e:TypeId}   {m:Int}  (j:o.op= .index t x y) (l:ev env x=some (.agg #[v0,v1,v2])) (n:ev env y=some (.int kd m))
  (k:P.underlying t=some (.array 3 e)) (g:∀w,(sizeOf e).run P w= .ok 1 w) (f:∀w,(isAgg e).run P w= .ok false w) (c:m=(i:Int)) (h:i<3:=by omega):Nf P N sc o env H (Zt i v0 v1 v2):=λa w hs=>by
 subst c;have d:i=0\/i=1\/i=2:=O;rcases d with rfl|rfl|rfl<;>simp [execOp,j,hs.ev l,hs.ev n,Instr.index,asIntOf,run_underlying k,g,f,asAgg,part,Zt]
theorem Zav {α:Type} {k:Nat} {enc:α->Value}  {f g j:List α} (i c d e n:Nat) (l:lk H c=some (Yg k enc v0 f)) (m:lk H d=some (Yg k enc v1 g)) (p:lk H e=some (Yg k enc v2 j))
  (q:Nat.beq c 0=false) (r:Nat.beq d 0=false) (s:Nat.beq e 0=false):∀a w,Sat N sc env H a w->Sat N sc env ((n,Yg k enc (Zt i v0 v1 v2) (Zt i f g j))::H) a w:=by
 match i with
 | 0=>exact Zau c n l q rfl (λw h=>h) (λb h=>h) rfl
 | 1=>exact Zau d n m r rfl (λw h=>h) (λb h=>h) rfl
 | i+2=>exact Zau e n p s rfl (λw h=>h) (λb h=>h) rfl
theorem Zqq (i:Nat)(j:Nat){α:Type}{k:Nat}{enc:α->Value}{l:List α}(d:α)(n:o.op= .load t x)(s:ev env x=some (.pointer (some ⟨b,0+j*k,none⟩)))(g:lk H i=some (box b tb (cellsOf enc l).toArray))(e:Enc P t k enc)(m:j<l.length) :
  Nf P N sc o env H (enc (l.getD j d)):=λa w hs=>by
 have hi:l[j]? = some (l.getD j d):=by simp [List.getD,aH m]
 have h:=e.load (l.getD j d) w ⟨b,0+j*k,none⟩ (λq u p=>by have f:=Kv e.cells l j _ hi q u p;rw [Pb,hs.boxc g];simpa using f)
 have c:=hs.ev s;generalize enc (l.getD j d)=r at h ⊢;generalize (⟨b,0+j*k,none⟩:Addr)=v at h c;simp [execOp,n,c,Instr.loadAt,Instr.sureAddr,h]
theorem t_sbe (i:Nat)(j:Nat)(k:Nat) {α:Type}      {enc:α->Value} {l:List α} (z:α) {g:World}  (r:o.op= .store t x y) (p:o.dst=none)
  (w:ev env x=some (.pointer (some ⟨b,0+j*k,none⟩))) (B:ev env y=some (enc z)) (m:lk H i=some (box b tb (cellsOf enc l).toArray)) (a:Enc P t k enc) (f:j<l.length)
  (h:lk H 0=some (Yt g M0)) (v:∀b,g.heap.size<=b->sc b) (n:M b) (c:i≠0:=by decide) :
  T P N sc M o env H (G:=Unit) (λ_=>True) (λ_=>env) (λ_=>(i,box b tb (cellsOf enc (l.set j z)).toArray)::H):=by
 have q:=Yx a.cells l;have e:(enc z).cells.toList.length=k:=by simp [a.cells]
 have d:(j+1)*k<=l.length*k:=aM _ f;rw [eF]at d;refine Zf1 ((enc z).cells.toList) r p w B m c rfl a.size e (by rw [e,iR,q];omega) (λu s=>Ze (a.one z u s)) ?_ h v n;unfold Ip;rw [bP,e,Zbl a.cells l j z f]
end Go.Sky
namespace Go.Sky
variable{o:Oper}{x:Operand}{t tb te:TypeId}{M M0:Nat->Prop}{cs:Array Value}
variable {P:Program} {N:Nat} {sc:Nat->Prop} {env env':Xz} {H H':Hp} {Q Q':Exit->Act->World->Prop}
theorem d_lea{α:Type}{i b k q:Nat}{enc:α->Value}{l:List α}(f:o.op= .load t x)(j:ev env x=some (.pointer (some ⟨b,0,none⟩)))(a:lk H i=some (box b tb (cellsOf enc l).toArray))(c:Enc P te q enc)(g:∀w,(isAgg t).run P w= .ok true w)(d:∀w,(sizeOf t).run P w= .ok k w)(e:l.length*q=k) :
  Nf P N sc o env H (.agg (cellsOf enc l).toArray):=
 Zvt (cellsOf enc l) f j a g d (by rw [Yx c.cells l];exact e) (λn u h=>by rw [bP];simpa using h)
theorem t_sea {α:Type}   {y:Operand}  {i b k q:Nat}  {enc:α->Value} {l:List α} {f:World}  (s:o.op= .store t x y) (n:o.dst=none)
  (B:ev env x=some (.pointer (some ⟨b,0,none⟩))) (D:ev env y=some (.agg (cellsOf enc l).toArray)) (h:lk H i=some (box b tb cs)) (a:i≠0) (d:Enc P te q enc) (p:∀w,(sizeOf t).run P w= .ok k w) (r:l.length*q=k) (m:cs.size=k)
  (g:lk H 0=some (Yt f M0)) (v:∀b,f.heap.size<=b->sc b) (j:M b) :
  T P N sc M o env H (G:=Unit) (λ_=>True) (λ_=>env) (λ_=>(i,box b tb (cellsOf enc l).toArray)::H):=by
 have c:(cellsOf enc l).length=k:=by rw [Yx d.cells l];exact r
 refine Zf1 (cellsOf enc l) s n B D h a rfl p c (by rw [c,bP,m];exact aK _) (λu e=>?_) (by unfold Ip;rw [dY,fD,bP,jW O8,fE]) g v j
 unfold cellsOf at e;obtain⟨z,_,F⟩:=kD.1 e;exact Ze (d.one z u F)
end Go.Sky
namespace Go.Sky
variable {P:Program} {N:Nat} {sc:Nat->Prop} {env env':Xz} {H H':Hp} {Q Q':Exit->Act->World->Prop}
abbrev Zj:=(Int×Int×Int)×(SL×List Int)×(SL×List Int)×(SL×List Int)
abbrev Qu (g:Zj):Value:= .agg #[.int .i64 g.1.1,.int .i64 g.1.2.1,.int .i64 g.1.2.2,Xw g.2.1.1,Xw g.2.2.1.1,Xw g.2.2.2.1]
abbrev qC (z:SL×List Int):Pc:=Yg 1 Zz (Xw z.1) z.2
abbrev qG (g:Zj):Pc:=Im qC [g.2.1,g.2.2.1,g.2.2.2]
abbrev G0:Zj:=((0,0,0),((none,0,0),[]),((none,0,0),[]),((none,0,0),[]))
def Ny (g:Zj)(z:SL×List Int){v:Value}{ps:List Zj}(j n:Nat)(i:lk H j=some (Qh 6 Qu qG v ps))(c:Nat.beq j 0=false)(d:g∈ps)(e:z∈[g.2.1,g.2.2.1,g.2.2.2]):∀a w,Sat N sc env H a w->Sat N sc env ((n,Yg 1 Zz (Xw z.1) z.2)::H) a w:=
 Zau j n i c rfl (λw h=>h.2 g d z e) (λb f=> .inr ⟨g,d,z,e,f⟩) rfl
end Go.Sky
namespace Go.Sky
variable{x c y z a b:List Int}{i:Nat}{over ov:Int}{s η ε t δ:Rat}{f:Rat->Rat}{fs:List (Rat->Rat)}
theorem Ek{x:Int}(h:Me x):bl x.natAbs<=64:=(Qg 64 _).2 (by obtain⟨d,e⟩:=h;omega)
theorem in_bl{x:Int}(h:bl x.natAbs<=63):Me x:=by have:=(Qg 63 x.natAbs).1 h;exact⟨O,O⟩
theorem bl_pw{n:Int}(h:bl n.natAbs<=100)(hi:i<=10):bl (n^i).natAbs<=1000:=by
 rcases aZ i with d|d
 .subst d;rw [cW];decide
 .exact aB (De n h i d) (by have:=aM 100 hi;omega)
def Ck:List Int->Int
 | []=>1
 | x::r=>x*Ck r
def zc6_eq:(Value.agg (List.replicate 36 (Value.int .i64 0)).toArray).cells=Cc (List.replicate 36 0):=rfl
def Znz:(Value.agg (List.replicate 36 (Value.int .i64 0)).toArray).cells.size=36:=rfl
def w60(n j k:Nat):Int:=60/(Ph n k:Int)*(Ph j k:Int)
def ctl(c:List Int)(j m:Nat):Int:=Yb (λk=>c.getD k 0*w60 (c.length-1) j k) m
def Yd1(c:List Int)(j m:Nat):ctl c j (m+1)=ctl c j m+c.getD m 0*w60 (c.length-1) j m:=rfl
theorem Znl:∀{n k:Nat},k<=n->0<Ph n k
 | n,0,_=>by cases n<;>exact Nat.one_pos
 | n+1,k+1,h=>by have:=Znl (n:=n) (k:=k) O;show 0<Ph n k+Ph n (k+1);omega
theorem Zyu (n:Nat)(k:Nat){j:Nat}(g:j<=5):0<=w60 n j k/\w60 n j k<=1920:=by have h:=Zsy k g;unfold w60;have d:(0:Int)<=60/(Ph n k:Int):=kS O3 O;have e:(60:Int)/(Ph n k:Int)<=60:=lY _ O3;refine⟨dI d O,?_⟩;have:=jX e (show(Ph j k:Int)<=32 by omega) O O3;omega
theorem Zs4 (k:Nat){n j:Nat}(d:j<=5):bl (w60 n j k).natAbs<=11:=by have:=Zyu n k d;exact(Qg 11 _).2 O
theorem Iw(h:∀x∈c,Me x)(k:Nat):Me (c.getD k 0):=by
 by_cases d:k<c.length
 .exact h _ (Zk d)
 .rw [aC,bO O];exact⟨O3,O3⟩
theorem Yel(h:∀x∈c,Me x){j m:Nat}(d:j<=5)(e:m<=31):bl (ctl c j m).natAbs<=80:=
 Zhg (K:=75) (λk _=>by have g:=Ek (Iw h k);have l:=Zs4 k (n:=c.length-1) d;have:=Xg (c.getD k 0) (w60 (c.length-1) j k);omega) e
def Zjn(c:List Int)(over:Int):Bool:=(List.range c.length).all λj=>decide ((ctl c j (j+1)).natAbs<=62914560*over)
theorem Yeh(h:∀j,j<c.length->((ctl c j (j+1)).natAbs:Int)<=62914560*over):Zjn c over=true:=by unfold Zjn;rw [bW];intro j d;exact aN (h j (iC.1 d))
theorem bndB_f{j:Nat}(d:j<c.length)(h:¬((ctl c j (j+1)).natAbs:Int)<=62914560*over):Zjn c over=false:=by
 cases hb:Zjn c over with
 | false=>rfl
 | true=>
  unfold Zjn at hb;rw [bW]at hb;exact absurd (bT (hb j (iC.2 d))) h
theorem wc_abs{s:Int}:(#[.bool false,.string (Xn s.natAbs)]:Array Value)=wc (s.natAbs:Int):=by have:decide (((s.natAbs:Nat):Int)<0)=false:=aJ O;rw [show wc (s.natAbs:Int)=#[.bool (decide (((s.natAbs:Nat):Int)<0)),.string (Xn ((s.natAbs:Nat):Int).natAbs)]from rfl,this,eC]
theorem sgp(z:Int):0<z.sign↔0<z:=by simpa using Ak z
def axB(c:List Int)(over:Int):Bool:=decide (1<=c.length) && decide (c.length<=6) && !(decide (1<c.length) && decide (c.getD (c.length-1) 0=0)) && Zjn c over
def Mg(g:Int):List Int->Int
 | []=>g
 | x::r=>Mg (Int.gcd g x) r
def Gf:∀(a b:List Int) (g:Int),Mg g (a ++ b)=Mg (Mg g a) b
 | [],_,_=>rfl
 | x::a,b,g=>Gf a b _
theorem Zfr{l:List Int}{g:Int}(h:i<l.length):Mg g (l.take (i+1))=(Int.gcd (Mg g (l.take i)) (l.getD i 0):Int):=by rw [Qb 0 _ h,Gf];rfl
theorem Ze2:∀{l:List Int} {g:Int} {m:Nat},(∀x∈l,bl x.natAbs<=m)->bl g.natAbs<=m->bl (Mg g l).natAbs<=m
 | [],_,_,_,h=>h
 | x::l,g,m,h,hg=>Ze2 (l:=l) (λy d=>h y (bJ _ d)) (aB (Znr g x) (by have:=h x (bX ..);omega))
abbrev Cs:=List Int×List Int×List Int
def Zwt(fr d ov:Int):Bool:=decide (0<=fr) && decide (fr<d) && decide (d<=3600000) && decide (1<=ov) && decide (ov<=4294967296)
def Bj(fr d ov:Int)(x y z:List Int):Bool:=Zwt fr d ov && axB x ov && axB y ov && axB z ov && decide (Mg ov (x ++ y ++ z)=1)
def Lh(i:Nat)(x y z:List Int):List Int:=match i with
 | 0=>[]
 | 1=>x
 | 2=>x ++ y
 | _=>x ++ y ++ z
theorem Zba(x y z:List Int)(h:i<3):Lh (i+1) x y z=Lh i x y z ++ Zt i x y z:=by
 match i,h with
 | 0,_=>rfl
 | 1,_=>rfl
 | 2,_=>rfl
theorem Zh2 (i:Nat){fr d:Int}(h:axB (Zt i x y z) ov=false):Bj fr d ov x y z=false:=by unfold Bj;revert h;unfold Zt;split<;>intro h<;>simp [h]
theorem Zhs{fr d:Int}(h:¬(0<=fr/\fr<d/\d<=3600000/\1<=ov/\ov<=4294967296)):Bj fr d ov x y z=false:=by
 cases hb:Bj fr d ov x y z with
 | false=>rfl
 | true=>
  unfold Bj Zwt at hb;simp only [aP,cL]at hb;exact absurd O h
theorem Zq9(h:1<=c.length->c.length<=6->¬(1<c.length/\c.getD (c.length-1) 0=0)->Zjn c ov=true->False):axB c ov=false:=by
 cases hb:axB c ov with
 | false=>rfl
 | true=>
  unfold axB at hb;simp only [aP,fY,kB,cL,iG]at hb;exact(h hb.1.1.1 hb.1.1.2 (λe=>by rcases hb.1.2 with d|d;exact d e.1;exact d e.2) hb.2).elim
theorem Yex(e:1<=c.length)(g:c.length<=6)(h:¬(1<c.length/\c.getD (c.length-1) 0=0))(j:Zjn c ov=true):axB c ov=true:=by
 unfold axB;simp only [aP,fY,kB,cL,iG];refine⟨⟨⟨e,g⟩,?_⟩,j⟩;by_cases d:1<c.length
 .exact .inr λk=>h ⟨d,k⟩
 .exact .inl d
theorem segB_e{fr g:Int}(d:0<=fr/\fr<g/\g<=3600000/\1<=ov/\ov<=4294967296)(e:∀k,k<3->axB (Zt k x y z) ov=true):Bj fr g ov x y z=decide (Mg ov (Lh 3 x y z)=1):=by have h:axB x ov=true:=e 0 O3;have j:axB y ov=true:=e 1 O3;have l:axB z ov=true:=e 2 O3;unfold Bj Zwt;rw [aN d.1,aN d.2.1,aN d.2.2.1,aN d.2.2.2.1,aN d.2.2.2.2,h,j,l];rfl
def Cq(d:∀a∈x,Me a)(e:∀a∈y,Me a)(g:∀a∈z,Me a)(i:Nat):∀a∈Zt i x y z,Me a:=Ft (p:=λl=>∀a∈l,Me a) d e g
theorem bl_fc(e:∀a∈x,Me a)(g:∀a∈y,Me a)(j:∀a∈z,Me a)(l:bl ov.natAbs<=64)(i k:Nat):bl (Mg (Mg ov (Lh i x y z)) ((Zt i x y z).take k)).natAbs<=64:=by
 refine Ze2 (λa d=>Ek (Cq e g j i a (fJ d))) (Ze2 (λa d=>Ek ?_) l);unfold Lh at d;split at d
 .cases d
 .exact e a d
 .rcases cS.1 d with h|h
  .exact e a h
  .exact g a h
 .rcases cS.1 d with h|h
  .rcases cS.1 h with h|h
   .exact e a h
   .exact g a h
  .exact j a h
abbrev RWL:=List (Bool×ByteArray)
def smallR(r:RWL):Bool:=decide (r.length<=8) && r.all λc=>decide (c.2.size<=6)
noncomputable def dec (r:RWL):List Int:=if h:okP r=true then(okP_ex h).choose else []
noncomputable def bdE (r:RWL):Int:=if okP r=true then Zsz (dec r)else 2
noncomputable def bdZ (r:RWL):Int:=if bdE r=0 then sbound (dec r)else 0
def firstE(r:RWL)(x y d e:Int):Int:=if okP r=true then(if r.length=0\/0<x*e-d*y then 3 else 0)else 2
def chke:Nat->Nat->Nat->Nat->Nat->Bool
 | 0,d,_,A,_=>Nat.ble (A+d*64) 65500
 | f+1,d,e,A,B=>Nat.ble (A+d*64) 65500 && (Nat.beq e 0 || (List.range e).all λl=>chke f e l B (bif Nat.ble l 1 then 2 else A+(d-e+1)*B))
inductive SV:List Int->List Int->Prop
 | one (a:Int):SV [a] [a]
 | step (a:Int) (r t:List Int):SV r t->SV (a::r) (a::t)
 | skip (a u w:Int) (r t:List Int):(a=1\/a=-1)->(-1<=u/\u<=1)->(-1<=w/\w<=1)->SV (-a::r) (-a::t)->SV (a::u::-a::r) (a::w::-a::t)
theorem Zlh{s:Int×Int}{a u:Int}(e:a=1\/a=-1)(g:-1<=u/\u<=1):Ou (Ou (Ou s a) u) (-a)=Ou (Ou s a) (-a):=by obtain⟨n,l⟩:=s;have d:u=-1\/u=0\/u=1:=O;rcases e with rfl|rfl<;>rcases d with rfl|rfl|rfl<;>simp [Ou]
theorem SV.fold(h:SV a b):∀s,a.foldl Ou s=b.foldl Ou s:=by
 induction h with
 | one a=>intro s;rfl
 | step a r t _ d=>intro s;exact d (Ou s a)
 | skip a u w r t e g j _ d=>
  intro s;show(r.foldl Ou (Ou (Ou (Ou s a) u) (-a)))=(t.foldl Ou (Ou (Ou (Ou s a) w) (-a)));rw [Zlh e g,Zlh e j];exact d (Ou s a)
def SV.chg(h:SV a b):chg a=chg b:=aL Prod.fst (h.fold (0,0))
def Gn(x:Rat):Int:=if x<0 then -1 else if x=0 then 0 else 1
theorem Yab{x:Rat}:-1<=Gn x/\Gn x<=1:=by unfold Gn;split;decide;split<;>decide
theorem Cg{x:Rat}(h:0<x):Gn x=1:=by unfold Gn;rw [aD O4,aD O4]
theorem Ch{x:Rat}(h:x<0):Gn x=-1:=by unfold Gn;rw [aF h]
def Big(η x:Rat)(f:Rat->Rat):Prop:=η<f x\/f x < -η
def Tri(η x:Rat):(Rat->Rat)->List (Rat->Rat)->Prop
 | _,[]=>True
 | _,[g]=>Big η x g
 | f,g::k::r=>(Big η x g/\Tri η x g (k::r))\/(Big η x k/\f x*k x<0/\Tri η x k r)
def Near(η x y:Rat)(f:Rat->Rat):Prop:=f x-f y<=η/\f y-f x<=η
theorem Znu{x y:Rat}(e:0<=η)(h:Big η x f)(d:Near η x y f):Gn (f x)=Gn (f y)/\(Gn (f x)=1\/Gn (f x)=-1):=by
 obtain⟨g,j⟩:=d;rcases h with h|h
 .rw [Cg O4,Cg O4];exact⟨rfl,.inl rfl⟩
 .rw [Ch O4,Ch O4];exact⟨rfl,.inr rfl⟩
theorem opp_sg{a b:Rat}(h:a*b<0):Gn b=- Gn a:=by
 rcases(show a<0\/a=0\/0<a by grind)with e|e|e
 .rw [Ch e,Cg (by
   rcases(show b<=0\/0<b by grind)with d|d
   .have:=aI (a:=-a) (b:=-b) O4 O4;grind
   .exact d)];rfl
 .subst e;grind
 .rw [Cg e,Ch (by
   rcases(show 0<=b\/b<0 by grind)with d|d
   .have:=aI (a:=a) (b:=b) O4 d;grind
   .exact d)]
theorem Zlt{η x y:Rat}(h:0<=η):∀(n:Nat) (f:Rat->Rat) (fs:List (Rat->Rat)),fs.length<=n->Big η x f->(∀g∈f::fs,Near η x y g)->Tri η x f fs->
  SV ((f::fs).map λg=>Gn (g x)) ((f::fs).map λg=>Gn (g y))
 | _,f,[],_,q,d,_=>by have:=(Znu h q (d f (bX ..))).1;simp only [bN,fL,this];exact SV.one _
 | 0,f,g::r,u,_,_,_=>absurd u O7
 | n+1,f,[g],u,q,d,m=>by have p:=(Znu h q (d f (bX ..))).1;have e:=Zlt h n g [] O7 m (λk o=>d k (bJ _ o)) aA;rw [bN,bN,p];exact SV.step _ _ _ e
 | n+1,f,g::k::r,u,q,d,m=>by
  have p:=Znu h q (d f (bX ..));rcases m with⟨B,m⟩|⟨o,F,m⟩
  .have e:=Zlt h n g (k::r) (by simp at u ⊢;omega) B (λk o=>d k (bJ _ o)) m;rw [bN (l:=g::k::r),bN (l:=g::k::r),p.1];exact SV.step _ _ _ e
  .have e:=Zlt h n k r (by simp at u ⊢;omega) o (λj D=>d j (bJ _ (bJ _ D))) m;have v:=(Znu h o (d k O7)).1;have w:=opp_sg F;rw [bN (l:=r),bN (l:=r)]at e;simp only [bN];rw [<-v]at e ⊢;rw [w]at e ⊢;rw [<-p.1];exact SV.skip _ _ _ _ _ p.2 Yab Yab e
structure Lnk (η x:Rat) (f g k:Rat->Rat):Prop where
 big:¬Big η x g->Big η x k
 opp:¬Big η x g->f x*k x<0
def Lnks(η x:Rat):(Rat->Rat)->List (Rat->Rat)->Prop
 | _,[]=>True
 | _,[g]=>Big η x g
 | f,g::k::r=>Lnk η x f g k/\Lnks η x g (k::r)
theorem Zis{η x:Rat} : ∀(n:Nat) (f:Rat->Rat) (fs:List (Rat->Rat)),fs.length<=n->Lnks η x f fs->Tri η x f fs
 | _,f,[],_,_=>trivial
 | 0,f,g::r,e,_=>absurd e O7
 | n+1,f,[g],_,h=>h
 | n+1,f,[g,k],e,h=>by
  by_cases d:Big η x g
  .exact .inl ⟨d,h.2⟩
  .exact .inr ⟨h.1.big d,h.1.opp d,aA⟩
 | n+1,f,g::k::j::r,e,h=>by
  by_cases d:Big η x g
  .exact .inl ⟨d,Zis n g (k::j::r) (by simp at e ⊢;omega) h.2⟩
  .exact .inr ⟨h.1.big d,h.1.opp d,Zis n k (j::r) (by simp at e ⊢;omega) h.2.2⟩
def Rl3(s t:Rat)(f g k:Rat->Rat):Prop:=∃m n Q:Rat,0<m/\0<n/\0<Q/\∀x,s<=x->x<=t->∃q,-Q<=q/\q<=Q/\m*f x=q*g x-n*k x
def Rl2(s t:Rat)(f g:Rat->Rat):Prop:=∃m Q:Rat,0<m/\0<Q/\∀x,s<=x->x<=t->∃q,-Q<=q/\q<=Q/\m*f x=q*g x
def Rls(s t:Rat):(Rat->Rat)->List (Rat->Rat)->Prop
 | _,[]=>True
 | f,[g]=>Rl2 s t f g
 | f,g::k::r=>Rl3 s t f g k/\Rls s t g (k::r)
theorem Zac{q Q g e:Rat}(h:-Q<=q)(j:q<=Q)(k:-e<=g)(l:g<=e)(m:0<=Q):q*g<=Q*e/\-(Q*e)<=q*g:=by have a:=aI (a:=Q-q) (b:=e+g) O4 O4;have b:=aI (a:=Q+q) (b:=e-g) O4 O4;have c:=aI (a:=Q-q) (b:=e-g) O4 O4;have d:=aI (a:=Q+q) (b:=e+g) O4 O4;constructor<;>grind
theorem Zb2{x:Rat}{g:Rat->Rat}(h:¬Big η x g):-η<=g x/\g x<=η:=by unfold Big at h;constructor<;>grind
theorem Zs9{x:Rat}{g:Rat->Rat}(h:η<=ε)(d:Big ε x g):Big η x g:=by unfold Big at *;grind
theorem Kw{a b:Rat}(h:0<ε)(j:0<a)(k:0<b):∃e:Rat,0<e/\e<=ε/\e*a<=b:=by
 have g:0<b*a⁻¹:=aY k (fX.2 j);have l:b*a⁻¹*a=b:=O4;rcases(show ε<=b*a⁻¹\/b*a⁻¹<=ε by grind)with d|d
 .exact⟨ε,h,O4,by have:=dH d (show 0<=a by grind);grind⟩
 .exact⟨b*a⁻¹,g,d,O4⟩
theorem pair3{g k:Rat->Rat}(h:Rl3 s t f g k)(D:0<ε)(N:∀x,s<=x->x<=t->Big ε x f\/Big ε x g) :
  ∃e,0<e/\(∀x,s<=x->x<=t->Big e x g\/Big e x k)/\∀η,0<η->η<=e->∀x,s<=x->x<=t->Lnk η x f g k:=by
 obtain⟨m,n,Q,w,M,hQ,P⟩:=h;obtain⟨e,B,Y,Z⟩:=Kw D (show 0<Q+n by grind) (Rat.mul_pos w D);have l:∀η,0<η->η<=e->∀x,s<=x->x<=t->¬Big η x g->Big η x k/\f x*k x<0:=λη p r x hs j d=>by
  obtain⟨q,R,S,q3⟩:=P x hs j;obtain⟨H,I⟩:=Zb2 d;obtain⟨p1,p2⟩:=Zac R S H I O4;have v:Big ε x f:=(N x hs j).resolve_right λh=>d (Zs9 O4 h);have V:η*(Q+n)<=m*ε:=by have:=dH r (show 0<=Q+n by grind);grind
  have W:0<η*n:=aY p M;rcases v with v|v
  .have F:m*ε<m*f x:=by have:=aY w (show 0<f x-ε by grind);grind
   have G:n*k x < - (n*η):=O4;have u:k x < -η:=by
    rcases(show k x < -η\/-η<=k x by grind)with o|o
    .exact o
    .have:=aI (a:=n) (b:=k x+η) O4 O4;grind
   refine⟨.inr u,?_⟩;have:=aY (a:=f x) (b:=- k x) O4 O4;grind
  .have F:m*f x < - (m*ε):=by have:=aY w (show 0 < -ε-f x by grind);grind
   have G:n*η<n*k x:=O4;have u:η<k x:=by
    rcases(show η<k x\/k x<=η by grind)with o|o
    .exact o
    .have:=aI (a:=n) (b:=η-k x) O4 O4;grind
   refine⟨.inl u,?_⟩;have:=aY (a:=- f x) (b:=k x) O4 O4;grind
 refine⟨e,B,λx hs j=>?_,λη p r x hs j=>⟨λd=>(l η p r x hs j d).1,λd=>(l η p r x hs j d).2⟩⟩;by_cases d:Big e x g
 .exact .inl d
 .exact .inr (l e B O4 x hs j d).1
theorem pair2{g:Rat->Rat}(h:Rl2 s t f g)(l:0<ε)(w:∀x,s<=x->x<=t->Big ε x f\/Big ε x g) :
  ∃e,0<e/\∀η,0<η->η<=e->∀x,s<=x->x<=t->Big η x g:=by
 obtain⟨m,Q,k,v,B⟩:=h;obtain⟨e,o,H,I⟩:=Kw l v (aY k l);refine⟨e,o,λη M u x hs n=>?_⟩;by_cases j:Big η x g
 .exact j
 .exfalso;obtain⟨q,D,F,R⟩:=B x hs n;obtain⟨p,r⟩:=Zb2 j;obtain⟨N,P⟩:=Zac D F p r O4;have d:Big ε x f:=(w x hs n).resolve_right λh=>j (Zs9 O4 h);have G:η*Q<=m*ε:=by have:=dH u (show 0<=Q by grind);grind
  rcases d with d|d
  .have:=aY k (show 0<f x-ε by grind);grind
  .have:=aY k (show 0 < -ε-f x by grind);grind
theorem Zpo{s t:Rat} : ∀(n:Nat) (f:Rat->Rat) (fs:List (Rat->Rat)) (ε:Rat),fs.length<=n->Rls s t f fs->0<ε->(∀g r,fs=g::r->∀x,s<=x->x<=t->Big ε x f\/Big ε x g)->
  ∃e,0<e/\∀η,0<η->η<=e->∀x,s<=x->x<=t->Lnks η x f fs
 | _,f,[],ε,_,_,l,_=>⟨ε,l,λ_ _ _ _ _ _=>trivial⟩
 | 0,f,g::r,ε,hl,_,_,_=>absurd hl O7
 | n+1,f,[g],ε,_,h,l,v=>pair2 h l (v g [] rfl)
 | n+1,f,g::k::r,ε,hl,h,l,v=>by
  obtain⟨e,w,D,B⟩:=pair3 h.1 l (v g (k::r) rfl);obtain⟨p,q,j⟩:=Zpo n g (k::r) e (by simp at hl ⊢;omega) h.2 w (λG H u=>by injection u with d o;subst d;exact D)
  rcases(show e<=p\/p<=e by grind)with F|F
  .exact⟨e,w,λη d o x hs m=>⟨B η d o x hs m,j η d O4 x hs m⟩⟩
  .exact⟨p,q,λη d o x hs m=>⟨B η d O4 x hs m,j η d o x hs m⟩⟩
def Lip(s t L:Rat)(f:Rat->Rat):Prop:=∀x y,s<=x->x<=y->y<=t->f x-f y<=L*(y-x)/\f y-f x<=L*(y-x)
def vat(fs:List (Rat->Rat))(x:Rat):Int:=chg (fs.map λg=>Gn (g x))
theorem Yfz{L:Rat}(q:0<L)(w:∀g∈f::fs,Lip s t L g)(m:0<δ)(l:∀x,s<=x->x<=t->Big δ x f)(B:Rls s t f fs) :
  ∃h,0<h/\∀x y,s<=x->x<=y->y<=t->y-x<=h->vat (f::fs) x=vat (f::fs) y:=by
 obtain⟨e,n,o⟩:=Zpo fs.length f fs δ (aK _) B m (λg r _ x hs D=> .inl (l x hs D));obtain⟨η,k,I,M⟩:=Kw m (show(0:Rat)<1 by decide) n;obtain⟨h,p,G,H⟩:=Kw k q k;refine⟨h,p,λx y d j F v=>SV.chg ?_⟩;refine Zlt O4 fs.length f fs (aK _) (Zs9 O4 (l x d O4)) (λg u=>?_) (Zis _ _ _ (aK _) (o η k O4 x d O4));obtain⟨a,b⟩:=w g u x y d j F;have:=dH v (show 0<=L by grind);exact⟨O4,O4⟩
theorem Zwr{L:Rat}(w:0<L)(F:∀g∈f::fs,Lip s t L g)(D:0<δ)(B:∀x,s<=x->x<=t->Big δ x f)(H:Rls s t f fs)(m:s<=t) :
  vat (f::fs) s=vat (f::fs) t:=by
 obtain⟨h,u,p⟩:=Yfz w F D B H;have o:∀n:Nat,∀y,s<=y->y<=t->y-s<=(n:Rat)*h->vat (f::fs) s=vat (f::fs) y:=λn=>by
  induction n with
  | zero=>
    intro y d e j;have:y=s:=by simp at j;grind
    rw [this]
  | succ n r=>
   intro y d e j;have q:((n+1:Nat):Rat)*h=(n:Rat)*h+h:=by push_cast;grind
   rcases(show y-s<=(n:Rat)*h\/(n:Rat)*h<y-s by grind)with k|k
   .exact r y d e k
   .have v:(0:Rat)<=(n:Rat)*h:=aI (by exact_mod_cast bB n) O4;rcases(show s<=y-h\/y-h<s by grind)with l|l
    .rw [r (y-h) l O4 O4];exact p (y-h) y l O4 e O4
    .exact p s y O4 d e O4
 have d:∃n:Nat,t-s<=(n:Rat)*h:=by
  have e:0<h⁻¹:=fX.2 u;refine⟨((t-s)*h⁻¹).ceil.toNat,?_⟩;have j:=@oD ((t-s)*h⁻¹);have q:((((t-s)*h⁻¹).ceil:Int):Rat)<=((((t-s)*h⁻¹).ceil.toNat:Nat):Rat):=by have:((t-s)*h⁻¹).ceil<=((((t-s)*h⁻¹).ceil.toNat:Nat):Int):=lP _;exact_mod_cast this
  have k:=dH (nW j q) (show 0<=h by grind);have v:(t-s)*h⁻¹*h=t-s:=O4;grind
 obtain⟨n,G⟩:=d;exact o n t m O4 G
def Zb:List Int->Rat->Rat
 | [],_=>0
 | c::p,x=>(c:Rat)+x*Zb p x
theorem Yib(s t:Rat):∃K:Rat,0<K/\∀x,s<=x->x<=t->-K<=x/\x<=K:=by
 rcases(show(0<=s\/s<0) by grind)with h|h<;>rcases(show(0<=t\/t<0) by grind)with d|d
 .exact⟨t+1,O4,λx _ _=>O4⟩
 .exact⟨1,O4,λx _ _=>O4⟩
 .exact⟨t-s+1,O4,λx _ _=>O4⟩
 .exact⟨-s+1,O4,λx _ _=>O4⟩
theorem Zo0(s t:Rat):∀p:List Int,∃B:Rat,0<B/\∀x,s<=x->x<=t->-B<=Zb p x/\Zb p x<=B
 | []=>⟨1,O3,λx _ _=>by unfold Zb;grind⟩
 | c::p=>by obtain⟨B,e,g⟩:=Zo0 s t p;obtain⟨K,n,o⟩:=Yib s t;obtain⟨C,q,h⟩:=Yib (c:Rat) (c:Rat);have r:=h (c:Rat) O4 O4;refine⟨C+K*B,by have:=aY n e;grind,λx hs d=>?_⟩;obtain⟨j,k⟩:=g x hs d;obtain⟨l,m⟩:=o x hs d;obtain⟨f1,f2⟩:=Zac l m j k O4;unfold Zb;constructor<;>grind
theorem Ep(s t:Rat):∀p:List Int,∃L:Rat,0<L/\Lip s t L (Zb p)
 | []=>⟨1,O3,λx y _ _ _=>by unfold Zb;constructor<;>grind⟩
 | c::p=>by obtain⟨L,o,r⟩:=Ep s t p;obtain⟨B,w,j⟩:=Zo0 s t p;obtain⟨K,m,n⟩:=Yib s t;refine⟨K*L+B,by have:=aY m o;grind,λx y hs d h=>?_⟩;obtain⟨u,v⟩:=r x y hs d h;obtain⟨D,F⟩:=j y O4 h;obtain⟨k,l⟩:=n x hs O4;obtain⟨f1,f2⟩:=Zac (q:=x) (g:=Zb p x-Zb p y) (e:=L*(y-x)) k l O4 O4 O4;have G:=aI (a:=B-Zb p y) (b:=y-x) O4 O4;have H:=aI (a:=B+Zb p y) (b:=y-x) O4 O4;unfold Zb;constructor<;>grind
theorem Zh6(x:Rat):∀q:List Int,(∀i,cf q i=0)->Zb q x=0
 | [],_=>rfl
 | c::q,h=>by have d:c=0:=h 0;have e:=Zh6 x q λi=>h (i+1);unfold Zb;rw [e,d];grind
theorem Pv(x:Rat):∀p q:List Int,(∀i,cf p i=cf q i)->Zb p x=Zb q x
 | [],q,h=>by rw [Zh6 x q λi=>(h i).symm.trans (Yl (bB _))];rfl
 | c::p,[],h=>by rw [Zh6 x (c::p) λi=>(h i).trans (Yl (bB _))];rfl
 | c::p,d::q,h=>by have e:c=d:=h 0;have g:=Pv x p q λi=>h (i+1);unfold Zb;rw [g,e]
def Oo:List Int->List Int->List Int
 | [],q=>q
 | p,[]=>p
 | a::p,b::q=>(a+b)::Oo p q
theorem Zp0(p:List Int):Oo p []=p:=by cases p<;>rfl
theorem Yw(x:Rat):∀p q:List Int,Zb (Oo p q) x=Zb p x+Zb q x
 | [],q=>by unfold Oo;show Zb q x=0+Zb q x;grind
 | a::p,[]=>by rw [Zp0];show Zb (a::p) x=Zb (a::p) x+0;grind
 | a::p,b::q=>by have h:=Yw x p q;unfold Oo Zb;rw [h];push_cast;grind
theorem Nl:∀(p q:List Int) (i:Nat),cf (Oo p q) i=cf p i+cf q i
 | [],q,i=>by unfold Oo;rw [show cf [] i=0 from Yl (bB _)];omega
 | a::p,[],i=>by rw [Zp0,show cf [] i=0 from Yl (bB _)];omega
 | a::p,b::q,0=>rfl
 | a::p,b::q,i+1=>Nl p q i
theorem Zg(x:Rat)(c:Int):∀p:List Int,Zb (p.map λa=>c*a) x=(c:Rat)*Zb p x
 | []=>by show(0:Rat)=c*0;grind
 | a::p=>by have h:=Zg x c p;simp only [bN];unfold Zb;rw [h];push_cast;grind
theorem Xo(c:Int):∀(p:List Int) (i:Nat),cf (p.map λa=>c*a) i=c*cf p i
 | [],i=>by simp [cf]
 | a::p,0=>rfl
 | a::p,i+1=>Xo c p i
def lmul:List Int->List Int->List Int
 | [],_=>[]
 | c::p,q=>Oo (q.map λa=>c*a) (0::lmul p q)
theorem Zq(x:Rat):∀p q:List Int,Zb (lmul p q) x=Zb p x*Zb q x
 | [],q=>by show(0:Rat)=0*Zb q x;grind
 | c::p,q=>by have h:=Zq x p q;unfold lmul;rw [Yw,Zg];show(c:Rat)*Zb q x+(((0:Int):Rat)+x*Zb (lmul p q) x)=((c:Rat)+x*Zb p x)*Zb q x;rw [h];grind
theorem Gk:∀(p q:List Int) (i:Nat),cf (lmul p q) i=Yb (λk=>cf p k*cf q (i-k)) (i+1)
 | [],q,i=>by rw [show cf (lmul [] q) i=0 from Yl (bB _)];exact(Hm λk _=>by rw [show cf [] k=0 from Yl (bB _),cY]).symm
 | c::p,q,0=>by unfold lmul;rw [Nl,Xo,Yk,Kn];show c*cf q 0+0=0+c*cf q 0;omega
 | c::p,q,i+1=>by have h:=Gk p q i;unfold lmul;rw [Nl,Xo,Nm];show c*cf q (i+1)+cf (lmul p q) i=c*cf q (i+1)+_;rw [h];congr 1;refine Yq λk d=>?_;show cf p k*cf q (i-k)=cf p k*cf q (i+1-(k+1));rw [show i+1-(k+1)=i-k by omega]
theorem Fj (a:Int)(c:Int)(x:List Int)(s:List Int)(y:List Int)(z:List Int)(h:∀t,a*cf x t=(ps s*ps y).c t-c*cf z t)(q:Rat):(a:Rat)*Zb x q=Zb s q*Zb y q-(c:Rat)*Zb z q:=by
 have d:∀t,cf (Oo (x.map λb=>a*b) (z.map λb=>c*b)) t=cf (lmul s y) t:=λt=>by rw [Nl,Xo,Xo,Gk,h t,PS.mul_c];show Yb (λk=>cf s k*cf y (t-k)) (t+1)-c*cf z t+c*cf z t=_;omega
 have e:=Pv q _ _ d;rw [Yw,Zg,Zg,Zq]at e;grind
theorem Zw7(D:Tr x)(p:Tr y)(h:y≠[])(M:y.length<=x.length):Rl3 s t (Zb x) (Zb y) (Zb (Pw x y)):=by
 have Q:=aG.2 h;obtain⟨r1,r2,k,u,I⟩:=Zd0 p h x.length x D O;have hs:=Zfe x.length D p h M O;have o:Tr (Zc2 (Bl x.length x y)):=Ob;obtain⟨m,n,N,P,w⟩:=Zcz o;rw [hs]at w;have H:0<An y^k:=kN (Zd4 p h);obtain⟨B,F,r⟩:=Zo0 s t u;have l:(0:Rat)<(m:Rat):=by exact_mod_cast N
 have d:(0:Rat)<(n:Rat):=by exact_mod_cast P
 have j:(0:Rat)<((An y^k:Int):Rat):=by exact_mod_cast H
 refine⟨(n:Rat)*((An y^k:Int):Rat),(m:Rat),(n:Rat)*B,aY d j,l,aY d F,λq e g=>⟨(n:Rat)*Zb u q,?_,?_,?_⟩⟩
 .have:=aI (a:=(n:Rat)) (b:=Zb u q+B) O4 (by have:=r q e g;grind);grind
 .have:=aI (a:=(n:Rat)) (b:=B-Zb u q) O4 (by have:=r q e g;grind);grind
 .have G:=Fj (An y^k) (-1) x u y (Bl x.length x y) (λt=>by rw [I t];omega) q;have v:Zb ((Pw x y).map λb=>m*b) q=Zb ((Bl x.length x y).map λb=>(-n)*b) q:=Pv q _ _ λi=>by rw [Xo,Xo,w i,Fm,kJ,oB]
  rw [Zg,Zg]at v;push_cast at G v ⊢;grind
theorem rl2_of{g:Rat->Rat}(h:Rl3 s t f g (Zb [])):Rl2 s t f g:=by obtain⟨m,n,Q,k,u,j,l⟩:=h;refine⟨m,Q,k,j,λx d e=>?_⟩;obtain⟨q,o,p,r⟩:=l x d e;refine⟨q,o,p,?_⟩;have:Zb [] x=0:=rfl;rw [this]at r;grind
theorem Zkr (s:Rat)(t:Rat) : ∀(f:Nat) (a b:List Int),Tr a->Tr b->cok f a b->∃r,Nc f a b=a::r/\Rls s t (Zb a) (r.map Zb)/\(b=[]->r=[])/\(b≠[]->∃n,r=b::n):=λf=>by
 induction f with
 | zero=>
  intro a b j k h;have d:b=[]:=h;subst d;exact⟨[],rfl,aA,λ_=>rfl,λh=>absurd rfl h⟩
 | succ f w=>
  intro a b j k h;by_cases d:b=[]
  .subst d;exact⟨[],Dq _ _,aA,λ_=>rfl,λh=>absurd rfl h⟩
  .obtain⟨g,D,B,l,v,hs⟩:=Zjf h d;obtain rfl:f=g:=O;obtain⟨r,o,p,q,u⟩:=w b (Pw a b) k (Zap j) v;have e:=Zw7 (s:=s) (t:=t) j k d l;refine⟨b::r,by rw [hs,o],?_,λh=>absurd h d,λ_=>⟨r,rfl⟩⟩;by_cases m:Pw a b=[]
   .rw [q m];rw [m]at e;exact rl2_of e
   .obtain⟨n,rfl⟩:=u m;exact⟨e,p⟩
theorem Zpr{L M:Rat}(h:L<=M)(j:Lip s t L f):Lip s t M f:=λx y d e g=>by obtain⟨a,b⟩:=j x y d e g;have:=dH h (show 0<=y-x by grind);constructor<;>grind
theorem Zuv(s t:Rat):∀e:List (List Int),∃L:Rat,0<L/\∀g∈e.map Zb,Lip s t L g
 | []=>⟨1,O3,λg d=>by cases d⟩
 | p::e=>by
  obtain⟨L,k,h⟩:=Zuv s t e;obtain⟨M,l,j⟩:=Ep s t p;refine⟨L+M,O4,λg d=>?_⟩;rw [bN]at d;rcases bG.1 d with rfl|d
  .exact Zpr O4 j
  .exact Zpr O4 (h g d)
theorem Zdz{f:Nat}(k:Tr a)(l:Tr b)(m:cok f a b)(d:s<=t)(n:0<δ)(j:∀x,s<=x->x<=t->Big δ x (Zb a)) :
  vat ((Nc f a b).map Zb) s=vat ((Nc f a b).map Zb) t:=by
 obtain⟨r,g,h,_,_⟩:=Zkr s t f a b k l m;obtain⟨L,o,e⟩:=Zuv s t (Nc f a b);rw [g]at e ⊢;exact Zwr o e n j h d
theorem Zox(x:Rat)(l:Int):∀p:List Int,Zb (p ++ [l]) x=Zb p x+(l:Rat)*x^p.length
 | []=>by show(l:Rat)+x*0=0+l*x^0;rw [eG];grind
 | c::p=>by have h:=Zox x l p;rw [eW,cD,dK];unfold Zb;rw [h];grind
def alt:List Int->List Int
 | []=>[]
 | c::p=>c::(alt p).map λa=>-1*a
theorem Ya3(c:Int)(p:List Int)(X Y:Int)(h:p≠[]):pev (c::p) X Y=c*Y^p.length+X*pev p X Y:=by
 have d:=aG.2 h;unfold pev;rw [cD,Nm,<-Ow];congr 1
 .show c*(X^0*Y^(p.length+1-1-0))=_;rw [cW,fA,show p.length+1-1-0=p.length by omega]
 .refine Yq λi hi=>?_;show cf p i*(X^(i+1)*Y^(p.length+1-1-(i+1)))=X*(cf p i*(X^i*Y^(p.length-1-i)));rw [show p.length+1-1-(i+1)=p.length-1-i by omega,dX];grind
theorem Zuc{X Y:Int}(e:0<Y):∀p:List Int,((pev p X Y:Int):Rat)=Zb p ((X:Rat)/(Y:Rat))*(Y:Rat)^(p.length-1)
 | []=>by show(0:Rat)=0*_;grind
 | [c]=>by
  have:pev [c] X Y=c:=by unfold pev;show 0+c*(X^0*Y^0)=c;rw [cW,cW];omega
  rw [this];show(c:Rat)=(c+X/Y*0)*(Y:Rat)^0;rw [eG];grind
 | c::d::p=>by
  have h:=Zuc (X:=X) e (d::p);rw [Ya3 c (d::p) X Y O7];have g:(Y:Rat)≠0:=by
    have:(0:Rat)<(Y:Rat):=by exact_mod_cast e
    grind
  push_cast;rw [h];show(c:Rat)*(Y:Rat)^(p.length+1)+X*(Zb (d::p) (X/Y)*(Y:Rat)^(p.length+1-1))=((c:Rat)+X/Y*Zb (d::p) (X/Y))*(Y:Rat)^(p.length+1+1-1);rw [show p.length+1-1=p.length by omega,show p.length+1+1-1=p.length+1 by omega,dK];generalize Zb (d::p) (X/Y)=R;generalize (Y:Rat)^p.length=P;have:(X:Rat)/Y*Y=X:=O4;grind
theorem Zzu{z:Int}{r q:Rat}(j:0<q)(h:(z:Rat)=r*q):z.sign=Gn r:=by
 rcases(show r<0\/r=0\/0<r by grind)with d|d|d
 .rw [Ch d];have:=aY (a:=-r) (b:=q) O4 j;have e:(z:Rat)<0:=O4;have g:z<0:=by exact_mod_cast e
  exact fM g
 .subst d;have e:(z:Rat)=0:=O4;have g:z=0:=by exact_mod_cast e
  subst g;rfl
 .rw [Cg d];have:=aY d j;have e:(0:Rat)<z:=O4;have g:0<z:=by exact_mod_cast e
  exact gF g
theorem Zm5{X Y:Int}(d:0<Y)(p:List Int):fat X Y p=Gn (Zb p ((X:Rat)/(Y:Rat))):=by
 have:(0:Rat)<(Y:Rat):=by exact_mod_cast d
 exact Zzu (Rat.pow_pos this) (Zuc d p)
end Go.Sky

