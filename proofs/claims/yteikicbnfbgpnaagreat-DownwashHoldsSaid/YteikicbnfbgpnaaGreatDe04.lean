/- Rules, arithmetic and contracts: part 5. No conditions but those that each theorem names. -/
import Derived.Test.YteikicbnfbgpnaaGreatDe03
import Derived.Scope
set_option linter.all false
namespace Go.Sky
variable{a b p x y xs:List Int}{F i:Nat}{s:Int}{ls:List (SL×List Int)}
def Psim(a b:List Int):Prop:=∃m n:Int,0<m/\0<n/\∀i,m*cf a i=n*cf b i
def Psim.refl(a:List Int):Psim a a:=⟨1,1,O4,O4,λ_=>rfl⟩
def Psim.symm : Psim a b->Psim b a:=λ⟨m,n,c,d,h⟩=>⟨n,m,d,c,λi=>(h i).symm⟩
theorem Psim.trans{c:List Int} : Psim a b->Psim b c->Psim a c:=λ⟨m,n,d,e,h⟩ ⟨u,v,f,g,k⟩=>
 ⟨m*u,n*v,gO d f,gO e g,λi=>by have j:=h i;have l:=k i;grind⟩
def Psim.sim : Psim a b->Sim a b:=λ⟨m,n,c,d,h⟩=>⟨m,n,O1,O1,h⟩
theorem Zd8(h:Tr p):Psim (Zu p) p:=by
 by_cases c:p=[]
 .subst c;exact Psim.refl _
 .exact⟨Ys p,1,by have:=Oq p;have:=Cx h c;omega,O4,λi=>by rw [fF,cY];exact Hk p i⟩
theorem Zj6(f:Tr a)(g:Tr b)(h:Psim a b):Zu a=Zu b:=by
 by_cases c:a=[]
 .rw [h.sim.nil g c,c]
 .have j:b≠[]:=λe=>c (h.sim.symm.nil f e);obtain⟨m,n,w,B,e⟩:=(Zd8 f).trans (h.trans (Zd8 g).symm);have q:=Yr f;have v:=Yr g;have hs:Sim (Zu a) (Zu b):=⟨m,n,O1,O1,e⟩;have d:Zu a≠[]:=λe=>c (aD (by rw [<-Zv,e];rfl));rcases Zjk q v d (Ll f c) (Ll g j) hs with k|k
  .exact k
  .exfalso;have o:=q.mem d;have l:=e ((Zu a).length-1);have r:=k ((Zu a).length-1);rw [r]at l o;generalize cf (Zu b) ((Zu a).length-1)=z at l o;rw [kT]at l;have t:(m+n)*z=0:=by rw [lY];omega
   rcases eX.1 t with u|u<;>omega
def Zat(y:List Int):Int:=if cf y (y.length-1)<0 then-cf y (y.length-1)else cf y (y.length-1)
def rb(x y:List Int):Int:=if cf y (y.length-1)<0 then-cf x (x.length-1)else cf x (x.length-1)
def Zbo(x y:List Int):List Int:=Cb (Zl x (Zat y)) (shm y (rb x y) (x.length-y.length) y.length)
def Aq:Nat->List Int->List Int->List Int
 | 0,x,_=>x
 | f+1,x,y=>if x.length<y.length then x else Aq f (Zbo x y) y
theorem Zo0(e:Tr x)(f:0<y.length)(d:y.length<=x.length):(Zbo x y).length<x.length:=by
 have h:=Zap (p:=Zbo x y) (n:=x.length-1) λi hi=>by
  unfold Zbo;rw [Ci,Xg,Yhl];by_cases c:i=x.length-1
  .subst c;rw [aH O1,show x.length-1-(x.length-y.length)=y.length-1 by omega];unfold Zat rb;split
   .grind
   .grind
  .rw [Yk (p:=x) O1,aE O1];omega
 rw [show tzl (Zbo x y)=Zbo x y from Ac (Zwc _ _)]at h;omega
theorem Ydi(x:List Int)(t:Nat):Zat y*cf x t=(ps (mono (x.length-y.length) (rb x y))*ps y).c t+cf (Zbo x y) t:=by
 unfold Zbo;rw [Zkj,Ci,Xg,Yhl,Nc];by_cases c:x.length-y.length<=t
 .rw [aH c];by_cases d:t<x.length-y.length+y.length
  .rw [aH ⟨c,d⟩,cY (cf x t)];omega
  .rw [aE O1,Yk (p:=y) O1,cY (cf x t)];omega
 .rw [aE c,aE O1,cY (cf x t)];omega
theorem Zfd(d:Tr y)(c:y≠[]):0<Zat y:=by have:=d.mem c;unfold Zat;split<;>omega
theorem Ze7{y:List Int}(m:Tr y)(d:y≠[]):∀(f:Nat) (x:List Int),Tr x->x.length<y.length+f->Tr (Aq f x y)/\(Aq f x y).length<y.length/\∃(k:Nat) (s:List Int),∀t,Zat y^k*cf x t=(ps s*ps y).c t+cf (Aq f x y) t
 | 0,x,c,e=>⟨c,e,0,[],λt=>by rw [Lr (λt=>Yk (bG _)),cT];unfold Aq;omega⟩
 | f+1,x,c,e=>by
  unfold Aq;by_cases h:x.length<y.length
  .rw [aH h];exact⟨c,h,0,[],λt=>by rw [Lr (λt=>Yk (bG _)),cT];omega⟩
  .rw [aE h];have n:=Zo0 c (aC.2 d) O1;obtain⟨g,j,k,s,hs⟩:=Ze7 m d f (Zbo x y) (Zwc _ _) O1;refine⟨g,j,k+1,Cb (Zl s 1) (Zl (mono (x.length-y.length) (rb x y)) (-(Zat y^k))),λt=>?_⟩;have o:=hs t;have l:=Ydi x (y:=y) t;rw [Zki,dK];generalize Zat y^k=K at *;generalize Zat y=a at *;generalize (ps (mono (x.length-y.length) (rb x y))*ps y).c t=M at *;generalize (ps s*ps y).c t=S at *;generalize cf (Zbo x y) t=X at *;generalize cf (Aq f (Zbo x y) y) t=Z at *;have:K*a*cf x t=K*(a*cf x t):=O5;rw [this,l];grind
theorem Zrq(l:Int)(h:l≠0):∀n:Nat,(l<0/\n%2=1->l^n<0)/\(¬(l<0/\n%2=1)->0<l^n)
 | 0=>⟨λh=>O1,λ_=>by rw [cT];decide⟩
 | n+1=>by
  have e:=Zrq l h n;rw [dK];by_cases d:l<0
  .by_cases f:n%2=1
   .have c:=e.1 ⟨d,f⟩;exact⟨λh=>O1,λ_=>Int.mul_pos_of_neg_of_neg c d⟩
   .have c:=e.2 O1;exact⟨λ_=>Int.mul_neg_of_pos_of_neg c d,λh=>O1⟩
  .have c:=e.2 O1;exact⟨λh=>O1,λ_=>gO c O1⟩
def Zea(p:List Int):List Int:=Zl p (-1)
theorem Ez(p:List Int)(i:Nat):cf (Zea p) i=- cf p i:=by unfold Zea;rw [Xg];omega
theorem Zuh(h:Tr p):Zu (Zea p)=Zea (Zu p):=by
 have e:Ys (Zea p)=Ys p:=by
  have c:Ys (Zea p)∣Ys p:=Gy λi=>by have h:=Mv (Zea p) i;rw [Ez]at h;exact lZ.1 h
  have d:Ys p∣Ys (Zea p):=Gy λi=>by rw [Ez];exact lZ.2 (Mv p i)
  exact Int.dvd_antisymm (Oq _) (Oq _) c d
 refine(Yr (Xx _ _)).ext (Xx _ _) λi=>?_;show cf (Zu (Zea p)) i=cf (Zea (Zu p)) i;rw [Ez,Zai,Ez,e,Zai];exact Int.neg_ediv_of_dvd (Mv p i)
theorem Zgo{f:Nat}(v:Tr x)(n:Tr y)(g:y≠[])(G:y.length<=x.length)(D:x.length<y.length+f):Zu (Zea (Aq f x y))=Nb x y:=by
 obtain⟨R,Q,k,s,hs⟩:=Ze7 n g f x v D;have I:=aC.2 g;obtain⟨M,h⟩:=Zgs (p:=x) I G _ (aI _);have H:∀t,cf (Ql x y (x.length-y.length+1)) t=cf (Qb x y) t:=λt=>by unfold Qb;rw [aE O1,Ky]
 have lp:=Po x g;have j:=Ib (q:=y) v;have c:=n.mem g;have o:0<Zat y^k:=kD (Zfd n g);have d:=Zrq (cf y (y.length-1)) c (x.length-y.length+1);generalize w:cf y (y.length-1)^(x.length-y.length+1)=L at h d;have B:L≠0:=by rw [<-w];exact Lu c _
 generalize Zat y^k=K at hs o;have l:∀t,(ps (Cb (Zl M K) (Zl s L))*ps y).c t=cf (Cb (Zl (Aq f x y) L) (Zl (Qb x y) K)) t:=λt=>by rw [Zki,Ci,Xg,Xg,<-H t];have r:=hs t;have N:=h t;generalize cf (Ql x y (x.length-y.length+1)) t=A at *;grind
 have z:=Yko n g l λt P=>by rw [Ci,Xg,Xg,Yk (p:=Aq f x y) O1,Yk (p:=Qb x y) O1];omega
 have e:∀t,L*cf (Aq f x y) t=K*cf (Qb x y) t:=λt=>by have r:=l t;rw [Lr z,Ci,Xg,Xg]at r;grind
 unfold Nb;by_cases m:cf y (y.length-1)<0/\(x.length-y.length+1)%2=1
 .rw [aH m];have u:=d.1 m;exact Zj6 (Xx _ _) j ⟨-L,K,O1,o,λt=>by rw [Ez,<-e];grind⟩
 .rw [aE m];have u:=d.2 m;rw [show Zl (Zu (Qb x y)) (-1)=Zea (Zu (Qb x y))from rfl,<-Zuh j];exact Zj6 (Xx _ _) (Xx _ _) ⟨L,K,u,o,λt=>by rw [Ez,Ez,kT,e,kT]⟩
theorem Zbh(c:Tr x):Tr (Nb x y):=by
 unfold Nb;split
 .exact Yr (Ib c)
 .exact Xx _ _
theorem Zax(c:Tr x):(Nb x y).length=(Qb x y).length:=by
 unfold Nb;have h:Tr (Zu (Qb x y)):=Yr (Ib c);split
 .exact Zv _
 .rw [<-Zv (Qb x y)];exact((Zd6 (Zu (Qb x y)) (by decide:(-1:Int)≠0)).len h (Xx _ _)).symm
theorem Zt2{n:Nat}(h:Sz n p):Sz n (Yw p):=λi=>by
 unfold Yw;rw [Fu];split
 .rw [eC];exact Fd h i
 .exact Fd h i
theorem Zkd(h:Tr p)(c:p≠[]):Yw p≠[]:=λe=>c (aD (by rw [<-Qz h,e];rfl))
theorem Cy{g:List Int}(h:Tr g)(c:g≠[]):0<cf (Hb g) ((Hb g).length-1):=by have d:=h.mem c;rw [Zay h,Fu];have:g.length≠0:=λe=>c (aD e);split<;>omega
theorem Ay(h:Tr p)(c:p≠[]):Ys (Yw p)=1:=by unfold Yw;rw [Zhr];exact Ll h c
theorem Zun(h:Tr p)(c:Ys p=1)(d:0<cf p (p.length-1)):Yw p=p:=by unfold Yw;rw [Zfg c];unfold Hb;rw [aE O1]
theorem Pz(v:Tr xs)(w:xs≠[])(D:eok F (gA (Yw xs) (Yu (Yw xs))) (gB (Yw xs) (Yu (Yw xs)))) :
  pdv (Yw xs) (Ny F (Yw xs) (Yu (Yw xs)))/\Tr (sqf F xs)/\sqf F xs≠[]/\Yw xs=Qg (sqf F xs) (Ny F (Yw xs) (Yu (Yw xs)))/\Ny F (Yw xs) (Yu (Yw xs))≠[]/\Yw (sqf F xs)=sqf F xs:=by
 have hs:Tr (Yw xs):=Ol (Yr v);have j:Tr (Yu (Yw xs)):=Md hs;have n:=Zkd v w;have l:=(Zcx hs j D).1;have o:=Zez (F:=F) hs j;have d:Ny F (Yw xs) (Yu (Yw xs))≠[]:=λe=>n ((e▸l).zero hs);have M:=Zka hs j d;obtain⟨k,s,N,h⟩:=l;obtain⟨q,P⟩:=gauss M _ k s rfl N h;have c:Yw xs=Qg (tzl q) (Ny F (Yw xs) (Yu (Yw xs))):=hs.ext (Xt _ _) λi=>by rw [Iq,P,Ydx]
 obtain⟨I,R⟩:=Zol (Qh q) o d;have g:sqf F xs=tzl q:=by unfold sqf;have r:=R;rw [<-c]at r;exact r
 rw [<-c]at I;have f:tzl q≠[]:=λe=>n (by rw [c,e,Gp]);refine⟨I,by rw [g];exact Qh q,by rw [g];exact f,by rw [g];exact c,d,?_⟩;rw [g];refine Zun (Qh q) ?_ ?_
 .have z:=Ay v w;have t:Ys (tzl q)∣Ys (Yw xs):=Gy λi=>by
   rw [c,Iq,PS.mul_c];have G:∀m,Ys (tzl q)∣Yd (λk=>(ps (tzl q)).c k*(ps (Ny F (Yw xs) (Yu (Yw xs)))).c (i-k)) m:=λm=>by
    induction m with
    | zero=>exact jM _
    | succ m Q=>rw [Yf];exact Int.dvd_add Q (fO (Mv (tzl q) m) (jF _ _))
   exact G _
  rw [z]at t;have B:=Oq (tzl q);have H:=mE O4 t;have u:Ys (tzl q)≠0:=Cx (Qh q) f;omega
 .have S:=aC.2 f;have V:=aC.2 d;have z:0<cf (Yw xs) ((Yw xs).length-1):=Cy (Yr v) (λe=>w (aD (by rw [<-Zv,e];rfl)));have t:0<cf (Ny F (Yw xs) (Yu (Yw xs))) ((Ny F (Yw xs) (Yu (Yw xs))).length-1):=Cy (Zss F (Zja hs j) (Zi9 hs j)) (λe=>d (by unfold Ny;rw [e];rfl));have B:=Oe (Qh q) o f d;rw [<-c]at B;have H:cf (Yw xs) ((Yw xs).length-1)=cf (tzl q) ((tzl q).length-1)*cf (Ny F (Yw xs) (Yu (Yw xs))) ((Ny F (Yw xs) (Yu (Yw xs))).length-1):=by rw [B,c,Iq,<-c,show(tzl q).length+(Ny F (Yw xs) (Yu (Yw xs))).length-1-1=((tzl q).length-1)+((Ny F (Yw xs) (Yu (Yw xs))).length-1) by omega];exact Cz (λi hi=>Yk O1) (λi hi=>Yk O1)
  rw [H]at z;rcases fY 0 (cf (tzl q) ((tzl q).length-1))with u|u
  .exact u
  .exfalso;have:=gT u (dY t);omega
def Nl(p:List Int):(Yu p).length=p.length-1:=Yj _ _
theorem Zvc{n:Nat}(c:Sz n p)(g:p.length<=25)(i:Nat):bl (cf p (i+1)*((i:Int)+1)).natAbs<=n+5:=by
 rcases bC (i+1) p.length with h|h
 .have d:=Xe (cf p (i+1)) ((i:Int)+1);have e:=c (i+1);have f:bl ((i:Int)+1).natAbs<=5:=(Xz 5 _).2 O1;omega
 .rw [Yk h];simp [Ka]
theorem Zf9(p:List Int)(i:Nat):cf (Yu p) i=cf p (i+1)*((i:Int)+1):=by
 unfold Yu;rw [Ng];split
 .rfl
 .rw [Yk O1,dB]
theorem Am{n:Nat}(d:Sz n p)(c:p.length<=25):Sz (n+5) (Yu p):=λi=>by rw [Zf9];exact Zvc d c i
theorem Zet(h:Vp p)(c:∀i,i<p.length->bl (cf p (i+1)*((i:Int)+1)).natAbs<=65536):Vp (Yu p):=by
 refine⟨λi=>?_,Md h.tr,by rw [Nl];have:=h.len;omega⟩;rw [Zf9];by_cases hi:i<p.length
 .exact c i hi
 .rw [Yk O1];simp [Ka]
def sf_t(h:xs.length=0):Value.bool (decide (Ap xs))= .bool true:=aK Value.bool (aM (.inl h))
theorem sf_i{n:Int}(h:xs.length≠0)(d:n=(((xs.length+2)*(xs.length+2)*(Qm xs+16):Nat):Int)):Value.bool (decide (Ap xs))= .bool (decide (n<=65536)):=aK Value.bool (bQ.2 (by
 subst d;show(xs.length=0\/(xs.length+2)*(xs.length+2)*(Qm xs+16)<=65536)↔_;constructor
 .intro c;rcases c with c|c
  .exact absurd c h
  .exact lI.2 c
 .intro c;exact .inr (lI.1 c)))
theorem Zz2(h:(Qb x y).length=0):Nb x y=[]:=by have c:Qb x y=[]:=aD h;unfold Nb;rw [c];split<;>rfl
theorem Yjf(e:y.length<=x.length)(c:(cf y (y.length-1)).sign<0)(d:((x.length:Int)-(y.length:Int)+1)%2=1):Nb x y=Zu (Qb x y):=by unfold Nb;rw [aH ⟨(Pq _).1 c,O1⟩]
theorem Zwj(c:¬(cf y (y.length-1)).sign<0):Nb x y=Zl (Zu (Qb x y)) (-1):=by unfold Nb;rw [aE (λh=>c ((Pq _).2 h.1))]
theorem Zwi(d:y.length<=x.length)(c:¬((x.length:Int)-(y.length:Int)+1)%2=1):Nb x y=Zl (Zu (Qb x y)) (-1):=by unfold Nb;rw [aE (λh=>c O1)]
theorem Ztz(k:Vp xs)(l:xs≠[])(h:Yje F xs):Vp (sqf F xs):=by
 obtain⟨_,_,_,d,c⟩:=h;have j:=Ybw k;unfold sqf Kd;split
 .exact⟨Sz.nil _,Tr.nil,O7⟩
 .rename_i e;rcases c with c|c
  .exact absurd c e
  .have f:=(Zdb d).2 c.1;refine⟨?_,Qh _,?_⟩
   .rw [<-Zf5];exact(Zwf f c.2.1 _).tzl
   .have g:=Iu (Zg7 (Yw xs) (Ny F (Yw xs) (Yu (Yw xs))) ((Yw xs).length-(Ny F (Yw xs) (Yu (Yw xs))).length+1));rw [Zf5,Zby]at g;have:=j.len;have:=(Zdb d).1;omega
theorem Zko(g:Vp xs)(h:Yje F xs):(sqf F xs).length<=xs.length:=by
 obtain⟨_,_,_,d,c⟩:=h;have j:=Qz g.tr;unfold sqf Kd;split
 .exact bG _
 .rename_i e;rcases c with c|c
  .exact absurd c e
  .have f:=Iu (Zg7 (Yw xs) (Ny F (Yw xs) (Yu (Yw xs))) ((Yw xs).length-(Ny F (Yw xs) (Yu (Yw xs))).length+1));rw [Zf5,Zby]at f;have:=(Zdb d).1;have:=c.1;omega
theorem Zy3{L:List Int}{n l:Int}(hi:i<L.length)(h:(n,l)=(L.take i).foldl Mc (0,0))(hs:L.getD i 0=s)(c:s=0):(n,l)=(L.take (i+1)).foldl Mc (0,0):=by rw [Ph 0 L i hi,Zee,<-h,hs];unfold Mc;rw [aH c]
theorem Zy2{L:List Int}{n l:Int}(hi:i<L.length)(h:(n,l)=(L.take i).foldl Mc (0,0))(hs:L.getD i 0=s)(c:s≠0)(d:s=-l):(n+1,s)=(L.take (i+1)).foldl Mc (0,0):=by rw [Ph 0 L i hi,Zee,<-h,hs];unfold Mc;rw [aE c];dsimp only;rw [aH d]
theorem Zy1{L:List Int}{n l:Int}(hi:i<L.length)(h:(n,l)=(L.take i).foldl Mc (0,0))(hs:L.getD i 0=s)(c:s≠0)(d:¬s=-l):(n,s)=(L.take (i+1)).foldl Mc (0,0):=by rw [Ph 0 L i hi,Zee,<-h,hs];unfold Mc;rw [aE c];dsimp only;rw [aE d]
theorem Ymf{L:List Int}{n l:Int}(hi:L.length<=i)(h:(n,l)=(L.take i).foldl Mc (0,0)):n=chg L:=by rw [bZ hi]at h;unfold chg;rw [<-h]
theorem Yc2(z:Int):-1<=z.sign/\z.sign<=1:=by
 rcases kH z 0 with h|h|h
 .rw [eQ h];omega
 .subst h;simp
 .rw [fQ h];omega
theorem Yey{α:Type}(d:α)(f:α->Int)(ls:List α)(h:i<ls.length):(ls.map f).getD i 0=f (ls.getD i d):=by simp [aF,h]
def sgx(ls:List (SL×List Int))(f:List Int->Int):List Int:=ls.map λz=>f z.2
def Zq8(ls:List (SL×List Int))(f:List Int->Int)(h:i<ls.length):(sgx ls f).getD i 0=f (ls.getD i ((none,0,0),[])).2:=Yey _ _ _ h
def Zkp(ls:List (SL×List Int))(f:List Int->Int):(sgx ls f).length=ls.length:=aW ..
def fr(p:List Int):Int:=(cf p (p.length-1)).sign
def fl(p:List Int):Int:=if p.length%2=0 then-(cf p (p.length-1)).sign else(cf p (p.length-1)).sign
def fat(x y:Int)(p:List Int):Int:=(pev p x y).sign
def fat_r(x y:Int)(p:List Int):-1<=fat x y p/\fat x y p<=1:=Yc2 _
theorem Zma:∀(f:Nat) {x y:List Int},Vp x->Vp y->cok f x y->∀p∈Mi f x y,Vp p
 | 0,x,y,d,_,_,p,c=>by rw [aY.1 c];exact d
 | f+1,x,y,d,e,h,p,c=>by
  unfold Mi at c;split at c
  .rw [aY.1 c];exact d
  .rcases h with h|h
   .contradiction
   .rcases bJ.1 c with rfl|c
    .exact d
    .exact Zma f e (Zqs d h.1) h.2.2 p c
theorem vp_chn(e:Vp xs)(f:xs≠[])(j:Bg F xs):∀p∈chn F xs,Vp p:=by obtain⟨c,g,h⟩:=j;have d:=Ztz e f c;exact Zma F d (Kz (Zet d (λi hi=>g i (by have:=Zko e c;omega)))) h
def cnt(F:Nat)(xs:List Int)(x y:Int):Int:=chg ((chn F xs).map (fat x y))
def sright(F:Nat)(xs:List Int):Int:=chg ((chn F xs).map fr)
def sleft(F:Nat)(xs:List Int):Int:=chg ((chn F xs).map fl)
theorem Zwl{C:List (List Int)}(h:ls.map Prod.snd=C)(f:List Int->Int):sgx ls f=C.map f:=by rw [<-h,lG];rfl
def Mo{C:List (List Int)}{p:List Int->Prop}(h:ls.map Prod.snd=C)(c:∀q∈C,p q):∀z∈ls,p z.2:=λz d=>c _ (h▸List.mem_map_of_mem d)
theorem Zg9(L:List Int):0<=chg L/\chg L<=L.length:=by
 unfold chg;suffices h:∀(l:List Int) (s:Int×Int),s.1<=(l.foldl Mc s).1/\(l.foldl Mc s).1<=s.1+l.length by have:=h L (0,0);simpa using this
 intro l
 induction l with
 | nil=>intro s;simp
 | cons x l c=>
  intro s;have d:=c (Mc s x);have e:=chg1_n s x;simp only [gY,dG];omega
theorem Zdq:∀(f:Nat) (x y:List Int),(Mi f x y).length<=f+1
 | 0,x,y=>aI _
 | f+1,x,y=>by
  unfold Mi;split
  .simp
  .have:=Zdq f y (Nb x y);simp;omega
def sm(xs:List Int)(i:Nat):Nat:=(xs.take i).foldl (λm c=>max m c.natAbs) 0
def Zeb{x y:Int}(h:¬Kc x y):Eh x y=x/Lb x y/\Fj x y=y/Lb x y/\Ydp x y=0:=⟨aE h,aE h,aE h⟩
theorem nr_bl{x y:Int}(h:¬Kc x y):bl (Eh x y).natAbs<=65536/\bl (Fj x y).natAbs<=65536:=by obtain⟨c,d,_⟩:=Zeb h;rw [c,d];unfold Kc at h;omega
theorem Zuo{x y:Int}(h:¬Kc x y)(c:0<y):0<Fj x y:=by rw [(Zeb h).2.1];exact Yaw c
abbrev R2:=Int×Int
def Pf(a b:R2):R2:=(Eh (Eh (a.1*b.2+b.1*a.2) (a.2*b.2)*1) (Fj (a.1*b.2+b.1*a.2) (a.2*b.2)*2),Fj (Eh (a.1*b.2+b.1*a.2) (a.2*b.2)*1) (Fj (a.1*b.2+b.1*a.2) (a.2*b.2)*2))
def Zdp(a b:R2):Prop:=¬Kc (a.1*b.2+b.1*a.2) (a.2*b.2)/\¬Kc (Eh (a.1*b.2+b.1*a.2) (a.2*b.2)*1) (Fj (a.1*b.2+b.1*a.2) (a.2*b.2)*2)
instance (a b:R2):Decidable (Zdp a b):=by unfold Zdp;infer_instance
def Yat{a b:R2}(h:Zdp a b):Ydp (Eh (a.1*b.2+b.1*a.2) (a.2*b.2)*1) (Fj (a.1*b.2+b.1*a.2) (a.2*b.2)*2)=0:=(Zeb h.2).2.2
def isp(c:R2->Int)(e:Int):Nat->R2->R2->Int->Int->Nat->List (R2×R2)
 | 0,_,_,_,_,_=>[]
 | f+1,a,b,fr,g,d=>if fr=g then []else if fr-g=1/\e<=(d:Int)then [(a,b)]else isp c e f a (Pf a b) fr (c (Pf a b)) (d+1) ++ isp c e f (Pf a b) b (c (Pf a b)) g (d+1)
def Zxs(c:R2->Int)(g:R2->Prop)(e:Int):Nat->R2->R2->Int->Int->Nat->Prop
 | 0,_,_,_,_,_=>False
 | f+1,a,b,fr,h,d=>fr=h\/(fr-h=1/\e<=(d:Int))\/(d<1000/\Zdp a b/\g (Pf a b)/\Zxs c g e f a (Pf a b) fr (c (Pf a b)) (d+1)/\Zxs c g e f (Pf a b) b (c (Pf a b)) h (d+1))
instance ispDec (c:R2->Int) (e:R2->Prop) [DecidablePred e] (g:Int):∀f a b fr h d,Decidable (Zxs c e g f a b fr h d)
 | 0,_,_,_,_,_=>inferInstanceAs (Decidable False)
 | f+1,a,b,fr,h,d=>@instDecidableOr _ _ _ (@instDecidableOr _ _ _ (@instDecidableAnd _ _ _ (@instDecidableAnd _ _ _ (@instDecidableAnd _ _ _ (@instDecidableAnd _ _ (ispDec c e g f a (Pf a b) fr (c (Pf a b)) (d+1)) (ispDec c e g f (Pf a b) b (c (Pf a b)) h (d+1)))))))
def okQ(z:R2):Prop:=bl z.1.natAbs<=65536/\bl z.2.natAbs<=65536/\0<z.2
def evok(ls:List (SL×List Int))(m:R2):Prop:=∀z∈ls,¬Lv z.2 m.1 m.2
def cvx(ls:List (SL×List Int))(m:R2):Int:=chg (sgx ls (fat m.1 m.2))
def cvc(F:Nat)(xs:List Int)(m:R2):Int:=cnt F xs m.1 m.2
def evc(F:Nat)(xs:List Int)(m:R2):Prop:=∀p∈chn F xs,¬Lv p m.1 m.2
def slow(a:R2):R2:=(Eh a.1 a.2,Fj a.1 a.2)
def sisol(F:Nat)(xs:List Int)(f:Nat)(a b:R2)(c:Int):List (R2×R2):=isp (cvc F xs) c f (slow a) (slow b) (cvc F xs a) (cvc F xs b) 0
def isOK(F:Nat)(xs:List Int)(f:Nat)(a b:R2)(c:Int):Prop:=Bg F xs/\evc F xs a/\evc F xs b/\¬Kc a.1 a.2/\¬Kc b.1 b.2/\Zxs (cvc F xs) (evc F xs) c f (slow a) (slow b) (cvc F xs a) (cvc F xs b) 0/\(sisol F xs f a b c).length<=1000000
open Go.RowKit (Below)
variable {P:Program} {N:Nat} {sc:Nat->Prop} {env env':Qt} {H H':Hp} {Q Q':Exit->Act->World->Prop} {M:Nat->Prop}
def CalM(P:Program)(f:FuncId)(args:Array Value)(pre:List Pc){G:Type}(φ:G->Prop)(Ye:G->Value)(d c:G->Pc):Prop:=
 ∀w,(∀p∈pre,p.holds w)->Calls P f args w λe h=>∃g,e= .returned (Ye g)/\φ g/\Below w.heap.size w h/\(d g).holds h/\(∀b,(d g).fp b->w.heap.size<=b)/\
  (c g).holds h/\(c g).own=false/\(∀b,(c g).fp b->w.heap.size<=b\/∃q∈pre,q.fp b)/\∀b,(d g).fp b->(c g).fp b->False
def FPostM(P:Program)(fn:Func)(w0:World)(pre:List Pc){G:Type}(φ:G->Prop)(Ye:G->Value)(d c:G->Pc):Exit->Act->World->Prop:=
 bodyPost P fn λe f=>∃g,e= .returned (Ye g)/\φ g/\Below w0.heap.size w0 f/\(d g).holds f/\(∀b,(d g).fp b->w0.heap.size<=b)/\
  (c g).holds f/\(c g).own=false/\(∀b,(c g).fp b->w0.heap.size<=b\/∃q∈pre,q.fp b)/\∀b,(d g).fp b->(c g).fp b->False
theorem Zjr{β:Type}{q:β->Pc}{zs ys:List β}(i j n:Nat)(hi:lk H i=some (Gf q zs))(l:lk H j=some (Gf q ys))(d:Nat.beq i 0=false)(e:Nat.beq j 0=false) :
  ∀a w,Sat N sc env H a w->Sat N sc env ((n,Gf q (zs ++ ys))::H) a w:=
 Zua i j n hi l d e rfl rfl (λw g k y f=>by
  rcases cQ.1 f with h|h
  .exact g y h
  .exact k y h) (λb c=>by
  obtain⟨y,f,c⟩:=c;rcases cQ.1 f with h|h
  .exact .inl ⟨y,h,c⟩
  .exact .inr ⟨y,h,c⟩) rfl
abbrev qD (z:SL×Nat):Pc:=Ga (Qi z.1) z.2
abbrev JE:=(R2×R2)×(SL×SL×SL×SL)
abbrev encJ (y:JE):Value:= .agg #[.bool (decide (y.1.1.1<0)),Qi y.2.1,.bool (decide (y.1.1.2<0)),Qi y.2.2.1,.bool (decide (y.1.2.1<0)),Qi y.2.2.2.1,.bool (decide (y.1.2.2<0)),Qi y.2.2.2.2]
abbrev qJ (y:JE):Pc:=Gf qD [(y.2.1,y.1.1.1.natAbs),(y.2.2.1,y.1.1.2.natAbs),(y.2.2.2.1,y.1.2.1.natAbs),(y.2.2.2.2,y.1.2.2.natAbs)]
abbrev J0:JE:=(((0,0),(0,0)),((none,0,0),(none,0,0),(none,0,0),(none,0,0)))
end Go.Sky
namespace Go.Sky
variable{M M0:Nat->Prop}{o:Oper}{x y:Operand}{t tb:TypeId}{cs:Array Value}{v:Value}{vs:List Value}{zs:List (SL×List Int)}{r:List Pc}{z:SL×List Int}
variable {P:Program} {N:Nat} {sc:Nat->Prop} {env env':Qt} {H H':Hp} {Q Q':Exit->Act->World->Prop}
theorem Zrd(w:World)(g:Nat)(cs:Array Value)(t:TypeId)(fr:Nat×Nat)(a:w.heap[g]? = some (.cells cs t fr)):w.setRow g cs=w:=by
 obtain⟨b,c⟩:=bB.1 a;have h:(w.setRow g cs).heap=w.heap:=by
  apply Array.ext_getElem?;intro i;by_cases h:g=i
  .subst h;rw [setRow_heap w g cs cs t fr a,a]
  .unfold World.setRow;dsimp only;rw [Array.getElem?_modify,aE h]
 have e:w.setRow g cs={ w with heap:=(w.setRow g cs).heap }:=rfl;rw [e,h]
theorem Zmh     {i b j k:Nat}    (s:o.op= .store t x y) (p:o.dst=none)
  (D:ev env x=some (.pointer (some ⟨b,j,none⟩))) (F:ev env y=some v) (m:lk H i=some (Ie b tb cs)) (B:v.cells=vs.toArray) (q:∀w,(sizeOf t).run P w= .ok k w) (d:vs.length=k)
  (c:Nat.ble (j+vs.length) cs.size=true) (l:∀u∈vs,u.oneCell'=true) (e:Gx cs j vs=cs) :
  T P N sc M o env H (G:=Unit) (λ_=>True) (λ_=>env) (λ_=>H):=λa w hs K Q n=>by
 have g:w.heap[b]? = some (.cells cs tb (0,0)):=hs.hold i _ m;have f:=run_storeCells_at P b j tb vs 0 cs w g (by simpa using iZ c) l;simp only [eE]at f;have h:(execOp a.eval o).run P w= .ok .skip (w.setRow b (Gx cs j vs)):=by simp [execOp,s,hs.ev D,hs.ev F,Instr.storeAt,Instr.sureAddr,storeVar,B,q,d,f,Gx]
 rw [e,Zrd w b cs tb _ g]at h;unfold Oper.wp;rw [h];show K (a.put o.dst _) _;rw [p];exact n () _ _ aA (hs.put_none undef) (Chg.refl _ _)
def t_stp1     {i b j:Nat}   {w0:World}  (m:o.op= .store t x y) (k:o.dst=none)
  (p:ev env x=some (.pointer (some ⟨b,j,none⟩))) (q:ev env y=some v) (g:lk H i=some (box b tb cs)) (d:i≠0) (l:∀w,(sizeOf t).run P w= .ok 1 w) (c:Nat.ble (j+1) cs.size=true) (e:One N sc env H v)
  (f:lk H 0=some (Xd w0 M0)) (n:∀b,w0.heap.size<=b->sc b) (h:M b) :
  T P N sc M o env H (G:=Unit) (λ_=>True) (λ_=>env) (λ_=>(i,box b tb (Gx cs j [v]))::H):=λa w hs=>
 t_stp (cs':=#[]) (vs:=[v]) m k p q g d (Zq (e a w hs)) l rfl c ⟨e,aA⟩ f n h a w hs
def Ydz{al:Bool}(i:Nat)(hi:lk H i=some (Qc 1 Kw (λy:SL×List Int=>Ym 2 wv (Qi y.1) y.2) v zs))(a:Nat.beq i 0=false)(b:z∈zs)(h:PreOk H al r):PreOk H al (Ym 2 wv (Qi z.1) z.2::r):=Zro (q:=λy:SL×List Int=>Ym 2 wv (Qi y.1) y.2) (z:=z) i hi a b h
end Go.Sky
namespace Go.Sky
variable{v:Int}{o:Oper}{x y:Operand}{t tb:TypeId}{b i k:Nat}{kd:IntKind}{M M0:Nat->Prop}{w0:World}{cs:Array Value}
variable {P:Program} {N:Nat} {sc:Nat->Prop} {env env':Qt} {H H':Hp} {Q Q':Exit->Act->World->Prop}
def Du(l:List Int):Array Value:=(l.map (Value.int .i64)).toArray
theorem Zzt(l:List Int):(Du l).size=l.length:=by simp [Du]
theorem Ybv{l:List Int}{j:Nat}(h:j<l.length):(Du l)[j]? = some (.int .i64 (l.getD j 0)):=by simp [Du,aL h,aF]
theorem Ybu{l:List Int}{j:Nat}(h:j<l.length):Gx (Du l) j [.int .i64 v]=Du (l.set j v):=by unfold Gx Du;congr 1;rw [kE,aH h,eK,cP,mD,List.map_drop];simp
theorem Ii   {e:TypeId} {d c:Nat}  {m:Int} (j:o.op= .indexAddr t x y) (n:ev env x=some (.pointer (some ⟨b,d,none⟩))) (p:ev env y=some (.int kd m))
  (l:P.underlying t=some (.array c e)) (h:∀w,(sizeOf e).run P w= .ok k w) (f:m=(i:Int):=by omega) (g:i<c:=by omega):Nv P N sc o env H (.pointer (some ⟨b,d+i*k,none⟩)):=λa w hs=>by
 subst f;simp [execOp,j,hs.ev n,hs.ev p,Instr.indexAt,Instr.sureAddr,asIntOf,run_underlying l,h,g,Ps]
theorem Zpr{j:Nat}{l:List Int}(d:o.op= .load t x)(f:ev env x=some (.pointer (some ⟨b,j,none⟩)))(a:lk H i=some (box b tb (Du l)))(e:∀w,(isAgg t).run P w= .ok false w)(c:j<l.length:=by omega) :
  Nv P N sc o env H (.int .i64 (l.getD j 0)):=Ybc d f a e (Ybv c)
theorem d_lwa{l:List Int}(e:o.op= .load t x)(h:ev env x=some (.pointer (some ⟨b,0,none⟩)))(a:lk H i=some (box b tb (Du l)))(f:∀w,(isAgg t).run P w= .ok true w)(c:∀w,(sizeOf t).run P w= .ok k w)(d:l.length=k) :
  Nv P N sc o env H (.agg (Du l)):=
 Zyn (vs:=l.map (Value.int .i64)) e h a f c (by simpa using d) (λn u g=>by rw [bW];simpa [Du]using g)
theorem Znt     {j:Nat} {l:List Int}    (m:o.op= .store t x y) (g:o.dst=none)
  (q:ev env x=some (.pointer (some ⟨b,j,none⟩))) (r:ev env y=some (.int .i64 v)) (e:lk H i=some (box b tb (Du l))) (h:∀w,(sizeOf t).run P w= .ok 1 w) 
  (d:lk H 0=some (Xd w0 M0)) (p:∀b,w0.heap.size<=b->sc b) (f:M b) (a:i≠0:=by decide) (c:j<l.length:=by omega) :
  T P N sc M o env H (G:=Unit) (λ_=>True) (λ_=>env) (λ_=>(i,box b tb (Du (l.set j v)))::H):=by
 rw [<-Ybu c];exact Zje (vs:=[.int .i64 v]) m g q r e a rfl h rfl (by rw [Zzt];exact c) (λu n=>Zr (by rw [aY.1 n];rfl)) rfl d p f
theorem Yb6       {l:List Int}   (j:o.op= .store t x y) (f:o.dst=none)
  (p:ev env x=some (.pointer (some ⟨b,0,none⟩))) (q:ev env y=some (.agg (Du l))) (d:lk H i=some (box b tb cs)) (g:∀w,(sizeOf t).run P w= .ok k w) (h:l.length=k) (r:cs.size=k)
  (c:lk H 0=some (Xd w0 M0)) (n:∀b,w0.heap.size<=b->sc b) (e:M b) (a:i≠0:=by decide) :
  T P N sc M o env H (G:=Unit) (λ_=>True) (λ_=>env) (λ_=>(i,box b tb (Du l))::H):=
 Zje (vs:=l.map (Value.int .i64)) j f p q d a rfl g (by simpa using h) O9 (λu m=>Zr (by obtain⟨z,_,rfl⟩:=eN.1 m;rfl)) (by unfold Gx Du;rw [eH,iW,bW,kI O9,iX]) c n e
def Pp:Nat->Nat->Nat
 | _,0=>1
 | 0,_+1=>0
 | n+1,k+1=>Pp n k+Pp n (k+1)
theorem Zvk:∀n k,Pp n k<=2^n
 | 0,0=>O4
 | _+1,0=>dO _
 | 0,_+1=>bG _
 | n+1,k+1=>by have a:=Zvk n k;have c:=Zvk n (k+1);show Pp n k+Pp n (k+1)<=2^(n+1);rw [bX];omega
theorem Zlf:∀n k,n<k->Pp n k=0
 | _,0,h=>absurd h (cI _)
 | 0,_+1,_=>rfl
 | n+1,k+1,h=>by show Pp n k+Pp n (k+1)=0;rw [Zlf n k O1,Zlf n (k+1) O1]
structure Tab (l:List Int) (n k:Nat):Prop where
 len:l.length=625
 eq:∀r c,r<25->c<25->l.getD (r*25+c) 0=if r<n\/(r=n/\c<k)then(Pp r c:Int)else 0
theorem Zg3{l:List Int}{j:Nat}(hi:i<l.length:=by omega):(l.set i v).getD j 0=if j=i then v else l.getD j 0:=by
 rw [aF,aF,List.getElem?_set];by_cases h:i=j
 .subst h;rw [aH rfl,aH hi,aH rfl];rfl
 .rw [aE h,aE (λe=>h e.symm)]
theorem Tab.start:Tab (List.replicate 625 0) 0 0:=⟨aV,λr c d a=>by rw [aE O1,aF];rw [iN];split<;>rfl⟩
theorem Tab.step{l:List Int}{n:Nat}(h:Tab l n k)(w:n<25)(u:k<25)(s:v=(Pp n k:Int)){j:Nat}(m:j=n*25+k):Tab (l.set j v) n (k+1):=by
 subst m;have p:=h.len;refine⟨by rw [cH];exact p,λr c q f=>?_⟩;rw [Zg3,h.eq r c q f];by_cases e:r*25+c=n*25+k
 .have a:r=n:=O1;have d:c=k:=O1;subst a;subst d;rw [aH rfl,aH O1];exact s
 .rw [aE e];have:¬(r=n/\c=k):=λ⟨a,d⟩=>e (by rw [a,d]);by_cases g:r<n\/(r=n/\c<k)
  .rw [aH g,aH O1]
  .rw [aE g,aE O1]
theorem Tab.row{l:List Int}{n:Nat}(h:Tab l n k)(f:n<k):Tab l (n+1) 0:=⟨h.len,λr c e d=>by
 rw [h.eq r c e d];by_cases g:r<n\/(r=n/\c<k)
 .rw [aH g,aH O1]
 .rw [aE g];by_cases a:r<n+1\/(r=n+1/\c<0)
  .rw [aH a,Zlf r c O1];rfl
  .rw [aE a]⟩
theorem Tab.get{l:List Int}{n r c:Nat}(h:Tab l n k)(f:r<25)(d:c<25)(a:r<n\/(r=n/\c<k)){j:Nat}(e:j=r*25+c):l.getD j 0=(Pp r c:Int):=by rw [e,h.eq r c f d,aH a]
theorem Zy0{n:Nat}(c:1<=n:=by omega)(a:1<=k:=by omega):Pp n k=Pp (n-1) (k-1)+Pp (n-1) k:=by obtain⟨m,rfl⟩:∃m,n=m+1:=⟨n-1,O1⟩;obtain⟨j,rfl⟩:∃j,k=j+1:=⟨k-1,O1⟩;rfl
end Go.Sky
namespace Go.Sky
variable{k i:Nat}{t tb:TypeId}{cells:Array Value}{o:Oper}{x y:Operand}{kd:IntKind}{v0 v1 v2:Value}{M M0:Nat->Prop}
structure Tb (l:List Int) (n k:Nat):Prop where
 len:l.length=36
 eq:∀r c,r<6->c<6->l.getD (r*6+c) 0=if r<n\/(r=n/\c<k)then(Pp r c:Int)else 0
theorem Tb.start:Tb (List.replicate 36 0) 0 0:=⟨aV,λr c b a=>by rw [aE O1,aF];rw [iN];split<;>rfl⟩
theorem Tb.step{l:List Int}{n:Nat}{v:Int}(h:Tb l n k)(u:n<6)(s:k<6)(q:v=(Pp n k:Int)){j:Nat}(f:j=n*6+k):Tb (l.set j v) n (k+1):=by
 subst f;have m:=h.len;refine⟨by rw [cH];exact m,λr c p d=>?_⟩;rw [Zg3,h.eq r c p d];by_cases e:r*6+c=n*6+k
 .have a:r=n:=O1;have b:c=k:=O1;subst a;subst b;rw [aH rfl,aH O1];exact q
 .rw [aE e];have:¬(r=n/\c=k):=λ⟨a,b⟩=>e (by rw [a,b]);by_cases g:r<n\/(r=n/\c<k)
  .rw [aH g,aH O1]
  .rw [aE g,aE O1]
theorem Tb.row{l:List Int}{n:Nat}(h:Tb l n k)(e:n<k):Tb l (n+1) 0:=⟨h.len,λr c d b=>by
 rw [h.eq r c d b];by_cases g:r<n\/(r=n/\c<k)
 .rw [aH g,aH O1]
 .rw [aE g];by_cases a:r<n+1\/(r=n+1/\c<0)
  .rw [aH a,Zlf r c O1];rfl
  .rw [aE a]⟩
theorem Tb.get{l:List Int}{n r c:Nat}(h:Tb l n k)(e:r<6)(b:c<6)(a:r<n\/(r=n/\c<k)){j:Nat}(d:j=r*6+c):l.getD j 0=(Pp r c:Int):=by rw [d,h.eq r c e b,aH a]
theorem Zp2{n:Nat}(h:n<=5:=by omega):Pp n k<=32:=aB (Zvk n k) (aB (dE O4 h) O4)
theorem Es {P:Program} {e:TypeId} {n:Nat} {b a:TypeInfo} {z:Value} (parts:List (Nat×Value))  (hi:P.info? t=some b) (f:P.underlying t=some (.array n e)) (g:b.zero=some z) (c:P.info? e=some a)
  (d:Instr.fill (λi=>some (i*a.size,a.size)) z.cells parts=some cells):P.built t parts=some cells:=by
 unfold Program.built;simp only [hi,f,g,c,d]
variable {P:Program} {N:Nat} {sc:Nat->Prop} {env env':Qt} {H H':Hp} {Q Q':Exit->Act->World->Prop}
def Zk{α:Type _}(i:Nat)(a b c:α):α:=match i with
 | 0=>a
 | 1=>b
 | _=>c
theorem Gc{α:Type _}{p:α->Prop}{a b c:α}(d:p a)(e:p b)(f:p c):p (Zk i a b c):=by unfold Zk;split<;>assumption
theorem Znc   {e:TypeId}   {m:Int}  (h:o.op= .index t x y) (l:ev env x=some (.agg #[v0,v1,v2])) (n:ev env y=some (.int kd m))
  (j:P.underlying t=some (.array 3 e)) (f:∀w,(sizeOf e).run P w= .ok 1 w) (d:∀w,(isAgg e).run P w= .ok false w) (b:m=(i:Int)) (g:i<3:=by omega):Nv P N sc o env H (Zk i v0 v1 v2):=λa w hs=>by
 subst b;have c:i=0\/i=1\/i=2:=O1;rcases c with rfl|rfl|rfl<;>simp [execOp,h,hs.ev l,hs.ev n,Instr.index,asIntOf,run_underlying j,f,d,asAgg,part,Zk]
theorem Zbn {α:Type}  {enc:α->Value}  {f g j:List α} (i c d e n:Nat) (l:lk H c=some (Ym k enc v0 f)) (m:lk H d=some (Ym k enc v1 g)) (p:lk H e=some (Ym k enc v2 j))
  (q:Nat.beq c 0=false) (r:Nat.beq d 0=false) (s:Nat.beq e 0=false):∀a w,Sat N sc env H a w->Sat N sc env ((n,Ym k enc (Zk i v0 v1 v2) (Zk i f g j))::H) a w:=by
 match i with
 | 0=>exact Zdj c n l q rfl (λw h=>h) (λb h=>h) rfl
 | 1=>exact Zdj d n m r rfl (λw h=>h) (λb h=>h) rfl
 | i+2=>exact Zdj e n p s rfl (λw h=>h) (λb h=>h) rfl
theorem Zs5{α:Type}{b j:Nat}{enc:α->Value}{l:List α}(d:α)(n:o.op= .load t x)(s:ev env x=some (.pointer (some ⟨b,0+j*k,none⟩)))(g:lk H i=some (box b tb (cellsOf enc l).toArray))(e:Enc P t k enc)(m:j<l.length) :
  Nv P N sc o env H (enc (l.getD j d)):=λa w hs=>by
 have hi:l[j]? = some (l.getD j d):=by simp [List.getD,aL m]
 have h:=e.load (l.getD j d) w ⟨b,0+j*k,none⟩ (λq u p=>by have f:=Hc e.cells l j _ hi q u p;rw [Ps,hs.boxc g];simpa using f)
 have c:=hs.ev s;generalize enc (l.getD j d)=r at h ⊢;generalize (⟨b,0+j*k,none⟩:Addr)=v at h c;simp [execOp,n,c,Instr.loadAt,Instr.sureAddr,h]
theorem t_sbe {α:Type}     {b j:Nat} {enc:α->Value} {l:List α} (z:α) {w0:World}  (q:o.op= .store t x y) (n:o.dst=none)
  (v:ev env x=some (.pointer (some ⟨b,0+j*k,none⟩))) (w:ev env y=some (enc z)) (h:lk H i=some (box b tb (cellsOf enc l).toArray)) (a:Enc P t k enc) (f:j<l.length)
  (g:lk H 0=some (Xd w0 M0)) (s:∀b,w0.heap.size<=b->sc b) (m:M b) (c:i≠0:=by decide) :
  T P N sc M o env H (G:=Unit) (λ_=>True) (λ_=>env) (λ_=>(i,box b tb (cellsOf enc (l.set j z)).toArray)::H):=by
 have p:=Xc a.cells l;have e:(enc z).cells.toList.length=k:=by simp [a.cells]
 have d:(j+1)*k<=l.length*k:=aN _ f;rw [eF]at d;refine Zje (vs:=(enc z).cells.toList) q n v w h c rfl a.size e (by rw [e,jE,p];omega) (λu r=>Zr (a.one z u r)) ?_ g s m;unfold Gx;rw [bW,e,Zcf a.cells l j z f]
end Go.Sky
namespace Go.Sky
variable{o:Oper}{x:Operand}{t tb te:TypeId}{M M0:Nat->Prop}{cs:Array Value}
variable {P:Program} {N:Nat} {sc:Nat->Prop} {env env':Qt} {H H':Hp} {Q Q':Exit->Act->World->Prop}
theorem d_lea{α:Type}{i b k q:Nat}{enc:α->Value}{l:List α}(f:o.op= .load t x)(j:ev env x=some (.pointer (some ⟨b,0,none⟩)))(a:lk H i=some (box b tb (cellsOf enc l).toArray))(c:Enc P te q enc)(g:∀w,(isAgg t).run P w= .ok true w)(d:∀w,(sizeOf t).run P w= .ok k w)(e:l.length*q=k) :
  Nv P N sc o env H (.agg (cellsOf enc l).toArray):=
 Zyn (vs:=cellsOf enc l) f j a g d (by rw [Xc c.cells l];exact e) (λn u h=>by rw [bW];simpa using h)
theorem t_sea {α:Type}   {y:Operand}  {i b k q:Nat}  {enc:α->Value} {l:List α} {w0:World}  (r:o.op= .store t x y) (m:o.dst=none)
  (v:ev env x=some (.pointer (some ⟨b,0,none⟩))) (B:ev env y=some (.agg (cellsOf enc l).toArray)) (g:lk H i=some (box b tb cs)) (a:i≠0) (d:Enc P te q enc) (n:∀w,(sizeOf t).run P w= .ok k w) (p:l.length*q=k) (j:cs.size=k)
  (f:lk H 0=some (Xd w0 M0)) (s:∀b,w0.heap.size<=b->sc b) (h:M b) :
  T P N sc M o env H (G:=Unit) (λ_=>True) (λ_=>env) (λ_=>(i,box b tb (cellsOf enc l).toArray)::H):=by
 have c:(cellsOf enc l).length=k:=by rw [Xc d.cells l];exact p
 refine Zje (vs:=cellsOf enc l) r m v B g a rfl n c (by rw [c,bW,j];exact aI _) (λu e=>?_) (by unfold Gx;rw [eH,iW,bW,kI O9,iX]) f s h
 unfold cellsOf at e;obtain⟨z,_,D⟩:=kN.1 e;exact Zr (d.one z u D)
end Go.Sky
namespace Go.Sky
variable {P:Program} {N:Nat} {sc:Nat->Prop} {env env':Qt} {H H':Hp} {Q Q':Exit->Act->World->Prop}
abbrev Zi:=(Int×Int×Int)×(SL×List Int)×(SL×List Int)×(SL×List Int)
abbrev Pd (g:Zi):Value:= .agg #[.int .i64 g.1.1,.int .i64 g.1.2.1,.int .i64 g.1.2.2,Qi g.2.1.1,Qi g.2.2.1.1,Qi g.2.2.2.1]
abbrev qC (z:SL×List Int):Pc:=Ym 1 Yo (Qi z.1) z.2
abbrev qG (g:Zi):Pc:=Gf qC [g.2.1,g.2.2.1,g.2.2.2]
abbrev G0:Zi:=((0,0,0),((none,0,0),[]),((none,0,0),[]),((none,0,0),[]))
def Qe{v:Value}{ps:List Zi}{g:Zi}{z:SL×List Int}(j n:Nat)(i:lk H j=some (Qc 6 Pd qG v ps))(c:Nat.beq j 0=false)(d:g∈ps)(e:z∈[g.2.1,g.2.2.1,g.2.2.2]):∀a w,Sat N sc env H a w->Sat N sc env ((n,Ym 1 Yo (Qi z.1) z.2)::H) a w:=
 Zdj j n i c rfl (λw h=>h.2 g d z e) (λb f=> .inr ⟨g,d,z,e,f⟩) rfl
end Go.Sky
namespace Go.Sky
variable{x c y z a b xs:List Int}{i k F:Nat}{over ov Y:Int}{s η ε t δ:Rat}{f:Rat->Rat}{fs:List (Rat->Rat)}{ls:List (List Int)}
theorem Hy{x:Int}(h:Oz x):bl x.natAbs<=64:=(Xz 64 _).2 (by obtain⟨d,e⟩:=h;omega)
theorem in_bl{x:Int}(h:bl x.natAbs<=63):Oz x:=by have:=(Xz 63 x.natAbs).1 h;exact⟨O1,O1⟩
theorem bl_pw{n:Int}(h:bl n.natAbs<=100)(hi:i<=10):bl (n^i).natAbs<=1000:=by
 rcases aU i with d|d
 .subst d;rw [cT];decide
 .exact aB (Dd n h i d) (by have:=aN 100 hi;omega)
def Bl:List Int->Int
 | []=>1
 | x::r=>x*Bl r
def zc6_eq:(Value.agg (List.replicate 36 (Value.int .i64 0)).toArray).cells=Du (List.replicate 36 0):=rfl
def Zql:(Value.agg (List.replicate 36 (Value.int .i64 0)).toArray).cells.size=36:=rfl
def w60(n j k:Nat):Int:=60/(Pp n k:Int)*(Pp j k:Int)
def ctl(c:List Int)(j m:Nat):Int:=Yd (λk=>c.getD k 0*w60 (c.length-1) j k) m
def Yhb(c:List Int)(j m:Nat):ctl c j (m+1)=ctl c j m+c.getD m 0*w60 (c.length-1) j m:=rfl
theorem Zis:∀{n k:Nat},k<=n->0<Pp n k
 | n,0,_=>by cases n<;>exact Nat.one_pos
 | n+1,k+1,h=>by have:=Zis (n:=n) (k:=k) O1;show 0<Pp n k+Pp n (k+1);omega
theorem Zty{n j:Nat}(g:j<=5):0<=w60 n j k/\w60 n j k<=1920:=by have h:=Zp2 (k:=k) g;unfold w60;have d:(0:Int)<=60/(Pp n k:Int):=jV O4 O1;have e:(60:Int)/(Pp n k:Int)<=60:=mI _ O4;refine⟨eA d O1,?_⟩;have:=kJ e (show(Pp j k:Int)<=32 by omega) O1 O4;omega
theorem Zll{n j:Nat}(d:j<=5):bl (w60 n j k).natAbs<=11:=by have:=Zty (n:=n) (k:=k) d;exact(Xz 11 _).2 O1
theorem Mp(h:∀x∈c,Oz x)(k:Nat):Oz (c.getD k 0):=by
 by_cases d:k<c.length
 .exact h _ (Ze d)
 .rw [aF,bD O1];exact⟨O4,O4⟩
theorem Zcj(h:∀x∈c,Oz x){j m:Nat}(d:j<=5)(e:m<=31):bl (ctl c j m).natAbs<=80:=
 Ziw (K:=75) (λk _=>by have g:=Hy (Mp h k);have l:=Zll (n:=c.length-1) (k:=k) d;have:=Xe (c.getD k 0) (w60 (c.length-1) j k);omega) e
def Zlk(c:List Int)(over:Int):Bool:=(List.range c.length).all λj=>decide ((ctl c j (j+1)).natAbs<=62914560*over)
theorem Zvs(h:∀j,j<c.length->((ctl c j (j+1)).natAbs:Int)<=62914560*over):Zlk c over=true:=by unfold Zlk;rw [cL];intro j d;exact aM (h j (gE.1 d))
theorem Zvt{j:Nat}(d:j<c.length)(h:¬((ctl c j (j+1)).natAbs:Int)<=62914560*over):Zlk c over=false:=by
 cases hb:Zlk c over with
 | false=>rfl
 | true=>
  unfold Zlk at hb;rw [cL]at hb;exact absurd (bL (hb j (gE.2 d))) h
theorem wc_abs(s:Int):(#[.bool false,.string (Xu s.natAbs)]:Array Value)=wc (s.natAbs:Int):=by have:decide (((s.natAbs:Nat):Int)<0)=false:=aJ O1;rw [show wc (s.natAbs:Int)=#[.bool (decide (((s.natAbs:Nat):Int)<0)),.string (Xu ((s.natAbs:Nat):Int).natAbs)]from rfl,this,dC]
theorem sgp(z:Int):0<z.sign↔0<z:=by simpa using Fg z
def axB(c:List Int)(over:Int):Bool:=decide (1<=c.length) && decide (c.length<=6) && !(decide (1<c.length) && decide (c.getD (c.length-1) 0=0)) && Zlk c over
def Nt(g:Int):List Int->Int
 | []=>g
 | x::r=>Nt (Int.gcd g x) r
def Hd:∀(a b:List Int) (g:Int),Nt g (a ++ b)=Nt (Nt g a) b
 | [],_,_=>rfl
 | x::a,b,g=>Hd a b _
theorem Zac{l:List Int}(g:Int)(h:i<l.length):Nt g (l.take (i+1))=(Int.gcd (Nt g (l.take i)) (l.getD i 0):Int):=by rw [Ph 0 _ _ h,Hd];rfl
theorem Zgb:∀{l:List Int} {g:Int} {m:Nat},(∀x∈l,bl x.natAbs<=m)->bl g.natAbs<=m->bl (Nt g l).natAbs<=m
 | [],_,_,_,h=>h
 | x::l,g,m,h,hg=>Zgb (l:=l) (λy d=>h y (bF _ d)) (aB (Zix g x) (by have:=h x (bT ..);omega))
abbrev Cs:=List Int×List Int×List Int
def Zzw(fr d ov:Int):Bool:=decide (0<=fr) && decide (fr<d) && decide (d<=3600000) && decide (1<=ov) && decide (ov<=4294967296)
def De(fr d ov:Int)(x y z:List Int):Bool:=Zzw fr d ov && axB x ov && axB y ov && axB z ov && decide (Nt ov (x ++ y ++ z)=1)
def Ma(i:Nat)(x y z:List Int):List Int:=match i with
 | 0=>[]
 | 1=>x
 | 2=>x ++ y
 | _=>x ++ y ++ z
theorem Dk(x y z:List Int)(h:i<3):Ma (i+1) x y z=Ma i x y z ++ Zk i x y z:=by
 match i,h with
 | 0,_=>rfl
 | 1,_=>rfl
 | 2,_=>rfl
theorem Zbm{fr d:Int}(h:axB (Zk i x y z) ov=false):De fr d ov x y z=false:=by unfold De;revert h;unfold Zk;split<;>intro h<;>simp [h]
theorem Ae{fr d:Int}(h:¬(0<=fr/\fr<d/\d<=3600000/\1<=ov/\ov<=4294967296)):De fr d ov x y z=false:=by
 cases hb:De fr d ov x y z with
 | false=>rfl
 | true=>
  unfold De Zzw at hb;simp only [aO,cK]at hb;exact absurd O1 h
theorem Zlr(h:1<=c.length->c.length<=6->¬(1<c.length/\c.getD (c.length-1) 0=0)->Zlk c ov=true->False):axB c ov=false:=by
 cases hb:axB c ov with
 | false=>rfl
 | true=>
  unfold axB at hb;simp only [aO,fP,jB,cK,gI]at hb;exact(h hb.1.1.1 hb.1.1.2 (λe=>by rcases hb.1.2 with d|d;exact d e.1;exact d e.2) hb.2).elim
theorem Zzn(e:1<=c.length)(g:c.length<=6)(h:¬(1<c.length/\c.getD (c.length-1) 0=0))(j:Zlk c ov=true):axB c ov=true:=by
 unfold axB;simp only [aO,fP,jB,cK,gI];refine⟨⟨⟨e,g⟩,?_⟩,j⟩;by_cases d:1<c.length
 .exact .inr λl=>h ⟨d,l⟩
 .exact .inl d
theorem Yda{fr g:Int}(d:0<=fr/\fr<g/\g<=3600000/\1<=ov/\ov<=4294967296)(e:∀k,k<3->axB (Zk k x y z) ov=true):De fr g ov x y z=decide (Nt ov (Ma 3 x y z)=1):=by have h:axB x ov=true:=e 0 O4;have j:axB y ov=true:=e 1 O4;have l:axB z ov=true:=e 2 O4;unfold De Zzw;rw [aM d.1,aM d.2.1,aM d.2.2.1,aM d.2.2.2.1,aM d.2.2.2.2,h,j,l];rfl
def Lz(d:∀a∈x,Oz a)(e:∀a∈y,Oz a)(g:∀a∈z,Oz a)(i:Nat):∀a∈Zk i x y z,Oz a:=Gc (p:=λl=>∀a∈l,Oz a) d e g
theorem bl_fc(e:∀a∈x,Oz a)(g:∀a∈y,Oz a)(j:∀a∈z,Oz a)(l:bl ov.natAbs<=64)(i k:Nat):bl (Nt (Nt ov (Ma i x y z)) ((Zk i x y z).take k)).natAbs<=64:=by
 refine Zgb (λa d=>Hy (Lz e g j i a (eJ d))) (Zgb (λa d=>Hy ?_) l);unfold Ma at d;split at d
 .cases d
 .exact e a d
 .rcases cQ.1 d with h|h
  .exact e a h
  .exact g a h
 .rcases cQ.1 d with h|h
  .rcases cQ.1 h with h|h
   .exact e a h
   .exact g a h
  .exact j a h
abbrev RWL:=List (Bool×ByteArray)
def smallR(r:RWL):Bool:=decide (r.length<=8) && r.all λc=>decide (c.2.size<=6)
noncomputable def dec (r:RWL):List Int:=if h:okP r=true then(okP_ex h).choose else []
noncomputable def bdE (r:RWL):Int:=if okP r=true then Zvl (dec r)else 2
noncomputable def bdZ (r:RWL):Int:=if bdE r=0 then sbound (dec r)else 0
def firstE(r:RWL)(x y d e:Int):Int:=if okP r=true then(if r.length=0\/0<x*e-d*y then 3 else 0)else 2
def chke:Nat->Nat->Nat->Nat->Nat->Bool
 | 0,d,_,A,_=>Nat.ble (A+d*64) 65500
 | f+1,d,e,A,B=>Nat.ble (A+d*64) 65500 && (Nat.beq e 0 || (List.range e).all λl=>chke f e l B (bif Nat.ble l 1 then 2 else A+(d-e+1)*B))
inductive SV:List Int->List Int->Prop
 | one (a:Int):SV [a] [a]
 | step (a:Int) (r t:List Int):SV r t->SV (a::r) (a::t)
 | skip (a u w:Int) (r t:List Int):(a=1\/a=-1)->(-1<=u/\u<=1)->(-1<=w/\w<=1)->SV (-a::r) (-a::t)->SV (a::u::-a::r) (a::w::-a::t)
theorem Zng{s:Int×Int}{a u:Int}(e:a=1\/a=-1)(g:-1<=u/\u<=1):Mc (Mc (Mc s a) u) (-a)=Mc (Mc s a) (-a):=by obtain⟨n,l⟩:=s;have d:u=-1\/u=0\/u=1:=O1;rcases e with rfl|rfl<;>rcases d with rfl|rfl|rfl<;>simp [Mc]
theorem SV.fold(h:SV a b):∀s,a.foldl Mc s=b.foldl Mc s:=by
 induction h with
 | one a=>intro s;rfl
 | step a r t _ d=>intro s;exact d (Mc s a)
 | skip a u w r t e g j _ d=>
  intro s;show(r.foldl Mc (Mc (Mc (Mc s a) u) (-a)))=(t.foldl Mc (Mc (Mc (Mc s a) w) (-a)));rw [Zng e g,Zng e j];exact d (Mc s a)
def SV.chg(h:SV a b):chg a=chg b:=aK Prod.fst (h.fold (0,0))
def Fx(x:Rat):Int:=if x<0 then -1 else if x=0 then 0 else 1
theorem Ydg(x:Rat):-1<=Fx x/\Fx x<=1:=by unfold Fx;split;decide;split<;>decide
theorem Bh{x:Rat}(h:0<x):Fx x=1:=by unfold Fx;rw [aE O5,aE O5]
theorem Bi{x:Rat}(h:x<0):Fx x=-1:=by unfold Fx;rw [aH h]
def Big(η x:Rat)(f:Rat->Rat):Prop:=η<f x\/f x < -η
def Tri(η x:Rat):(Rat->Rat)->List (Rat->Rat)->Prop
 | _,[]=>True
 | _,[g]=>Big η x g
 | f,g::k::r=>(Big η x g/\Tri η x g (k::r))\/(Big η x k/\f x*k x<0/\Tri η x k r)
def Near(η x y:Rat)(f:Rat->Rat):Prop:=f x-f y<=η/\f y-f x<=η
theorem Zqe{x y:Rat}(e:0<=η)(h:Big η x f)(d:Near η x y f):Fx (f x)=Fx (f y)/\(Fx (f x)=1\/Fx (f x)=-1):=by
 obtain⟨g,j⟩:=d;rcases h with h|h
 .rw [Bh O5,Bh O5];exact⟨rfl,.inl rfl⟩
 .rw [Bi O5,Bi O5];exact⟨rfl,.inr rfl⟩
theorem opp_sg{a b:Rat}(h:a*b<0):Fx b=- Fx a:=by
 rcases(show a<0\/a=0\/0<a by grind)with e|e|e
 .rw [Bi e,Bh (by
   rcases(show b<=0\/0<b by grind)with d|d
   .have:=aG (a:=-a) (b:=-b) O5 O5;grind
   .exact d)];rfl
 .subst e;grind
 .rw [Bh e,Bi (by
   rcases(show 0<=b\/b<0 by grind)with d|d
   .have:=aG (a:=a) (b:=b) O5 d;grind
   .exact d)]
theorem Znq{η x y:Rat}(h:0<=η):∀(n:Nat) (f:Rat->Rat) (fs:List (Rat->Rat)),fs.length<=n->Big η x f->(∀g∈f::fs,Near η x y g)->Tri η x f fs->
  SV ((f::fs).map λg=>Fx (g x)) ((f::fs).map λg=>Fx (g y))
 | _,f,[],_,q,d,_=>by have:=(Zqe h q (d f (bT ..))).1;simp only [cP,iT,this];exact SV.one _
 | 0,f,g::r,u,_,_,_=>absurd u O7
 | n+1,f,[g],u,q,d,m=>by have p:=(Zqe h q (d f (bT ..))).1;have e:=Znq h n g [] O7 m (λk o=>d k (bF _ o)) aA;rw [cP,cP,p];exact SV.step _ _ _ e
 | n+1,f,g::k::r,u,q,d,m=>by
  have p:=Zqe h q (d f (bT ..));rcases m with⟨B,m⟩|⟨o,G,m⟩
  .have e:=Znq h n g (k::r) (by simp at u ⊢;omega) B (λk o=>d k (bF _ o)) m;rw [cP (l:=g::k::r),cP (l:=g::k::r),p.1];exact SV.step _ _ _ e
  .have e:=Znq h n k r (by simp at u ⊢;omega) o (λj D=>d j (bF _ (bF _ D))) m;have v:=(Zqe h o (d k O7)).1;have w:=opp_sg G;rw [cP (l:=r),cP (l:=r)]at e;simp only [cP];rw [<-v]at e ⊢;rw [w]at e ⊢;rw [<-p.1];exact SV.skip _ _ _ _ _ p.2 (Ydg _) (Ydg _) e
structure Lnk (η x:Rat) (f g k:Rat->Rat):Prop where
 big:¬Big η x g->Big η x k
 opp:¬Big η x g->f x*k x<0
def Lnks(η x:Rat):(Rat->Rat)->List (Rat->Rat)->Prop
 | _,[]=>True
 | _,[g]=>Big η x g
 | f,g::k::r=>Lnk η x f g k/\Lnks η x g (k::r)
theorem Zkm{η x:Rat} : ∀(n:Nat) (f:Rat->Rat) (fs:List (Rat->Rat)),fs.length<=n->Lnks η x f fs->Tri η x f fs
 | _,f,[],_,_=>trivial
 | 0,f,g::r,e,_=>absurd e O7
 | n+1,f,[g],_,h=>h
 | n+1,f,[g,k],e,h=>by
  by_cases d:Big η x g
  .exact .inl ⟨d,h.2⟩
  .exact .inr ⟨h.1.big d,h.1.opp d,aA⟩
 | n+1,f,g::k::j::r,e,h=>by
  by_cases d:Big η x g
  .exact .inl ⟨d,Zkm n g (k::j::r) (by simp at e ⊢;omega) h.2⟩
  .exact .inr ⟨h.1.big d,h.1.opp d,Zkm n k (j::r) (by simp at e ⊢;omega) h.2.2⟩
def Rl3(s t:Rat)(f g k:Rat->Rat):Prop:=∃m n Q:Rat,0<m/\0<n/\0<Q/\∀x,s<=x->x<=t->∃q,-Q<=q/\q<=Q/\m*f x=q*g x-n*k x
def Rl2(s t:Rat)(f g:Rat->Rat):Prop:=∃m Q:Rat,0<m/\0<Q/\∀x,s<=x->x<=t->∃q,-Q<=q/\q<=Q/\m*f x=q*g x
def Rls(s t:Rat):(Rat->Rat)->List (Rat->Rat)->Prop
 | _,[]=>True
 | f,[g]=>Rl2 s t f g
 | f,g::k::r=>Rl3 s t f g k/\Rls s t g (k::r)
theorem Za8{q Q g e:Rat}(h:-Q<=q)(j:q<=Q)(l:-e<=g)(m:g<=e)(n:0<=Q):q*g<=Q*e/\-(Q*e)<=q*g:=by have a:=aG (a:=Q-q) (b:=e+g) O5 O5;have b:=aG (a:=Q+q) (b:=e-g) O5 O5;have c:=aG (a:=Q-q) (b:=e-g) O5 O5;have d:=aG (a:=Q+q) (b:=e+g) O5 O5;constructor<;>grind
theorem Zc0{x:Rat}{g:Rat->Rat}(h:¬Big η x g):-η<=g x/\g x<=η:=by unfold Big at h;constructor<;>grind
theorem Zvw{x:Rat}{g:Rat->Rat}(h:η<=ε)(d:Big ε x g):Big η x g:=by unfold Big at *;grind
theorem He{a b:Rat}(h:0<ε)(j:0<a)(l:0<b):∃e:Rat,0<e/\e<=ε/\e*a<=b:=by
 have g:0<b*a⁻¹:=aT l (gG.2 j);have m:b*a⁻¹*a=b:=O5;rcases(show ε<=b*a⁻¹\/b*a⁻¹<=ε by grind)with d|d
 .exact⟨ε,h,O5,by have:=dI d (show 0<=a by grind);grind⟩
 .exact⟨b*a⁻¹,g,d,O5⟩
theorem pair3{g k:Rat->Rat}(h:Rl3 s t f g k)(D:0<ε)(P:∀x,s<=x->x<=t->Big ε x f\/Big ε x g) :
  ∃e,0<e/\(∀x,s<=x->x<=t->Big e x g\/Big e x k)/\∀η,0<η->η<=e->∀x,s<=x->x<=t->Lnk η x f g k:=by
 obtain⟨m,n,Q,w,N,hQ,R⟩:=h;obtain⟨e,B,e2,e3⟩:=He D (show 0<Q+n by grind) (Rat.mul_pos w D);have l:∀η,0<η->η<=e->∀x,s<=x->x<=t->¬Big η x g->Big η x k/\f x*k x<0:=λη p r x hs j d=>by
  obtain⟨q,S,V,q3⟩:=R x hs j;obtain⟨I,M⟩:=Zc0 d;obtain⟨p1,p2⟩:=Za8 S V I M O5;have v:Big ε x f:=(P x hs j).resolve_right λh=>d (Zvw O5 h);have W:η*(Q+n)<=m*ε:=by have:=dI r (show 0<=Q+n by grind);grind
  have Z:0<η*n:=aT p N;rcases v with v|v
  .have G:m*ε<m*f x:=by have:=aT w (show 0<f x-ε by grind);grind
   have H:n*k x < - (n*η):=O5;have u:k x < -η:=by
    rcases(show k x < -η\/-η<=k x by grind)with o|o
    .exact o
    .have:=aG (a:=n) (b:=k x+η) O5 O5;grind
   refine⟨.inr u,?_⟩;have:=aT (a:=f x) (b:=- k x) O5 O5;grind
  .have G:m*f x < - (m*ε):=by have:=aT w (show 0 < -ε-f x by grind);grind
   have H:n*η<n*k x:=O5;have u:η<k x:=by
    rcases(show η<k x\/k x<=η by grind)with o|o
    .exact o
    .have:=aG (a:=n) (b:=η-k x) O5 O5;grind
   refine⟨.inl u,?_⟩;have:=aT (a:=- f x) (b:=k x) O5 O5;grind
 refine⟨e,B,λx hs j=>?_,λη p r x hs j=>⟨λd=>(l η p r x hs j d).1,λd=>(l η p r x hs j d).2⟩⟩;by_cases d:Big e x g
 .exact .inl d
 .exact .inr (l e B O5 x hs j d).1
theorem pair2{g:Rat->Rat}(h:Rl2 s t f g)(n:0<ε)(B:∀x,s<=x->x<=t->Big ε x f\/Big ε x g) :
  ∃e,0<e/\∀η,0<η->η<=e->∀x,s<=x->x<=t->Big η x g:=by
 obtain⟨m,Q,l,w,D⟩:=h;obtain⟨e,p,M,N⟩:=He n w (aT l n);refine⟨e,p,λη P v x hs o=>?_⟩;by_cases j:Big η x g
 .exact j
 .exfalso;obtain⟨q,G,H,V⟩:=D x hs o;obtain⟨r,u⟩:=Zc0 j;obtain⟨R,S⟩:=Za8 G H r u O5;have d:Big ε x f:=(B x hs o).resolve_right λh=>j (Zvw O5 h);have I:η*Q<=m*ε:=by have:=dI v (show 0<=Q by grind);grind
  rcases d with d|d
  .have:=aT l (show 0<f x-ε by grind);grind
  .have:=aT l (show 0 < -ε-f x by grind);grind
theorem Zr9{s t:Rat} : ∀(n:Nat) (f:Rat->Rat) (fs:List (Rat->Rat)) (ε:Rat),fs.length<=n->Rls s t f fs->0<ε->(∀g r,fs=g::r->∀x,s<=x->x<=t->Big ε x f\/Big ε x g)->
  ∃e,0<e/\∀η,0<η->η<=e->∀x,s<=x->x<=t->Lnks η x f fs
 | _,f,[],ε,_,_,l,_=>⟨ε,l,λ_ _ _ _ _ _=>trivial⟩
 | 0,f,g::r,ε,hl,_,_,_=>absurd hl O7
 | n+1,f,[g],ε,_,h,l,v=>pair2 h l (v g [] rfl)
 | n+1,f,g::k::r,ε,hl,h,l,v=>by
  obtain⟨e,w,D,B⟩:=pair3 h.1 l (v g (k::r) rfl);obtain⟨p,q,j⟩:=Zr9 n g (k::r) e (by simp at hl ⊢;omega) h.2 w (λH I u=>by injection u with d o;subst d;exact D)
  rcases(show e<=p\/p<=e by grind)with G|G
  .exact⟨e,w,λη d o x hs m=>⟨B η d o x hs m,j η d O5 x hs m⟩⟩
  .exact⟨p,q,λη d o x hs m=>⟨B η d O5 x hs m,j η d o x hs m⟩⟩
def Lip(s t L:Rat)(f:Rat->Rat):Prop:=∀x y,s<=x->x<=y->y<=t->f x-f y<=L*(y-x)/\f y-f x<=L*(y-x)
def vat(fs:List (Rat->Rat))(x:Rat):Int:=chg (fs.map λg=>Fx (g x))
theorem Yi9{L:Rat}(u:0<L)(B:∀g∈f::fs,Lip s t L g)(n:0<δ)(m:∀x,s<=x->x<=t->Big δ x f)(D:Rls s t f fs) :
  ∃h,0<h/\∀x y,s<=x->x<=y->y<=t->y-x<=h->vat (f::fs) x=vat (f::fs) y:=by
 obtain⟨e,o,p⟩:=Zr9 fs.length f fs δ (aI _) D n (λg r _ x hs G=> .inl (m x hs G));obtain⟨η,l,N,P⟩:=He n (show(0:Rat)<1 by decide) o;obtain⟨h,q,I,M⟩:=He l u l;refine⟨h,q,λx y d j H w=>SV.chg ?_⟩;refine Znq O5 fs.length f fs (aI _) (Zvw O5 (m x d O5)) (λg v=>?_) (Zkm _ _ _ (aI _) (p η l O5 x d O5));obtain⟨a,b⟩:=B g v x y d j H;have:=dI w (show 0<=L by grind);exact⟨O5,O5⟩
theorem Zzu{L:Rat}(B:0<L)(H:∀g∈f::fs,Lip s t L g)(G:0<δ)(D:∀x,s<=x->x<=t->Big δ x f)(M:Rls s t f fs)(o:s<=t) :
  vat (f::fs) s=vat (f::fs) t:=by
 obtain⟨h,v,q⟩:=Yi9 B H G D M;have p:∀n:Nat,∀y,s<=y->y<=t->y-s<=(n:Rat)*h->vat (f::fs) s=vat (f::fs) y:=λn=>by
  induction n with
  | zero=>
    intro y d e j;have:y=s:=by simp at j;grind
    rw [this]
  | succ n u=>
   intro y d e j;have r:((n+1:Nat):Rat)*h=(n:Rat)*h+h:=by push_cast;grind
   rcases(show y-s<=(n:Rat)*h\/(n:Rat)*h<y-s by grind)with l|l
   .exact u y d e l
   .have w:(0:Rat)<=(n:Rat)*h:=aG (by exact_mod_cast bG n) O5;rcases(show s<=y-h\/y-h<s by grind)with m|m
    .rw [u (y-h) m O5 O5];exact q (y-h) y m O5 e O5
    .exact q s y O5 d e O5
 have d:∃n:Nat,t-s<=(n:Rat)*h:=by
  have e:0<h⁻¹:=gG.2 v;refine⟨((t-s)*h⁻¹).ceil.toNat,?_⟩;have j:=@oN ((t-s)*h⁻¹);have r:((((t-s)*h⁻¹).ceil:Int):Rat)<=((((t-s)*h⁻¹).ceil.toNat:Nat):Rat):=by have:((t-s)*h⁻¹).ceil<=((((t-s)*h⁻¹).ceil.toNat:Nat):Int):=mA _;exact_mod_cast this
  have l:=dI (mN j r) (show 0<=h by grind);have w:(t-s)*h⁻¹*h=t-s:=O5;grind
 obtain⟨n,I⟩:=d;exact p n t o O5 I
def Zb:List Int->Rat->Rat
 | [],_=>0
 | c::p,x=>(c:Rat)+x*Zb p x
theorem Yle(s t:Rat):∃K:Rat,0<K/\∀x,s<=x->x<=t->-K<=x/\x<=K:=by
 rcases(show(0<=s\/s<0) by grind)with h|h<;>rcases(show(0<=t\/t<0) by grind)with d|d
 .exact⟨t+1,O5,λx _ _=>O5⟩
 .exact⟨1,O5,λx _ _=>O5⟩
 .exact⟨t-s+1,O5,λx _ _=>O5⟩
 .exact⟨-s+1,O5,λx _ _=>O5⟩
theorem Zrl(s t:Rat):∀p:List Int,∃B:Rat,0<B/\∀x,s<=x->x<=t->-B<=Zb p x/\Zb p x<=B
 | []=>⟨1,O4,λx _ _=>by unfold Zb;grind⟩
 | c::p=>by obtain⟨B,e,g⟩:=Zrl s t p;obtain⟨K,o,q⟩:=Yle s t;obtain⟨C,r,h⟩:=Yle (c:Rat) (c:Rat);have u:=h (c:Rat) O5 O5;refine⟨C+K*B,by have:=aT o e;grind,λx hs d=>?_⟩;obtain⟨j,l⟩:=g x hs d;obtain⟨m,n⟩:=q x hs d;obtain⟨f1,f2⟩:=Za8 m n j l O5;unfold Zb;constructor<;>grind
theorem Dy(s t:Rat):∀p:List Int,∃L:Rat,0<L/\Lip s t L (Zb p)
 | []=>⟨1,O4,λx y _ _ _=>by unfold Zb;constructor<;>grind⟩
 | c::p=>by obtain⟨L,r,u⟩:=Dy s t p;obtain⟨B,D,j⟩:=Zrl s t p;obtain⟨K,n,o⟩:=Yle s t;refine⟨K*L+B,by have:=aT n r;grind,λx y hs d h=>?_⟩;obtain⟨v,w⟩:=u x y hs d h;obtain⟨G,H⟩:=j y O5 h;obtain⟨l,m⟩:=o x hs O5;obtain⟨f1,f2⟩:=Za8 (q:=x) (g:=Zb p x-Zb p y) (e:=L*(y-x)) l m O5 O5 O5;have I:=aG (a:=B-Zb p y) (b:=y-x) O5 O5;have M:=aG (a:=B+Zb p y) (b:=y-x) O5 O5;unfold Zb;constructor<;>grind
theorem Zjv(x:Rat):∀q:List Int,(∀i,cf q i=0)->Zb q x=0
 | [],_=>rfl
 | c::q,h=>by have d:c=0:=h 0;have e:=Zjv x q λi=>h (i+1);unfold Zb;rw [e,d];grind
theorem Oa(x:Rat):∀p q:List Int,(∀i,cf p i=cf q i)->Zb p x=Zb q x
 | [],q,h=>by rw [Zjv x q λi=>(h i).symm.trans (Yk (bG _))];rfl
 | c::p,[],h=>by rw [Zjv x (c::p) λi=>(h i).trans (Yk (bG _))];rfl
 | c::p,d::q,h=>by have e:c=d:=h 0;have g:=Oa x p q λi=>h (i+1);unfold Zb;rw [g,e]
def Nr:List Int->List Int->List Int
 | [],q=>q
 | p,[]=>p
 | a::p,b::q=>(a+b)::Nr p q
theorem Zsk(p:List Int):Nr p []=p:=by cases p<;>rfl
theorem Yx(x:Rat):∀p q:List Int,Zb (Nr p q) x=Zb p x+Zb q x
 | [],q=>by unfold Nr;show Zb q x=0+Zb q x;grind
 | a::p,[]=>by rw [Zsk];show Zb (a::p) x=Zb (a::p) x+0;grind
 | a::p,b::q=>by have h:=Yx x p q;unfold Nr Zb;rw [h];push_cast;grind
theorem Nu:∀(p q:List Int) (i:Nat),cf (Nr p q) i=cf p i+cf q i
 | [],q,i=>by unfold Nr;rw [show cf [] i=0 from Yk (bG _)];omega
 | a::p,[],i=>by rw [Zsk,show cf [] i=0 from Yk (bG _)];omega
 | a::p,b::q,0=>rfl
 | a::p,b::q,i+1=>Nu p q i
theorem Zh(x:Rat)(c:Int):∀p:List Int,Zb (p.map λa=>c*a) x=(c:Rat)*Zb p x
 | []=>by show(0:Rat)=c*0;grind
 | a::p=>by have h:=Zh x c p;simp only [cP];unfold Zb;rw [h];push_cast;grind
theorem Xs(c:Int):∀(p:List Int) (i:Nat),cf (p.map λa=>c*a) i=c*cf p i
 | [],i=>by simp [cf]
 | a::p,0=>rfl
 | a::p,i+1=>Xs c p i
def lmul:List Int->List Int->List Int
 | [],_=>[]
 | c::p,q=>Nr (q.map λa=>c*a) (0::lmul p q)
theorem Zs(x:Rat):∀p q:List Int,Zb (lmul p q) x=Zb p x*Zb q x
 | [],q=>by show(0:Rat)=0*Zb q x;grind
 | c::p,q=>by have h:=Zs x p q;unfold lmul;rw [Yx,Zh];show(c:Rat)*Zb q x+(((0:Int):Rat)+x*Zb (lmul p q) x)=((c:Rat)+x*Zb p x)*Zb q x;rw [h];grind
theorem Fs:∀(p q:List Int) (i:Nat),cf (lmul p q) i=Yd (λk=>cf p k*cf q (i-k)) (i+1)
 | [],q,i=>by rw [show cf (lmul [] q) i=0 from Yk (bG _)];exact(Fe λk _=>by rw [show cf [] k=0 from Yk (bG _),dB]).symm
 | c::p,q,0=>by unfold lmul;rw [Nu,Xs,Yf,Mz];show c*cf q 0+0=0+c*cf q 0;omega
 | c::p,q,i+1=>by have h:=Fs p q i;unfold lmul;rw [Nu,Xs,Mt];show c*cf q (i+1)+cf (lmul p q) i=c*cf q (i+1)+_;rw [h];congr 1;refine Yp λk d=>?_;show cf p k*cf q (i-k)=cf p k*cf q (i+1-(k+1));rw [show i+1-(k+1)=i-k by omega]
theorem Ew{a c:Int}{s:List Int}(h:∀t,a*cf x t=(ps s*ps y).c t-c*cf z t)(q:Rat):(a:Rat)*Zb x q=Zb s q*Zb y q-(c:Rat)*Zb z q:=by
 have d:∀t,cf (Nr (x.map λb=>a*b) (z.map λb=>c*b)) t=cf (lmul s y) t:=λt=>by rw [Nu,Xs,Xs,Fs,h t,PS.mul_c];show Yd (λk=>cf s k*cf y (t-k)) (t+1)-c*cf z t+c*cf z t=_;omega
 have e:=Oa q _ _ d;rw [Yx,Zh,Zh,Zs]at e;grind
theorem Yac(D:Tr x)(p:Tr y)(h:y≠[])(N:y.length<=x.length):Rl3 s t (Zb x) (Zb y) (Zb (Nb x y)):=by
 have R:=aC.2 h;obtain⟨r1,r2,k,u,M⟩:=Ze7 p h x.length x D O1;have hs:=Zgo (f:=x.length) D p h N O1;have o:Tr (Zea (Aq x.length x y)):=Xx _ _;obtain⟨m,n,P,Q,w⟩:=Zd8 o;rw [hs]at w;have I:0<Zat y^k:=kD (Zfd p h);obtain⟨B,G,r⟩:=Zrl s t u;have l:(0:Rat)<(m:Rat):=by exact_mod_cast P
 have d:(0:Rat)<(n:Rat):=by exact_mod_cast Q
 have j:(0:Rat)<((Zat y^k:Int):Rat):=by exact_mod_cast I
 refine⟨(n:Rat)*((Zat y^k:Int):Rat),(m:Rat),(n:Rat)*B,aT d j,l,aT d G,λq e g=>⟨(n:Rat)*Zb u q,?_,?_,?_⟩⟩
 .have:=aG (a:=(n:Rat)) (b:=Zb u q+B) O5 (by have:=r q e g;grind);grind
 .have:=aG (a:=(n:Rat)) (b:=B-Zb u q) O5 (by have:=r q e g;grind);grind
 .have H:=Ew (a:=Zat y^k) (c:=-1) (x:=x) (s:=u) (y:=y) (z:=Aq x.length x y) (λt=>by rw [M t];omega) q;have v:Zb ((Nb x y).map λb=>m*b) q=Zb ((Aq x.length x y).map λb=>(-n)*b) q:=Oa q _ _ λi=>by rw [Xs,Xs,w i,Ez,kT,nL]
  rw [Zh,Zh]at v;push_cast at H v ⊢;grind
theorem rl2_of{g:Rat->Rat}(h:Rl3 s t f g (Zb [])):Rl2 s t f g:=by obtain⟨m,n,Q,l,v,j,o⟩:=h;refine⟨m,Q,l,j,λx d e=>?_⟩;obtain⟨q,p,r,u⟩:=o x d e;refine⟨q,p,r,?_⟩;have:Zb [] x=0:=rfl;rw [this]at u;grind
theorem Zmt : ∀(f:Nat) (a b:List Int),Tr a->Tr b->cok f a b->∃r,Mi f a b=a::r/\Rls s t (Zb a) (r.map Zb)/\(b=[]->r=[])/\(b≠[]->∃r',r=b::r'):=λf=>by
 induction f with
 | zero=>
  intro a b j l h;have d:b=[]:=h;subst d;exact⟨[],rfl,aA,λ_=>rfl,λh=>absurd rfl h⟩
 | succ f w=>
  intro a b j l h;by_cases d:b=[]
  .subst d;exact⟨[],Ct _ _,aA,λ_=>rfl,λh=>absurd rfl h⟩
  .obtain⟨g,D,B,m,v,hs⟩:=Zle h d;obtain rfl:f=g:=O1;obtain⟨r,o,p,q,u⟩:=w b (Nb a b) l (Zbh j) v;have e:=Yac (s:=s) (t:=t) j l d m;refine⟨b::r,by rw [hs,o],?_,λh=>absurd h d,λ_=>⟨r,rfl⟩⟩;by_cases n:Nb a b=[]
   .rw [q n];rw [n]at e;exact rl2_of e
   .obtain⟨r',rfl⟩:=u n;exact⟨e,p⟩
theorem Zsa{L M:Rat}(h:L<=M)(j:Lip s t L f):Lip s t M f:=λx y d e g=>by obtain⟨a,b⟩:=j x y d e g;have:=dI h (show 0<=y-x by grind);constructor<;>grind
theorem Zxl(s t:Rat):∀ls:List (List Int),∃L:Rat,0<L/\∀g∈ls.map Zb,Lip s t L g
 | []=>⟨1,O4,λg d=>by cases d⟩
 | p::ls=>by
  obtain⟨L,j,e⟩:=Zxl s t ls;obtain⟨M,l,h⟩:=Dy s t p;refine⟨L+M,O5,λg d=>?_⟩;rw [cP]at d;rcases bJ.1 d with rfl|d
  .exact Zsa O5 h
  .exact Zsa O5 (e g d)
theorem Ze6{f:Nat}(l:Tr a)(m:Tr b)(n:cok f a b)(d:s<=t)(o:0<δ)(j:∀x,s<=x->x<=t->Big δ x (Zb a)) :
  vat ((Mi f a b).map Zb) s=vat ((Mi f a b).map Zb) t:=by
 obtain⟨r,g,h,_,_⟩:=Zmt (s:=s) (t:=t) f a b l m n;obtain⟨L,p,e⟩:=Zxl s t (Mi f a b);rw [g]at e ⊢;exact Zzu p e o j h d
theorem Zri(x:Rat)(l:Int):∀p:List Int,Zb (p ++ [l]) x=Zb p x+(l:Rat)*x^p.length
 | []=>by show(l:Rat)+x*0=0+l*x^0;rw [eG];grind
 | c::p=>by have h:=Zri x l p;rw [iL,dG,dL];unfold Zb;rw [h];grind
def alt:List Int->List Int
 | []=>[]
 | c::p=>c::(alt p).map λa=>-1*a
theorem Yeb(c:Int)(p:List Int)(X Y:Int)(h:p≠[]):pev (c::p) X Y=c*Y^p.length+X*pev p X Y:=by
 have d:=aC.2 h;unfold pev;rw [dG,Mt,<-Me];congr 1
 .show c*(X^0*Y^(p.length+1-1-0))=_;rw [cT,fF,show p.length+1-1-0=p.length by omega]
 .refine Yp λi hi=>?_;show cf p i*(X^(i+1)*Y^(p.length+1-1-(i+1)))=X*(cf p i*(X^i*Y^(p.length-1-i)));rw [show p.length+1-1-(i+1)=p.length-1-i by omega,dK];grind
theorem Zxb{X Y:Int}(e:0<Y):∀p:List Int,((pev p X Y:Int):Rat)=Zb p ((X:Rat)/(Y:Rat))*(Y:Rat)^(p.length-1)
 | []=>by show(0:Rat)=0*_;grind
 | [c]=>by
  have:pev [c] X Y=c:=by unfold pev;show 0+c*(X^0*Y^0)=c;rw [cT,cT];omega
  rw [this];show(c:Rat)=(c+X/Y*0)*(Y:Rat)^0;rw [eG];grind
 | c::d::p=>by
  have h:=Zxb (X:=X) e (d::p);rw [Yeb c (d::p) X Y O7];have g:(Y:Rat)≠0:=by
    have:(0:Rat)<(Y:Rat):=by exact_mod_cast e
    grind
  push_cast;rw [h];show(c:Rat)*(Y:Rat)^(p.length+1)+X*(Zb (d::p) (X/Y)*(Y:Rat)^(p.length+1-1))=((c:Rat)+X/Y*Zb (d::p) (X/Y))*(Y:Rat)^(p.length+1+1-1);rw [show p.length+1-1=p.length by omega,show p.length+1+1-1=p.length+1 by omega,dL];generalize Zb (d::p) (X/Y)=R;generalize (Y:Rat)^p.length=P;have:(X:Rat)/Y*Y=X:=O5;grind
theorem Ycw{z:Int}{r q:Rat}(j:0<q)(h:(z:Rat)=r*q):z.sign=Fx r:=by
 rcases(show r<0\/r=0\/0<r by grind)with d|d|d
 .rw [Bi d];have:=aT (a:=-r) (b:=q) O5 j;have e:(z:Rat)<0:=O5;have g:z<0:=by exact_mod_cast e
  exact eQ g
 .subst d;have e:(z:Rat)=0:=O5;have g:z=0:=by exact_mod_cast e
  subst g;rfl
 .rw [Bh d];have:=aT d j;have e:(0:Rat)<z:=O5;have g:0<z:=by exact_mod_cast e
  exact fQ g
theorem Zpg{X:Int}(d:0<Y)(p:List Int):fat X Y p=Fx (Zb p ((X:Rat)/(Y:Rat))):=by
 have:(0:Rat)<(Y:Rat):=by exact_mod_cast d
 exact Ycw (Rat.pow_pos this) (Zxb d p)
theorem Yjz(m:Tr xs)(j:xs≠[])(h:eok F (gA (Yw xs) (Yu (Yw xs))) (gB (Yw xs) (Yu (Yw xs)))):∃g:List Int,∀x,Zb xs x=Zb (sqf F xs) x*Zb g x:=by
 obtain⟨f1,f2,f3,f4,f5,f6⟩:=Pz (F:=F) m j h;have e:∃k:Int,∀i,cf xs i=k*cf (Yw xs) i:=by
  unfold Yw Hb;split
  .refine⟨-Ys xs,λi=>?_⟩;rw [Xg,<-Hk xs i];grind
  .refine⟨Ys xs,λi=>?_⟩;rw [<-Hk xs i];grind
 obtain⟨k,e⟩:=e;refine⟨(Ny F (Yw xs) (Yu (Yw xs))).map λa=>k*a,λx=>?_⟩;have l:Zb (Yw xs) x=Zb (sqf F xs) x*Zb (Ny F (Yw xs) (Yu (Yw xs))) x:=by
  have:=Ew (a:=1) (c:=0) (x:=Yw xs) (s:=sqf F xs) (y:=Ny F (Yw xs) (Yu (Yw xs))) (z:=[]) (λt=>by have d:=Iq (sqf F xs) (Ny F (Yw xs) (Yu (Yw xs))) t;rw [<-f4]at d;rw [d];omega) x
  push_cast at this;grind
 have d:Zb xs x=Zb ((Yw xs).map λa=>k*a) x:=Oa x _ _ λi=>by rw [Xs];exact e i
 rw [d,Zh,Zh,l];grind
theorem Yiu{x:Rat}{f:List Int->Int}(h:∀p∈ls,Fx (Zb p x)=f p):vat (ls.map Zb) x=chg (ls.map f):=by unfold vat;rw [lG];exact aK chg (lB λp d=>h p d)
def Yl0{X:Int}(d:0<Y):cnt F xs X Y=vat ((chn F xs).map Zb) ((X:Rat)/(Y:Rat)):=
 (Yiu λp _=>(Zpg d p).symm).symm
end Go.Sky

