/- Rules, arithmetic and contracts: part 5. No conditions but those that each theorem names. -/
import Derived.Test.YteikicbnfbgpnaaGreatEn03
import Derived.Scope
set_option linter.all false
namespace Go.Sky
variable{a b p x y xs:List Int}{F i:Nat}{s:Int}{ls:List (SL×List Int)}{f:FuncId}{ats:Array TypeId}{vs:List Value}{pre:List Pc}{w0:World}{M0:Nat->Prop}{fn:Func}
def Psim(a b:List Int):Prop:=∃m n:Int,0<m/\0<n/\∀i,m*cf a i=n*cf b i
def Psim.refl(a:List Int):Psim a a:=⟨1,1,O3,O3,λ_=>rfl⟩
def Psim.symm : Psim a b->Psim b a:=λ⟨m,n,c,d,h⟩=>⟨n,m,d,c,λi=>(h i).symm⟩
theorem Psim.trans{c:List Int} : Psim a b->Psim b c->Psim a c:=λ⟨m,n,d,e,h⟩ ⟨u,v,g,j,k⟩=>
 ⟨m*u,n*v,iI d g,iI e j,λi=>by have l:=h i;have o:=k i;grind⟩
def Psim.sim : Psim a b->Sim a b:=λ⟨m,n,c,d,h⟩=>⟨m,n,O,O,h⟩
theorem Zfj(h:Tr p):Psim (Zw p) p:=by
 by_cases c:p=[]
 .subst c;exact Psim.refl _
 .exact⟨Ys p,1,by have:=Nr p;have:=Cw h c;omega,O3,λi=>by rw [eX,cQ];exact Gp p i⟩
theorem Zma(g:Tr a)(j:Tr b)(h:Psim a b):Zw a=Zw b:=by
 by_cases c:a=[]
 .rw [h.sim.nil j c,c]
 .have k:b≠[]:=λe=>c (h.sim.symm.nil g e);obtain⟨m,n,B,D,e⟩:=(Zfj g).trans (h.trans (Zfj j).symm);have r:=Yv g;have w:=Yv j;have hs:Sim (Zw a) (Zw b):=⟨m,n,O,O,e⟩;have d:Zw a≠[]:=λe=>c (aC (by rw [<-Zy,e];rfl));rcases Zln r w d (Ks g c) (Ks j k) hs with l|l
  .exact l
  .exfalso;have q:=r.mem d;have o:=e ((Zw a).length-1);have t:=l ((Zw a).length-1);rw [t]at o q;generalize cf (Zw b) ((Zw a).length-1)=z at o q;rw [kG]at o;have u:(m+n)*z=0:=by rw [mB];omega
   rcases eR.1 u with v|v<;>omega
def Fp(y:List Int):Int:=if cf y (y.length-1)<0 then-cf y (y.length-1)else cf y (y.length-1)
def rb(x y:List Int):Int:=if cf y (y.length-1)<0 then-cf x (x.length-1)else cf x (x.length-1)
def Gy(x y:List Int):List Int:=Eh (Zq x (Fp y)) (shm y (rb x y) (x.length-y.length) y.length)
def Gu:Nat->List Int->List Int->List Int
 | 0,x,_=>x
 | f+1,x,y=>if x.length<y.length then x else Gu f (Gy x y) y
theorem Zg3(e:Tr x)(g:0<y.length)(d:y.length<=x.length):(Gy x y).length<x.length:=by
 have h:=Zbz (p:=Gy x y) (n:=x.length-1) λi hi=>by
  unfold Gy;rw [Il,Yl,Zsy];by_cases c:i=x.length-1
  .subst c;rw [aG O,show x.length-1-(x.length-y.length)=y.length-1 by omega];unfold Fp rb;split
   .grind
   .grind
  .rw [Yf (p:=x) O,aD O];omega
 rw [show tzl (Gy x y)=Gy x y from Ah Zac]at h;omega
theorem Yif(x:List Int)(t:Nat):Fp y*cf x t=(ps (mono (x.length-y.length) (rb x y))*ps y).c t+cf (Gy x y) t:=by
 unfold Gy;rw [Zml,Il,Yl,Zsy,Ol];by_cases c:x.length-y.length<=t
 .rw [aG c];by_cases d:t<x.length-y.length+y.length
  .rw [aG ⟨c,d⟩,cQ (cf x t)];omega
  .rw [aD O,Yf (p:=y) O,cQ (cf x t)];omega
 .rw [aD c,aD O,cQ (cf x t)];omega
theorem Zgk(d:Tr y)(c:y≠[]):0<Fp y:=by have:=d.mem c;unfold Fp;split<;>omega
theorem Zb5{y:List Int}(m:Tr y)(d:y≠[]):∀(f:Nat) (x:List Int),Tr x->x.length<y.length+f->Tr (Gu f x y)/\(Gu f x y).length<y.length/\∃(k:Nat) (s:List Int),∀t,Fp y^k*cf x t=(ps s*ps y).c t+cf (Gu f x y) t
 | 0,x,c,e=>⟨c,e,0,[],λt=>by rw [Ke (λt=>Yf (bD _)),cL];unfold Gu;omega⟩
 | f+1,x,c,e=>by
  unfold Gu;by_cases h:x.length<y.length
  .rw [aG h];exact⟨c,h,0,[],λt=>by rw [Ke (λt=>Yf (bD _)),cL];omega⟩
  .rw [aD h];have n:=Zg3 c (aF.2 d) O;obtain⟨g,j,k,s,hs⟩:=Zb5 m d f (Gy x y) Zac O;refine⟨g,j,k+1,Eh (Zq s 1) (Zq (mono (x.length-y.length) (rb x y)) (-(Fp y^k))),λt=>?_⟩;have o:=hs t;have l:=Yif x (y:=y) t;rw [Zgx,dD];generalize Fp y^k=K at *;generalize Fp y=a at *;generalize (ps (mono (x.length-y.length) (rb x y))*ps y).c t=M at *;generalize (ps s*ps y).c t=S at *;generalize cf (Gy x y) t=X at *;generalize cf (Gu f (Gy x y) y) t=Z at *;have:K*a*cf x t=K*(a*cf x t):=O4;rw [this,l];grind
theorem Zu5(l:Int)(h:l≠0):∀n:Nat,(l<0/\n%2=1->l^n<0)/\(¬(l<0/\n%2=1)->0<l^n)
 | 0=>⟨λh=>O,λ_=>by rw [cL];decide⟩
 | n+1=>by
  have e:=Zu5 l h n;rw [dD];by_cases d:l<0
  .by_cases g:n%2=1
   .have c:=e.1 ⟨d,g⟩;exact⟨λh=>O,λ_=>Int.mul_pos_of_neg_of_neg c d⟩
   .have c:=e.2 O;exact⟨λ_=>Int.mul_neg_of_pos_of_neg c d,λh=>O⟩
  .have c:=e.2 O;exact⟨λh=>O,λ_=>iI c O⟩
def Zfk(p:List Int):List Int:=Zq p (-1)
theorem Cl(p:List Int)(i:Nat):cf (Zfk p) i=- cf p i:=by unfold Zfk;rw [Yl];omega
theorem Zya(h:Tr p):Zw (Zfk p)=Zfk (Zw p):=by
 have e:Ys (Zfk p)=Ys p:=by
  have c:Ys (Zfk p)∣Ys p:=Ea λi=>by have h:=Ly (Zfk p) i;rw [Cl]at h;exact mC.1 h
  have d:Ys p∣Ys (Zfk p):=Ea λi=>by rw [Cl];exact mC.2 (Ly p i)
  exact Int.dvd_antisymm (Nr _) (Nr _) c d
 refine(Yv Qk).ext Qk λi=>?_;show cf (Zw (Zfk p)) i=cf (Zfk (Zw p)) i;rw [Cl,Zbq,Cl,e,Zbq];exact Int.neg_ediv_of_dvd (Ly p i)
theorem Zd4 (f:Nat)(u:Tr x)(n:Tr y)(g:y≠[])(D:y.length<=x.length)(B:x.length<y.length+f):Zw (Zfk (Gu f x y))=Ma x y:=by
 obtain⟨Q,P,k,s,hs⟩:=Zb5 n g f x u B;have H:=aF.2 g;obtain⟨I,h⟩:=Zib (p:=x) H D _ (aI _);have G:∀t,cf (Qn x y (x.length-y.length+1)) t=cf (Qc x y) t:=λt=>by unfold Qc;rw [aD O,Lc]
 have lp:=Pe x g;have j:=Kq y u;have c:=n.mem g;have o:0<Fp y^k:=kV (Zgk n g);have d:=Zu5 (cf y (y.length-1)) c (x.length-y.length+1);generalize v:cf y (y.length-1)^(x.length-y.length+1)=L at h d;have w:L≠0:=by rw [<-v];exact Nu c _
 generalize Fp y^k=K at hs o;have l:∀t,(ps (Eh (Zq I K) (Zq s L))*ps y).c t=cf (Eh (Zq (Gu f x y) L) (Zq (Qc x y) K)) t:=λt=>by rw [Zgx,Il,Yl,Yl,<-G t];have q:=hs t;have M:=h t;generalize cf (Qn x y (x.length-y.length+1)) t=A at *;grind
 have z:=Ybt n g l λt N=>by rw [Il,Yl,Yl,Yf (p:=Gu f x y) O,Yf (p:=Qc x y) O];omega
 have e:∀t,L*cf (Gu f x y) t=K*cf (Qc x y) t:=λt=>by have q:=l t;rw [Ke z,Il,Yl,Yl]at q;grind
 unfold Ma;by_cases m:cf y (y.length-1)<0/\(x.length-y.length+1)%2=1
 .rw [aG m];have r:=d.1 m;exact Zma Qk j ⟨-L,K,O,o,λt=>by rw [Cl,<-e];grind⟩
 .rw [aD m];have r:=d.2 m;rw [show Zq (Zw (Qc x y)) (-1)=Zfk (Zw (Qc x y))from rfl,<-Zya j];exact Zma Qk Qk ⟨L,K,r,o,λt=>by rw [Cl,Cl,kG,e,kG]⟩
theorem Zcv(c:Tr x):Tr (Ma x y):=by
 unfold Ma;split
 .exact Yv (Kq _ c)
 .exact Qk
theorem Bn (y:List Int)(c:Tr x):(Ma x y).length=(Qc x y).length:=by
 unfold Ma;have h:Tr (Zw (Qc x y)):=Yv (Kq _ c);split
 .exact Zy _
 .rw [<-Zy (Qc x y)];exact((Zfe (Zw (Qc x y)) (by decide:(-1:Int)≠0)).len h Qk).symm
theorem Zp8{n:Nat}(h:Sz n p):Sz n (Xa p):=λi=>by
 unfold Xa;rw [Dj];split
 .rw [eC];exact Hz h i
 .exact Hz h i
theorem Zik(h:Tr p)(c:p≠[]):Xa p≠[]:=λe=>c (aC (by rw [<-Pr h,e];rfl))
theorem Au{g:List Int}(h:Tr g)(c:g≠[]):0<cf (Lv g) ((Lv g).length-1):=by have d:=h.mem c;rw [Zcd h,Dj];have:g.length≠0:=λe=>c (aC e);split<;>omega
theorem Zbf(h:Tr p)(c:p≠[]):Ys (Xa p)=1:=by unfold Xa;rw [Zjh];exact Ks h c
theorem Zyf(h:Tr p)(c:Ys p=1)(d:0<cf p (p.length-1)):Xa p=p:=by unfold Xa;rw [Zgm c];unfold Lv;rw [aD O]
theorem Ou (F:Nat)(w:Tr xs)(z:xs≠[])(G:eok F (gA (Xa xs) (Yy (Xa xs))) (gB (Xa xs) (Yy (Xa xs)))) :
  pdv (Xa xs) (Nc F (Xa xs) (Yy (Xa xs)))/\Tr (sqf F xs)/\sqf F xs≠[]/\Xa xs=Qs (sqf F xs) (Nc F (Xa xs) (Yy (Xa xs)))/\Nc F (Xa xs) (Yy (Xa xs))≠[]/\Xa (sqf F xs)=sqf F xs:=by
 have hs:Tr (Xa xs):=Na (Yv w);have l:Tr (Yy (Xa xs)):=Nm hs;have o:=Zik w z;have n:=(Zed hs l G).1;have r:=Zd1 F hs l;have d:Nc F (Xa xs) (Yy (Xa xs))≠[]:=λe=>o ((e▸n).zero hs);have N:=Zme hs l d;obtain⟨k,s,P,h⟩:=n;obtain⟨q,Q⟩:=gauss N _ k s rfl P h;have c:Xa xs=Qs (tzl q) (Nc F (Xa xs) (Yy (Xa xs))):=hs.ext Qm λi=>by rw [Hs,Q,Zq0]
 obtain⟨M,S⟩:=Zq8 (Qi q) r d;have j:sqf F xs=tzl q:=by unfold sqf;have t:=S;rw [<-c]at t;exact t
 rw [<-c]at M;have g:tzl q≠[]:=λe=>o (by rw [c,e,Fr]);refine⟨M,by rw [j];exact Qi q,by rw [j];exact g,by rw [j];exact c,d,?_⟩;rw [j];refine Zyf (Qi q) ?_ ?_
 .have B:=Zbf w z;have u:Ys (tzl q)∣Ys (Xa xs):=Ea λi=>by
   rw [c,Hs,PS.mul_c];have H:∀m,Ys (tzl q)∣Ye (λk=>(ps (tzl q)).c k*(ps (Nc F (Xa xs) (Yy (Xa xs)))).c (i-k)) m:=λm=>by
    induction m with
    | zero=>exact jT _
    | succ m R=>rw [Yk];exact Int.dvd_add R (iK (Ly (tzl q) m) (jL _ _))
   exact H _
  rw [B]at u;have D:=Nr (tzl q);have I:=mJ O3 u;have v:Ys (tzl q)≠0:=Cw (Qi q) g;omega
 .have V:=aF.2 g;have W:=aF.2 d;have B:0<cf (Xa xs) ((Xa xs).length-1):=Au (Yv w) (λe=>z (aC (by rw [<-Zy,e];rfl)));have u:0<cf (Nc F (Xa xs) (Yy (Xa xs))) ((Nc F (Xa xs) (Yy (Xa xs))).length-1):=Au (Zm8 F (Zi5 hs l) (Zi4 hs l)) (λe=>d (by unfold Nc;rw [e];rfl));have D:=Ov (Qi q) r g d;rw [<-c]at D;have I:cf (Xa xs) ((Xa xs).length-1)=cf (tzl q) ((tzl q).length-1)*cf (Nc F (Xa xs) (Yy (Xa xs))) ((Nc F (Xa xs) (Yy (Xa xs))).length-1):=by rw [D,c,Hs,<-c,show(tzl q).length+(Nc F (Xa xs) (Yy (Xa xs))).length-1-1=((tzl q).length-1)+((Nc F (Xa xs) (Yy (Xa xs))).length-1) by omega];exact Av _ (λi hi=>Yf O) (λi hi=>Yf O)
  rw [I]at B;rcases iH 0 (cf (tzl q) ((tzl q).length-1))with v|v
  .exact v
  .exfalso;have:=gU v (eG u);omega
def Oc(p:List Int):(Yy p).length=p.length-1:=Yu _ _
theorem Zy5{n:Nat}(c:Sz n p)(j:p.length<=25)(i:Nat):bl (cf p (i+1)*((i:Int)+1)).natAbs<=n+5:=by
 rcases aZ (i+1) p.length with h|h
 .have d:=Yq (cf p (i+1)) ((i:Int)+1);have e:=c (i+1);have g:bl ((i:Int)+1).natAbs<=5:=(Qo 5 _).2 O;omega
 .rw [Yf h];simp [Lt]
theorem Zho(p:List Int)(i:Nat):cf (Yy p) i=cf p (i+1)*((i:Int)+1):=by
 unfold Yy;rw [Nw];split
 .rfl
 .rw [Yf O,cM]
theorem Gx{n:Nat}(d:Sz n p)(c:p.length<=25):Sz (n+5) (Yy p):=λi=>by rw [Zho];exact Zy5 d c i
theorem Zfz(h:Vp p)(c:∀i,i<p.length->bl (cf p (i+1)*((i:Int)+1)).natAbs<=65536):Vp (Yy p):=by
 refine⟨λi=>?_,Nm h.tr,by rw [Oc];have:=h.len;omega⟩;rw [Zho];by_cases hi:i<p.length
 .exact c i hi
 .rw [Yf O];simp [Lt]
def sf_t(h:xs.length=0):Value.bool (decide (Za9 xs))= .bool true:=aH Value.bool (aK (.inl h))
theorem sf_i{n:Int}(h:xs.length≠0)(d:n=(((xs.length+2)*(xs.length+2)*(Xx xs+16):Nat):Int)):Value.bool (decide (Za9 xs))= .bool (decide (n<=65536)):=aH Value.bool (bL.2 (by
 subst d;show(xs.length=0\/(xs.length+2)*(xs.length+2)*(Xx xs+16)<=65536)↔_;constructor
 .intro c;rcases c with c|c
  .exact absurd c h
  .exact lG.2 c
 .intro c;exact .inr (lG.1 c)))
theorem Yei(h:(Qc x y).length=0):Ma x y=[]:=by have c:Qc x y=[]:=aC h;unfold Ma;rw [c];split<;>rfl
theorem Yoz(e:y.length<=x.length)(c:(cf y (y.length-1)).sign<0)(d:((x.length:Int)-(y.length:Int)+1)%2=1):Ma x y=Zw (Qc x y):=by unfold Ma;rw [aG ⟨(Pf _).1 c,O⟩]
theorem Yac(c:¬(cf y (y.length-1)).sign<0):Ma x y=Zq (Zw (Qc x y)) (-1):=by unfold Ma;rw [aD (λh=>c ((Pf _).2 h.1))]
theorem Yab(d:y.length<=x.length)(c:¬((x.length:Int)-(y.length:Int)+1)%2=1):Ma x y=Zq (Zw (Qc x y)) (-1):=by unfold Ma;rw [aD (λh=>c O)]
theorem Zk9(l:Vp xs)(m:xs≠[])(h:Yox F xs):Vp (sqf F xs):=by
 obtain⟨_,_,_,d,c⟩:=h;have k:=Zxi l;unfold sqf Kc;split
 .exact⟨Sz.nil _,Tr.nil,O7⟩
 .rename_i e;rcases c with c|c
  .exact absurd c e
  .have g:=(Zci d).2 c.1;refine⟨?_,Qi _,?_⟩
   .rw [<-Zdi];exact(Zz9 g c.2.1).tzl
   .have j:=Mj (Zdj (Xa xs) (Nc F (Xa xs) (Yy (Xa xs))) ((Xa xs).length-(Nc F (Xa xs) (Yy (Xa xs))).length+1));rw [Zdi,Zam]at j;have:=k.len;have:=(Zci d).1;omega
theorem Zms(j:Vp xs)(h:Yox F xs):(sqf F xs).length<=xs.length:=by
 obtain⟨_,_,_,d,c⟩:=h;have k:=Pr j.tr;unfold sqf Kc;split
 .exact bD _
 .rename_i e;rcases c with c|c
  .exact absurd c e
  .have g:=Mj (Zdj (Xa xs) (Nc F (Xa xs) (Yy (Xa xs))) ((Xa xs).length-(Nc F (Xa xs) (Yy (Xa xs))).length+1));rw [Zdi,Zam]at g;have:=(Zci d).1;have:=c.1;omega
theorem Ydi{L:List Int}{n l:Int}(hi:i<L.length)(h:(n,l)=(L.take i).foldl Ng (0,0))(hs:L.getD i 0=s)(c:s=0):(n,l)=(L.take (i+1)).foldl Ng (0,0):=by rw [Pq 0 L i hi,Zcf,<-h,hs];unfold Ng;rw [aG c]
theorem Ydh{L:List Int}{n l:Int}(hi:i<L.length)(h:(n,l)=(L.take i).foldl Ng (0,0))(hs:L.getD i 0=s)(c:s≠0)(d:s=-l):(n+1,s)=(L.take (i+1)).foldl Ng (0,0):=by rw [Pq 0 L i hi,Zcf,<-h,hs];unfold Ng;rw [aD c];dsimp only;rw [aG d]
theorem Ydg{L:List Int}{n l:Int}(hi:i<L.length)(h:(n,l)=(L.take i).foldl Ng (0,0))(hs:L.getD i 0=s)(c:s≠0)(d:¬s=-l):(n,s)=(L.take (i+1)).foldl Ng (0,0):=by rw [Pq 0 L i hi,Zcf,<-h,hs];unfold Ng;rw [aD c];dsimp only;rw [aD d]
theorem Yse{L:List Int}{n l:Int}(hi:L.length<=i)(h:(n,l)=(L.take i).foldl Ng (0,0)):n=chg L:=by rw [bM hi]at h;unfold chg;rw [<-h]
theorem Yhy{z:Int}:-1<=z.sign/\z.sign<=1:=by
 rcases jJ z 0 with h|h|h
 .rw [fA h];omega
 .subst h;simp
 .rw [fT h];omega
theorem Ykm{α:Type}{d:α}{f:α->Int}{ls:List α}(h:i<ls.length):(ls.map f).getD i 0=f (ls.getD i d):=by simp [aE,h]
def sgx(ls:List (SL×List Int))(f:List Int->Int):List Int:=ls.map λz=>f z.2
def Zt9(ls:List (SL×List Int))(f:List Int->Int)(h:i<ls.length):(sgx ls f).getD i 0=f (ls.getD i ((none,0,0),[])).2:=Ykm h
def Zmt(ls:List (SL×List Int))(f:List Int->Int):(sgx ls f).length=ls.length:=aP ..
def fr(p:List Int):Int:=(cf p (p.length-1)).sign
def fl(p:List Int):Int:=if p.length%2=0 then-(cf p (p.length-1)).sign else(cf p (p.length-1)).sign
def Cj(x y:Int)(p:List Int):Int:=(pev p x y).sign
def fat_r(x y:Int)(p:List Int):-1<=Cj x y p/\Cj x y p<=1:=Yhy
theorem Zoh:∀(f:Nat) {x y:List Int},Vp x->Vp y->cok f x y->∀p∈Mc f x y,Vp p
 | 0,x,y,d,_,_,p,c=>by rw [bO.1 c];exact d
 | f+1,x,y,d,e,h,p,c=>by
  unfold Mc at c;split at c
  .rw [bO.1 c];exact d
  .rcases h with h|h
   .contradiction
   .rcases bE.1 c with rfl|c
    .exact d
    .exact Zoh f e (Zla d h.1) h.2.2 p c
theorem Ygq(e:Vp xs)(g:xs≠[])(k:Ax F xs):∀p∈chn F xs,Vp p:=by obtain⟨c,h,j⟩:=k;have d:=Zk9 e g c;exact Zoh F d (Kb (Zfz d (λi hi=>h i (by have:=Zms e c;omega)))) j
def cnt(F:Nat)(xs:List Int)(x y:Int):Int:=chg ((chn F xs).map (Cj x y))
def sright(F:Nat)(xs:List Int):Int:=chg ((chn F xs).map fr)
def sleft(F:Nat)(xs:List Int):Int:=chg ((chn F xs).map fl)
theorem Yaf{C:List (List Int)}(h:ls.map Prod.snd=C)(f:List Int->Int):sgx ls f=C.map f:=by rw [<-h,lF];rfl
def Lp{C:List (List Int)}{p:List Int->Prop}(h:ls.map Prod.snd=C)(c:∀q∈C,p q):∀z∈ls,p z.2:=λz d=>c _ (h▸nS d)
theorem Zbp(L:List Int):0<=chg L/\chg L<=L.length:=by
 unfold chg;suffices h:∀(l:List Int) (s:Int×Int),s.1<=(l.foldl Ng s).1/\(l.foldl Ng s).1<=s.1+l.length by have:=h L (0,0);simpa using this
 intro l
 induction l with
 | nil=>intro s;simp
 | cons x l c=>
  intro s;have d:=c (Ng s x);have e:=chg1_n s x;simp only [gY,dV];omega
theorem Za0:∀(f:Nat) (x y:List Int),(Mc f x y).length<=f+1
 | 0,x,y=>aI _
 | f+1,x,y=>by
  unfold Mc;split
  .simp
  .have:=Za0 f y (Ma x y);simp;omega
def sm(xs:List Int)(i:Nat):Nat:=(xs.take i).foldl (λm c=>max m c.natAbs) 0
def Zfl{x y:Int}(h:¬Iq x y):Es x y=x/Kf x y/\Fo x y=y/Kf x y/\Yip x y=0:=⟨aD h,aD h,aD h⟩
theorem nr_bl{x y:Int}(h:¬Iq x y):bl (Es x y).natAbs<=65536/\bl (Fo x y).natAbs<=65536:=by obtain⟨c,d,_⟩:=Zfl h;rw [c,d];unfold Iq at h;omega
theorem Zyg{x y:Int}(h:¬Iq x y)(c:0<y):0<Fo x y:=by rw [(Zfl h).2.1];exact Yfj c
abbrev R2:=Int×Int
def Ob(a b:R2):R2:=(Es (Es (a.1*b.2+b.1*a.2) (a.2*b.2)*1) (Fo (a.1*b.2+b.1*a.2) (a.2*b.2)*2),Fo (Es (a.1*b.2+b.1*a.2) (a.2*b.2)*1) (Fo (a.1*b.2+b.1*a.2) (a.2*b.2)*2))
def Ze6(a b:R2):Prop:=¬Iq (a.1*b.2+b.1*a.2) (a.2*b.2)/\¬Iq (Es (a.1*b.2+b.1*a.2) (a.2*b.2)*1) (Fo (a.1*b.2+b.1*a.2) (a.2*b.2)*2)
instance (a b:R2):Decidable (Ze6 a b):=by unfold Ze6;infer_instance
def Yfg{a b:R2}(h:Ze6 a b):Yip (Es (a.1*b.2+b.1*a.2) (a.2*b.2)*1) (Fo (a.1*b.2+b.1*a.2) (a.2*b.2)*2)=0:=(Zfl h.2).2.2
def isp(c:R2->Int)(e:Int):Nat->R2->R2->Int->Int->Nat->List (R2×R2)
 | 0,_,_,_,_,_=>[]
 | f+1,a,b,fr,g,d=>if fr=g then []else if fr-g=1/\e<=(d:Int)then [(a,b)]else isp c e f a (Ob a b) fr (c (Ob a b)) (d+1) ++ isp c e f (Ob a b) b (c (Ob a b)) g (d+1)
def Yb4(c:R2->Int)(g:R2->Prop)(e:Int):Nat->R2->R2->Int->Int->Nat->Prop
 | 0,_,_,_,_,_=>False
 | f+1,a,b,fr,h,d=>fr=h\/(fr-h=1/\e<=(d:Int))\/(d<1000/\Ze6 a b/\g (Ob a b)/\Yb4 c g e f a (Ob a b) fr (c (Ob a b)) (d+1)/\Yb4 c g e f (Ob a b) b (c (Ob a b)) h (d+1))
instance ispDec (c:R2->Int) (e:R2->Prop) [DecidablePred e] (g:Int):∀f a b fr h d,Decidable (Yb4 c e g f a b fr h d)
 | 0,_,_,_,_,_=>inferInstanceAs (Decidable False)
 | f+1,a,b,fr,h,d=>@instDecidableOr _ _ _ (@instDecidableOr _ _ _ (@instDecidableAnd _ _ _ (@instDecidableAnd _ _ _ (@instDecidableAnd _ _ _ (@instDecidableAnd _ _ (ispDec c e g f a (Ob a b) fr (c (Ob a b)) (d+1)) (ispDec c e g f (Ob a b) b (c (Ob a b)) h (d+1)))))))
def okQ(z:R2):Prop:=bl z.1.natAbs<=65536/\bl z.2.natAbs<=65536/\0<z.2
def evok(ls:List (SL×List Int))(m:R2):Prop:=∀z∈ls,¬Ib z.2 m.1 m.2
def cvx(ls:List (SL×List Int))(m:R2):Int:=chg (sgx ls (Cj m.1 m.2))
def cvc(F:Nat)(xs:List Int)(m:R2):Int:=cnt F xs m.1 m.2
def evc(F:Nat)(xs:List Int)(m:R2):Prop:=∀p∈chn F xs,¬Ib p m.1 m.2
def slow(a:R2):R2:=(Es a.1 a.2,Fo a.1 a.2)
def sisol(F:Nat)(xs:List Int)(f:Nat)(a b:R2)(c:Int):List (R2×R2):=isp (cvc F xs) c f (slow a) (slow b) (cvc F xs a) (cvc F xs b) 0
def isOK(F:Nat)(xs:List Int)(f:Nat)(a b:R2)(c:Int):Prop:=Ax F xs/\evc F xs a/\evc F xs b/\¬Iq a.1 a.2/\¬Iq b.1 b.2/\Yb4 (cvc F xs) (evc F xs) c f (slow a) (slow b) (cvc F xs a) (cvc F xs b) 0/\(sisol F xs f a b c).length<=1000000
open Go.RowKit Below
variable {P:Program} {N:Nat} {sc:Nat->Prop} {env env':Pw} {H H':Hp} {Q Q':Exit->Act->World->Prop} {M:Nat->Prop}
def CalM(P:Program)(f:FuncId)(args:Array Value)(pre:List Pc){G:Type}(φ:G->Prop)(Yn:G->Value)(d c:G->Pc):Prop:=
 ∀w,(∀p∈pre,p.holds w)->Calls P f args w λe h=>∃g,e= .returned (Yn g)/\φ g/\Below w.heap.size w h/\(d g).holds h/\(∀b,(d g).fp b->w.heap.size<=b)/\
  (c g).holds h/\(c g).own=false/\(∀b,(c g).fp b->w.heap.size<=b\/∃q∈pre,q.fp b)/\∀b,(d g).fp b->(c g).fp b->False
theorem Yop {o:Oper}  {xs:List Operand}  {d n:Nat}   {G:Type} {φ:G->Prop} {Yn:G->Value} {it D:G->Pc}  
  (hc:CalM P f vs.toArray pre φ Yn it D)
  (ho:o.op= .call { callee:= .value (.func f),args:=xs.toArray,argTypes:=ats }) (hd:o.dst=some d) (hN:Nat.blt d N=true)
  (t:EvL env xs vs) (u:∀args w,(callFunc f args).run P w= .ok (.enter f args) w) (k:PreOk H true pre)
  (h0:lk H 0=some (Yt w0 M0)) (hw:∀b,w0.heap.size<=b->sc b) :
  T P N sc M o env H φ (λg=>(d,Yn g)::env) (λg=>(n,it g)::(n+1,D g)::H):=λa w hs K Q hK=>by
 have hr:(execOp a.eval o).run P w= .ok (.enter f vs.toArray) w:=by rw [Hb hs ho t,u]
 unfold Oper.wp;rw [hr];refine(hc w (λp hp=>by obtain⟨i,it,_,hi,Z,_,_⟩:=k.mem p hp;exact Z w (hs.hold i it hi))).mono ?_
 rintro e w' ⟨g,rfl,hg,r,a2,S,a0,a1,W,R⟩;show K (a.put o.dst (Yn g)) w';rw [hd];have a5:Sat N sc env H a w':=hs.chg0 (Chg.of_below r);have a7:=(hs.hold 0 _ h0).size;have a6:=a5.add (n+1) (D g) a0 (λj I a3 l Lz b m c=>by
  rcases Lz with Lz|Lz
  .rw [a1]at Lz;cases Lz
  .rcases W b m with h|⟨q,hq,v⟩
   .have:=I.lt w b (hs.hold j I l) c;omega
   .obtain⟨i,B,V,hi,_,z,a4⟩:=k.mem q hq;by_cases Y:j=i
    .subst Y;rw [hi]at l;cases l;rw [a4 rfl]at Lz;cases Lz
    .exact hs.sep j i I B Y l hi Lz b c (z b v)) (λb m=>by
  rcases W b m with h|⟨q,hq,v⟩
  .exact hw b O
  .obtain⟨i,B,V,hi,_,z,_⟩:=k.mem q hq;exact hs.scope i B V hi b (z b v))
 refine hK g _ _ hg (Sat.put (a6.add n (it g) a2 (λj I a3 l Lz b m c=>?_) (λb m=>hw b (by have:=S b m;omega))) d _ hN) (Chg.of_below r);by_cases hk:n+1=j
 .subst hk;rw [Yg]at l;cases l;exact R b m c
 .rw [Zx hk]at l;have h1:=I.lt w b (hs.hold j I l) c;have h2:=S b m;omega
def Yn2(P:Program)(fn:Func)(w0:World)(pre:List Pc){G:Type}(φ:G->Prop)(Yn:G->Value)(d c:G->Pc):Exit->Act->World->Prop:=
 bodyPost P fn λe h=>∃g,e= .returned (Yn g)/\φ g/\Below w0.heap.size w0 h/\(d g).holds h/\(∀b,(d g).fp b->w0.heap.size<=b)/\
  (c g).holds h/\(c g).own=false/\(∀b,(c g).fp b->w0.heap.size<=b\/∃q∈pre,q.fp b)/\∀b,(d g).fp b->(c g).fp b->False
theorem Ysh   {c:Code}   {G:Type} {φ:G->Prop} {Yn:G->Value} {I o:G->Pc} {N:Nat}
  (V:P.funcs[f]? = some fn) (g:fn.body=some c) (R:fn.ntmps=N) (m:Nat.ble vs.length N=true) (B:AllRo pre)
  (h:∀w0 (sc:Nat->Prop),(∀b,w0.heap.size<=b->sc b)->(∀b,sc b->w0.heap.size<=b\/∃q∈pre,q.fp b)->
   E P N sc c (Yn2 P fn w0 pre φ Yn I o) (Pa 0 vs) ((0,Yt w0 (λ_=>False))::Xb 1 pre)) :
  CalM P f vs.toArray pre φ Yn I o:=λw Y=>by
 refine calls_of_wp V g (h w (λb=>w.heap.size<=b\/∃q∈pre,q.fp b) (λb g=> .inl g) (λb g=>g) _ w ?_);have m:vs.length<=N:=by simpa using m
 have d:∀i p,lk ((0,Yt w (λ_=>False))::Xb 1 pre) i=some p->(i=0/\p=Yt w (λ_=>False))\/(i≠0/\p∈pre/\p.own=false):=λi p hi=>by
   by_cases l:0=i
   .subst l;rw [Yg]at hi;cases hi;exact .inl ⟨rfl,rfl⟩
   .rw [Zx l]at hi;obtain⟨_,k⟩:=Nt pre 1 i p hi;exact .inr ⟨λe=>l e.symm,k,B.mem p k⟩
 refine⟨by simp [R];omega,rfl,λt v Z=>?_,λi p hi=>?_,λi j p q W hi hj z b g S=>?_,λi p r hi b g=>?_⟩
 .have D:vs.toArray[t]? = some v:=by simpa using(Ge vs 0 t v Z).2
  have u:=(aY.1 D).1;rw [bN,eT u,D];rfl
 .rcases d i p hi with⟨_,rfl⟩|⟨_,k,_⟩
  .exact Chg.refl _ w
  .exact Y p k
 .rcases d i p hi with⟨_,rfl⟩|⟨_,k,n⟩
  .cases z
  .rw [n]at z;cases z
 .rcases d i p hi with⟨l,_⟩|⟨_,k,_⟩
  .exact absurd l r
  .exact .inr ⟨p,k,g⟩
theorem Yn7   {G:Type} {φ:G->Prop} {Yn:G->Value} {k c:G->Pc}  {e:Exit} (Y:e= .ret\/e= .normal) (V:∀b,sc b->w0.heap.size<=b\/∃q∈pre,q.fp b)
  (g:G) {v:Value} (o:∀a w,Sat N sc env H a w->(results fn a.tmps).run P w= .ok v w) (hv:Yn g=v) (Z:φ g) (W:lk H 0=some (Yt w0 (λ_=>False)))
  (i:Nat) (z:Nat.beq i 0=false) (hi:lk H i=some (k g)) (d:(k g).own=true) (j:Nat) (I:Nat.beq j 0=false) (D:lk H j=some (c g)) (R:(c g).own=false) (B:Nat.beq i j=false) :
  X N sc e (Yn2 P fn w0 pre φ Yn k c) env H:=λa w hs=>by
 have l:i≠0:=λe=>by subst e;simp at z
 have n:j≠0:=λe=>by subst e;simp at I
 have m:i≠j:=λe=>by subst e;simp at B
 have r:a.defers=[]/\∃v,(results fn a.tmps).run P w= .ok v w/\(∃g,Ending.returned v= .returned (Yn g)/\φ g/\Below w0.heap.size w0 w/\(k g).holds w/\(∀b,(k g).fp b->w0.heap.size<=b)/\
   (c g).holds w/\(c g).own=false/\(∀b,(c g).fp b->w0.heap.size<=b\/∃q∈pre,q.fp b)/\∀b,(k g).fp b->(c g).fp b->False):=by
  refine⟨hs.defers,v,o a w hs,g,by rw [hv],Z,Ie (hs.hold 0 _ W),hs.hold i _ hi,λb t=>?_,hs.hold j _ D,R,λb t=>V b (hs.scope j _ n D b t),hs.sep i j _ _ m hi D d⟩;have hn:=hs.sep i 0 _ _ l hi W d b t;rcases aZ b w0.heap.size with S|u
  .exact absurd ⟨S,λh=>h⟩ hn
  .exact u
 rcases Y with rfl|rfl
 .exact r
 .exact r
theorem Zb3{β:Type}{q:β->Pc}{zs ys:List β}(i j n:Nat)(hi:lk H i=some (Nj q zs))(m:lk H j=some (Nj q ys))(d:Nat.beq i 0=false)(e:Nat.beq j 0=false) :
  ∀a w,Sat N sc env H a w->Sat N sc env ((n,Nj q (zs ++ ys))::H) a w:=
 Zxw i j n hi m d e rfl rfl (λw k l y g=>by
  rcases cZ.1 g with h|h
  .exact k y h
  .exact l y h) (λb c=>by
  obtain⟨y,g,c⟩:=c;rcases cZ.1 g with h|h
  .exact .inl ⟨y,h,c⟩
  .exact .inr ⟨y,h,c⟩) rfl
abbrev qD (z:SL×Nat):Pc:=Ox (Xm z.1) z.2
abbrev JE:=(R2×R2)×(SL×SL×SL×SL)
abbrev encJ (y:JE):Value:= .agg #[.bool (decide (y.1.1.1<0)),Xm y.2.1,.bool (decide (y.1.1.2<0)),Xm y.2.2.1,.bool (decide (y.1.2.1<0)),Xm y.2.2.2.1,.bool (decide (y.1.2.2<0)),Xm y.2.2.2.2]
abbrev qJ (y:JE):Pc:=Nj qD [(y.2.1,y.1.1.1.natAbs),(y.2.2.1,y.1.1.2.natAbs),(y.2.2.2.1,y.1.2.1.natAbs),(y.2.2.2.2,y.1.2.2.natAbs)]
abbrev J0:JE:=(((0,0),(0,0)),((none,0,0),(none,0,0),(none,0,0),(none,0,0)))
end Go.Sky
namespace Go.Sky
variable{M M0:Nat->Prop}{o:Oper}{x y:Operand}{t tb:TypeId}{cs:Array Value}{v:Value}{vs:List Value}{zs:List (SL×List Int)}{r:List Pc}{z:SL×List Int}
variable {P:Program} {N:Nat} {sc:Nat->Prop} {env env':Pw} {H H':Hp} {Q Q':Exit->Act->World->Prop}
theorem Zue(w:World)(g:Nat)(cs:Array Value)(t:TypeId){fr:Nat×Nat}(a:w.heap[g]? = some (.cells cs t fr)):w.setRow g cs=w:=by
 obtain⟨b,c⟩:=aY.1 a;have h:(w.setRow g cs).heap=w.heap:=by
  apply Array.ext_getElem?;intro i;by_cases h:g=i
  .subst h;rw [setRow_heap w g cs cs t fr a,a]
  .unfold World.setRow;dsimp only;rw [Array.getElem?_modify,aD h]
 have e:w.setRow g cs={ w with heap:=(w.setRow g cs).heap }:=rfl;rw [e,h]
theorem Zoq (i:Nat)     {b j k:Nat}    (s:o.op= .store t x y) (p:o.dst=none)
  (D:ev env x=some (.pointer (some ⟨b,j,none⟩))) (F:ev env y=some v) (m:lk H i=some (Ky b tb cs)) (B:v.cells=vs.toArray) (q:∀w,(sizeOf t).run P w= .ok k w) (d:vs.length=k)
  (c:Nat.ble (j+vs.length) cs.size=true) (l:∀u∈vs,u.oneCell'=true) (e:Fd cs j vs=cs) :
  T P N sc M o env H (G:=Unit) (λ_=>True) (λ_=>env) (λ_=>H):=λa w hs K Q n=>by
 have g:w.heap[b]? = some (.cells cs tb (0,0)):=hs.hold i _ m;have f:=run_storeCells_at P b j tb vs 0 cs w g (by simpa using jD c) l;simp only [eH]at f;have h:(execOp a.eval o).run P w= .ok .skip (w.setRow b (Fd cs j vs)):=by simp [execOp,s,hs.ev D,hs.ev F,Instr.storeAt,Instr.sureAddr,storeVar,B,q,d,f,Fd]
 rw [e,Zue w b cs tb g]at h;unfold Oper.wp;rw [h];show K (a.put o.dst _) _;rw [p];exact n () _ _ aA (hs.put_none undef) (Chg.refl _ _)
def Yrc{c:Code}(h:E P N sc c (Exit.noGoto Q) env H):E P N sc (.scope c) Q env H:=λa w hs=>wp_scope_straight (h a w hs)
def x_ngn(h:X N sc .normal Q env H):X N sc .normal (Exit.noGoto Q) env H:=h
def Yrd{l:Nat}(h:X N sc .normal Q env H):E P N sc (.label l) Q env H:=λa w hs=>wp_label (h a w hs)
def t_stp1     {i b j:Nat}   {w0:World}  (m:o.op= .store t x y) (k:o.dst=none)
  (p:ev env x=some (.pointer (some ⟨b,j,none⟩))) (q:ev env y=some v) (g:lk H i=some (box b tb cs)) (d:i≠0) (l:∀w,(sizeOf t).run P w= .ok 1 w) (c:Nat.ble (j+1) cs.size=true) (e:One N sc env H v)
  (f:lk H 0=some (Yt w0 M0)) (n:∀b,w0.heap.size<=b->sc b) (h:M b) :
  T P N sc M o env H (G:=Unit) (λ_=>True) (λ_=>env) (λ_=>(i,box b tb (Fd cs j [v]))::H):=λa w hs=>
 t_stp (cs':=#[]) (vs:=[v]) m k p q g d (Yd (e a w hs)) l rfl c ⟨e,aA⟩ f n h a w hs
def Yjd{al:Bool}(i:Nat)(hi:lk H i=some (Xs 1 Nk (λy:SL×List Int=>Yx 2 wv (Xm y.1) y.2) v zs))(a:Nat.beq i 0=false)(b:z∈zs)(h:PreOk H al r):PreOk H al (Yx 2 wv (Xm z.1) z.2::r):=Zu4 (q:=λy:SL×List Int=>Yx 2 wv (Xm y.1) y.2) (z:=z) i hi a b h
end Go.Sky
namespace Go.Sky
variable{v:Int}{o:Oper}{x y:Operand}{t tb:TypeId}{b k i:Nat}{kd:IntKind}{M M0:Nat->Prop}{w0:World}{cs:Array Value}
variable {P:Program} {N:Nat} {sc:Nat->Prop} {env env':Pw} {H H':Hp} {Q Q':Exit->Act->World->Prop}
def Zaa(l:List Int):Array Value:=(l.map (Value.int .i64)).toArray
theorem Yd7(l:List Int):(Zaa l).size=l.length:=by simp [Zaa]
theorem Ygo{l:List Int}{j:Nat}(h:j<l.length):(Zaa l)[j]? = some (.int .i64 (l.getD j 0)):=by simp [Zaa,aM h,aE]
theorem Ygn{l:List Int}{j:Nat}(h:j<l.length):Fd (Zaa l) j [.int .i64 v]=Zaa (l.set j v):=by unfold Fd Zaa;congr 1;rw [gW,aG h,dL,bZ,mI,List.map_drop];simp
theorem Fe (i:Nat)   {e:TypeId} {d c:Nat}  {m:Int} (j:o.op= .indexAddr t x y) (n:ev env x=some (.pointer (some ⟨b,d,none⟩))) (p:ev env y=some (.int kd m))
  (l:P.underlying t=some (.array c e)) (h:∀w,(sizeOf e).run P w= .ok k w) (f:m=(i:Int):=by omega) (g:i<c:=by omega):Lj P N sc o env H (.pointer (some ⟨b,d+i*k,none⟩)):=λa w hs=>by
 subst f;simp [execOp,j,hs.ev n,hs.ev p,Instr.indexAt,Instr.sureAddr,asIntOf,run_underlying l,h,g,Ok]
theorem Yf6 (i:Nat){j:Nat}{l:List Int}(d:o.op= .load t x)(f:ev env x=some (.pointer (some ⟨b,j,none⟩)))(a:lk H i=some (box b tb (Zaa l)))(e:∀w,(isAgg t).run P w= .ok false w)(c:j<l.length:=by omega) :
  Lj P N sc o env H (.int .i64 (l.getD j 0)):=Yf7 _ d f a e (Ygo c)
theorem d_lwa{l:List Int}(e:o.op= .load t x)(h:ev env x=some (.pointer (some ⟨b,0,none⟩)))(a:lk H i=some (box b tb (Zaa l)))(f:∀w,(isAgg t).run P w= .ok true w)(c:∀w,(sizeOf t).run P w= .ok k w)(d:l.length=k) :
  Lj P N sc o env H (.agg (Zaa l)):=
 Ycy (l.map (Value.int .i64)) e h a f c (by simpa using d) (λn u g=>by rw [cC];simpa [Zaa]using g)
theorem Zxl (i:Nat)     {j:Nat} {l:List Int}    (m:o.op= .store t x y) (g:o.dst=none)
  (q:ev env x=some (.pointer (some ⟨b,j,none⟩))) (r:ev env y=some (.int .i64 v)) (e:lk H i=some (box b tb (Zaa l))) (h:∀w,(sizeOf t).run P w= .ok 1 w) 
  (d:lk H 0=some (Yt w0 M0)) (p:∀b,w0.heap.size<=b->sc b) (f:M b) (a:i≠0:=by decide) (c:j<l.length:=by omega) :
  T P N sc M o env H (G:=Unit) (λ_=>True) (λ_=>env) (λ_=>(i,box b tb (Zaa (l.set j v)))::H):=by
 rw [<-Ygn c];exact Zi6 [.int .i64 v] m g q r e a rfl h rfl (by rw [Yd7];exact c) (λu n=>Yj (by rw [bO.1 n];rfl)) rfl d p f
theorem Yg1 (i:Nat)       {l:List Int}   (j:o.op= .store t x y) (f:o.dst=none)
  (p:ev env x=some (.pointer (some ⟨b,0,none⟩))) (q:ev env y=some (.agg (Zaa l))) (d:lk H i=some (box b tb cs)) (g:∀w,(sizeOf t).run P w= .ok k w) (h:l.length=k) (r:cs.size=k)
  (c:lk H 0=some (Yt w0 M0)) (n:∀b,w0.heap.size<=b->sc b) (e:M b) (a:i≠0:=by decide) :
  T P N sc M o env H (G:=Unit) (λ_=>True) (λ_=>env) (λ_=>(i,box b tb (Zaa l))::H):=
 Zi6 (l.map (Value.int .i64)) j f p q d a rfl g (by simpa using h) O8 (λu m=>Yj (by obtain⟨z,_,rfl⟩:=eJ.1 m;rfl)) (by unfold Fd Zaa;rw [dS,jB,cC,kJ O8,iA]) c n e
def Oq:Nat->Nat->Nat
 | _,0=>1
 | 0,_+1=>0
 | n+1,k+1=>Oq n k+Oq n (k+1)
theorem Zze:∀n k,Oq n k<=2^n
 | 0,0=>O3
 | _+1,0=>dQ _
 | 0,_+1=>bD _
 | n+1,k+1=>by have a:=Zze n k;have c:=Zze n (k+1);show Oq n k+Oq n (k+1)<=2^(n+1);rw [bX];omega
theorem Zni:∀n k,n<k->Oq n k=0
 | _,0,h=>absurd h (cI _)
 | 0,_+1,_=>rfl
 | n+1,k+1,h=>by show Oq n k+Oq n (k+1)=0;rw [Zni n k O,Zni n (k+1) O]
structure Tab (l:List Int) (n k:Nat):Prop where
 len:l.length=625
 eq:∀r c,r<25->c<25->l.getD (r*25+c) 0=if r<n\/(r=n/\c<k)then(Oq r c:Int)else 0
theorem Ziq{l:List Int}{j:Nat}(hi:i<l.length:=by omega):(l.set i v).getD j 0=if j=i then v else l.getD j 0:=by
 rw [aE,aE,List.getElem?_set];by_cases h:i=j
 .subst h;rw [aG rfl,aG hi,aG rfl];rfl
 .rw [aD h,aD (λe=>h e.symm)]
theorem Tab.start:Tab (List.replicate 625 0) 0 0:=⟨aT,λr c d a=>by rw [aD O,aE];rw [iQ];split<;>rfl⟩
theorem Tab.step{l:List Int}{n:Nat}(h:Tab l n k)(w:n<25)(u:k<25)(s:v=(Oq n k:Int)){j:Nat}(m:j=n*25+k):Tab (l.set j v) n (k+1):=by
 subst m;have p:=h.len;refine⟨by rw [bI];exact p,λr c q f=>?_⟩;rw [Ziq,h.eq r c q f];by_cases e:r*25+c=n*25+k
 .have a:r=n:=O;have d:c=k:=O;subst a;subst d;rw [aG rfl,aG O];exact s
 .rw [aD e];have:¬(r=n/\c=k):=λ⟨a,d⟩=>e (by rw [a,d]);by_cases g:r<n\/(r=n/\c<k)
  .rw [aG g,aG O]
  .rw [aD g,aD O]
theorem Tab.row{l:List Int}{n:Nat}(h:Tab l n k)(f:n<k):Tab l (n+1) 0:=⟨h.len,λr c e d=>by
 rw [h.eq r c e d];by_cases g:r<n\/(r=n/\c<k)
 .rw [aG g,aG O]
 .rw [aD g];by_cases a:r<n+1\/(r=n+1/\c<0)
  .rw [aG a,Zni r c O];rfl
  .rw [aD a]⟩
theorem Tab.get{l:List Int}{n r c:Nat}(h:Tab l n k)(f:r<25)(d:c<25)(a:r<n\/(r=n/\c<k)){j:Nat}(e:j=r*25+c):l.getD j 0=(Oq r c:Int):=by rw [e,h.eq r c f d,aG a]
theorem Ydd (n:Nat)(k:Nat)(c:1<=n:=by omega)(a:1<=k:=by omega):Oq n k=Oq (n-1) (k-1)+Oq (n-1) k:=by obtain⟨m,rfl⟩:∃m,n=m+1:=⟨n-1,O⟩;obtain⟨j,rfl⟩:∃j,k=j+1:=⟨k-1,O⟩;rfl
end Go.Sky
namespace Go.Sky
variable{k b:Nat}{t tb:TypeId}{parts:List (Nat×Value)}{cells:Array Value}{o:Oper}{x y:Operand}{kd:IntKind}{v0 v1 v2:Value}{M M0:Nat->Prop}
structure Tb (l:List Int) (n k:Nat):Prop where
 len:l.length=36
 eq:∀r c,r<6->c<6->l.getD (r*6+c) 0=if r<n\/(r=n/\c<k)then(Oq r c:Int)else 0
theorem Tb.start:Tb (List.replicate 36 0) 0 0:=⟨aT,λr c d a=>by rw [aD O,aE];rw [iQ];split<;>rfl⟩
theorem Tb.step{l:List Int}{n:Nat}{v:Int}(h:Tb l n k)(u:n<6)(s:k<6)(q:v=(Oq n k:Int)){j:Nat}(i:j=n*6+k):Tb (l.set j v) n (k+1):=by
 subst i;have m:=h.len;refine⟨by rw [bI];exact m,λr c p f=>?_⟩;rw [Ziq,h.eq r c p f];by_cases e:r*6+c=n*6+k
 .have a:r=n:=O;have d:c=k:=O;subst a;subst d;rw [aG rfl,aG O];exact q
 .rw [aD e];have:¬(r=n/\c=k):=λ⟨a,d⟩=>e (by rw [a,d]);by_cases g:r<n\/(r=n/\c<k)
  .rw [aG g,aG O]
  .rw [aD g,aD O]
theorem Tb.row{l:List Int}{n:Nat}(h:Tb l n k)(f:n<k):Tb l (n+1) 0:=⟨h.len,λr c e d=>by
 rw [h.eq r c e d];by_cases g:r<n\/(r=n/\c<k)
 .rw [aG g,aG O]
 .rw [aD g];by_cases a:r<n+1\/(r=n+1/\c<0)
  .rw [aG a,Zni r c O];rfl
  .rw [aD a]⟩
theorem Tb.get{l:List Int}{n r c:Nat}(h:Tb l n k)(f:r<6)(d:c<6)(a:r<n\/(r=n/\c<k)){j:Nat}(e:j=r*6+c):l.getD j 0=(Oq r c:Int):=by rw [e,h.eq r c f d,aG a]
theorem Zsu (n:Nat)(k:Nat)(h:n<=5:=by omega):Oq n k<=32:=aB (Zze n k) (aB (dK O3 h) O3)
theorem Zeu {P:Program} {e:TypeId} {n:Nat} {c a:TypeInfo} {z:Value}   (hi:P.info? t=some c) (g:P.underlying t=some (.array n e)) (h:c.zero=some z) (d:P.info? e=some a)
  (f:Instr.fill (λi=>some (i*a.size,a.size)) z.cells parts=some cells):P.built t parts=some cells:=by
 unfold Program.built;simp only [hi,g,h,d,f]
variable {P:Program} {N:Nat} {sc:Nat->Prop} {env env':Pw} {H H':Hp} {Q Q':Exit->Act->World->Prop}
def Zu{α:Type _}(i:Nat)(a b c:α):α:=match i with
 | 0=>a
 | 1=>b
 | _=>c
theorem Cr{α:Type _}{p:α->Prop}{i:Nat}{a b c:α}(d:p a)(e:p b)(f:p c):p (Zu i a b c):=by unfold Zu;split<;>assumption
theorem Zps (i:Nat)   {e:TypeId}   {m:Int}  (j:o.op= .index t x y) (n:ev env x=some (.agg #[v0,v1,v2])) (p:ev env y=some (.int kd m))
  (l:P.underlying t=some (.array 3 e)) (g:∀w,(sizeOf e).run P w= .ok 1 w) (f:∀w,(isAgg e).run P w= .ok false w) (c:m=(i:Int)) (h:i<3:=by omega):Lj P N sc o env H (Zu i v0 v1 v2):=λa w hs=>by
 subst c;have d:i=0\/i=1\/i=2:=O;rcases d with rfl|rfl|rfl<;>simp [execOp,j,hs.ev n,hs.ev p,Instr.index,asIntOf,run_underlying l,g,f,asAgg,part,Zu]
theorem Zh9 {α:Type}  {enc:α->Value}  {f g j:List α} (i c d e n:Nat) (l:lk H c=some (Yx k enc v0 f)) (m:lk H d=some (Yx k enc v1 g)) (p:lk H e=some (Yx k enc v2 j))
  (q:Nat.beq c 0=false) (r:Nat.beq d 0=false) (s:Nat.beq e 0=false):∀a w,Sat N sc env H a w->Sat N sc env ((n,Yx k enc (Zu i v0 v1 v2) (Zu i f g j))::H) a w:=by
 match i with
 | 0=>exact Zc1 c n l q rfl (λw h=>h) (λb h=>h) rfl
 | 1=>exact Zc1 d n m r rfl (λw h=>h) (λb h=>h) rfl
 | i+2=>exact Zc1 e n p s rfl (λw h=>h) (λb h=>h) rfl
theorem Zwq (i:Nat)(j:Nat){α:Type}{enc:α->Value}{l:List α}(d:α)(n:o.op= .load t x)(s:ev env x=some (.pointer (some ⟨b,0+j*k,none⟩)))(g:lk H i=some (box b tb (cellsOf enc l).toArray))(e:Enc P t k enc)(m:j<l.length) :
  Lj P N sc o env H (enc (l.getD j d)):=λa w hs=>by
 have hi:l[j]? = some (l.getD j d):=by simp [List.getD,aM m]
 have h:=e.load (l.getD j d) w ⟨b,0+j*k,none⟩ (λq u p=>by have f:=Gg e.cells l j _ hi q u p;rw [Ok,hs.boxc g];simpa using f)
 have c:=hs.ev s;generalize enc (l.getD j d)=r at h ⊢;generalize (⟨b,0+j*k,none⟩:Addr)=v at h c;simp [execOp,n,c,Instr.loadAt,Instr.sureAddr,h]
theorem t_sbe (i:Nat)(j:Nat)(k:Nat) {α:Type}      {enc:α->Value} {l:List α} (z:α) {w0:World}  (q:o.op= .store t x y) (n:o.dst=none)
  (v:ev env x=some (.pointer (some ⟨b,0+j*k,none⟩))) (w:ev env y=some (enc z)) (h:lk H i=some (box b tb (cellsOf enc l).toArray)) (a:Enc P t k enc) (f:j<l.length)
  (g:lk H 0=some (Yt w0 M0)) (s:∀b,w0.heap.size<=b->sc b) (m:M b) (c:i≠0:=by decide) :
  T P N sc M o env H (G:=Unit) (λ_=>True) (λ_=>env) (λ_=>(i,box b tb (cellsOf enc (l.set j z)).toArray)::H):=by
 have p:=Xk a.cells l;have e:(enc z).cells.toList.length=k:=by simp [a.cells]
 have d:(j+1)*k<=l.length*k:=aJ _ f;rw [dA]at d;refine Zi6 ((enc z).cells.toList) q n v w h c rfl a.size e (by rw [e,iE,p];omega) (λu r=>Yj (a.one z u r)) ?_ g s m;unfold Fd;rw [cC,e,Cz a.cells l j z f]
end Go.Sky
namespace Go.Sky
variable{o:Oper}{x:Operand}{t tb te:TypeId}{M M0:Nat->Prop}{cs:Array Value}
variable {P:Program} {N:Nat} {sc:Nat->Prop} {env env':Pw} {H H':Hp} {Q Q':Exit->Act->World->Prop}
theorem d_lea{α:Type}{i b k q:Nat}{enc:α->Value}{l:List α}(f:o.op= .load t x)(j:ev env x=some (.pointer (some ⟨b,0,none⟩)))(a:lk H i=some (box b tb (cellsOf enc l).toArray))(c:Enc P te q enc)(g:∀w,(isAgg t).run P w= .ok true w)(d:∀w,(sizeOf t).run P w= .ok k w)(e:l.length*q=k) :
  Lj P N sc o env H (.agg (cellsOf enc l).toArray):=
 Ycy (cellsOf enc l) f j a g d (by rw [Xk c.cells l];exact e) (λn u h=>by rw [cC];simpa using h)
theorem t_sea {α:Type}   {y:Operand}  {i b k q:Nat}  {enc:α->Value} {l:List α} {w0:World}  (r:o.op= .store t x y) (m:o.dst=none)
  (v:ev env x=some (.pointer (some ⟨b,0,none⟩))) (B:ev env y=some (.agg (cellsOf enc l).toArray)) (g:lk H i=some (box b tb cs)) (a:i≠0) (d:Enc P te q enc) (n:∀w,(sizeOf t).run P w= .ok k w) (p:l.length*q=k) (j:cs.size=k)
  (f:lk H 0=some (Yt w0 M0)) (s:∀b,w0.heap.size<=b->sc b) (h:M b) :
  T P N sc M o env H (G:=Unit) (λ_=>True) (λ_=>env) (λ_=>(i,box b tb (cellsOf enc l).toArray)::H):=by
 have c:(cellsOf enc l).length=k:=by rw [Xk d.cells l];exact p
 refine Zi6 (cellsOf enc l) r m v B g a rfl n c (by rw [c,cC,j];exact aI _) (λu e=>?_) (by unfold Fd;rw [dS,jB,cC,kJ O8,iA]) f s h
 unfold cellsOf at e;obtain⟨z,_,D⟩:=kO.1 e;exact Yj (d.one z u D)
end Go.Sky
namespace Go.Sky
variable {P:Program} {N:Nat} {sc:Nat->Prop} {env env':Pw} {H H':Hp} {Q Q':Exit->Act->World->Prop}
abbrev Zl:=(Int×Int×Int)×(SL×List Int)×(SL×List Int)×(SL×List Int)
abbrev Qj (g:Zl):Value:= .agg #[.int .i64 g.1.1,.int .i64 g.1.2.1,.int .i64 g.1.2.2,Xm g.2.1.1,Xm g.2.2.1.1,Xm g.2.2.2.1]
abbrev qC (z:SL×List Int):Pc:=Yx 1 Yi (Xm z.1) z.2
abbrev qG (g:Zl):Pc:=Nj qC [g.2.1,g.2.2.1,g.2.2.2]
abbrev G0:Zl:=((0,0,0),((none,0,0),[]),((none,0,0),[]),((none,0,0),[]))
def Pm (g:Zl)(z:SL×List Int){v:Value}{ps:List Zl}(j n:Nat)(i:lk H j=some (Xs 6 Qj qG v ps))(c:Nat.beq j 0=false)(d:g∈ps)(e:z∈[g.2.1,g.2.2.1,g.2.2.2]):∀a w,Sat N sc env H a w->Sat N sc env ((n,Yx 1 Yi (Xm z.1) z.2)::H) a w:=
 Zc1 j n i c rfl (λw h=>h.2 g d z e) (λb f=> .inr ⟨g,d,z,e,f⟩) rfl
end Go.Sky
namespace Go.Sky
variable{x c y p a b xs:List Int}{i m F:Nat}{over ov Y:Int}{s η ε t δ:Rat}{z:List (SL×List (Int×SL))}{f:Rat->Rat}{fs:List (Rat->Rat)}{ls:List (List Int)}
theorem Gt{x:Int}(h:Nz x):bl x.natAbs<=64:=(Qo 64 _).2 (by obtain⟨d,e⟩:=h;omega)
theorem in_bl{x:Int}(h:bl x.natAbs<=63):Nz x:=by have:=(Qo 63 x.natAbs).1 h;exact⟨O,O⟩
theorem bl_pw{n:Int}(h:bl n.natAbs<=100)(hi:i<=10):bl (n^i).natAbs<=1000:=by
 rcases aW i with d|d
 .subst d;rw [cL];decide
 .exact aB (Fj n h i d) (by have:=aJ 100 hi;omega)
def Zai:List Int->Int
 | []=>1
 | x::r=>x*Zai r
def zc6_eq:(Value.agg (List.replicate 36 (Value.int .i64 0)).toArray).cells=Zaa (List.replicate 36 0):=rfl
def Zti:(Value.agg (List.replicate 36 (Value.int .i64 0)).toArray).cells.size=36:=rfl
def w60(n j k:Nat):Int:=60/(Oq n k:Int)*(Oq j k:Int)
def ctl(c:List Int)(j m:Nat):Int:=Ye (λk=>c.getD k 0*w60 (c.length-1) j k) m
def Ymr(c:List Int)(j m:Nat):ctl c j (m+1)=ctl c j m+c.getD m 0*w60 (c.length-1) j m:=rfl
theorem Zkx:∀{n k:Nat},k<=n->0<Oq n k
 | n,0,_=>by cases n<;>exact Nat.one_pos
 | n+1,k+1,h=>by have:=Zkx (n:=n) (k:=k) O;show 0<Oq n k+Oq n (k+1);omega
theorem Zxh (n:Nat)(j:Nat)(k:Nat)(g:j<=5):0<=w60 n j k/\w60 n j k<=1920:=by have h:=Zsu _ k g;unfold w60;have d:(0:Int)<=60/(Oq n k:Int):=jA O3 O;have e:(60:Int)/(Oq n k:Int)<=60:=mL _ O3;refine⟨eU d O,?_⟩;have:=kK e (show(Oq j k:Int)<=32 by omega) O O3;omega
theorem Znq (n:Nat)(k:Nat){j:Nat}(d:j<=5):bl (w60 n j k).natAbs<=11:=by have:=Zxh n _ k d;exact(Qo 11 _).2 O
theorem Lq(h:∀x∈c,Nz x)(k:Nat):Nz (c.getD k 0):=by
 by_cases d:k<c.length
 .exact h _ (Zd d)
 .rw [aE,bF O];exact⟨O3,O3⟩
theorem Zdu(h:∀x∈c,Nz x){j:Nat}(d:j<=5)(e:m<=31):bl (ctl c j m).natAbs<=80:=
 Zk2 (K:=75) (λk _=>by have g:=Gt (Lq h k);have l:=Znq (c.length-1) k d;have:=Yq (c.getD k 0) (w60 (c.length-1) j k);omega) e
def Znp(c:List Int)(over:Int):Bool:=(List.range c.length).all λj=>decide ((ctl c j (j+1)).natAbs<=62914560*over)
theorem Zzk(h:∀j,j<c.length->((ctl c j (j+1)).natAbs:Int)<=62914560*over):Znp c over=true:=by unfold Znp;rw [cP];intro j d;exact aK (h j (fR.1 d))
theorem Zzl (j:Nat)(d:j<c.length)(h:¬((ctl c j (j+1)).natAbs:Int)<=62914560*over):Znp c over=false:=by
 cases hb:Znp c over with
 | false=>rfl
 | true=>
  unfold Znp at hb;rw [cP]at hb;exact absurd (cE (hb j (fR.2 d))) h
theorem wc_abs{s:Int}:(#[.bool false,.string (Qp s.natAbs)]:Array Value)=wc (s.natAbs:Int):=by have:decide (((s.natAbs:Nat):Int)<0)=false:=aN O;rw [show wc (s.natAbs:Int)=#[.bool (decide (((s.natAbs:Nat):Int)<0)),.string (Qp ((s.natAbs:Nat):Int).natAbs)]from rfl,this,dH]
theorem sgp(z:Int):0<z.sign↔0<z:=by simpa using El z
def axB(c:List Int)(over:Int):Bool:=decide (1<=c.length) && decide (c.length<=6) && !(decide (1<c.length) && decide (c.getD (c.length-1) 0=0)) && Znp c over
def Me(g:Int):List Int->Int
 | []=>g
 | x::r=>Me (Int.gcd g x) r
def Hj:∀(a b:List Int) (g:Int),Me g (a ++ b)=Me (Me g a) b
 | [],_,_=>rfl
 | x::a,b,g=>Hj a b _
theorem Ac{l:List Int}{g:Int}(h:i<l.length):Me g (l.take (i+1))=(Int.gcd (Me g (l.take i)) (l.getD i 0):Int):=by rw [Pq 0 _ _ h,Hj];rfl
theorem Zhr:∀{l:List Int} {g:Int} {m:Nat},(∀x∈l,bl x.natAbs<=m)->bl g.natAbs<=m->bl (Me g l).natAbs<=m
 | [],_,_,_,h=>h
 | x::l,g,m,h,hg=>Zhr (l:=l) (λy d=>h y (bH _ d)) (aB (Zk4 g x) (by have:=h x (bT ..);omega))
abbrev Cs:=List Int×List Int×List Int
def Yec(fr d ov:Int):Bool:=decide (0<=fr) && decide (fr<d) && decide (d<=3600000) && decide (1<=ov) && decide (ov<=4294967296)
def Ba(fr d ov:Int)(x y z:List Int):Bool:=Yec fr d ov && axB x ov && axB y ov && axB z ov && decide (Me ov (x ++ y ++ z)=1)
def Mn(i:Nat)(x y z:List Int):List Int:=match i with
 | 0=>[]
 | 1=>x
 | 2=>x ++ y
 | _=>x ++ y ++ z
theorem Fz(x y z:List Int)(h:i<3):Mn (i+1) x y z=Mn i x y z ++ Zu i x y z:=by
 match i,h with
 | 0,_=>rfl
 | 1,_=>rfl
 | 2,_=>rfl
theorem Zc0 (i:Nat){fr d:Int}{z:List Int}(h:axB (Zu i x y z) ov=false):Ba fr d ov x y z=false:=by unfold Ba;revert h;unfold Zu;split<;>intro h<;>simp [h]
theorem Zav{fr d:Int}{z:List Int}(h:¬(0<=fr/\fr<d/\d<=3600000/\1<=ov/\ov<=4294967296)):Ba fr d ov x y z=false:=by
 cases hb:Ba fr d ov x y z with
 | false=>rfl
 | true=>
  unfold Ba Yec at hb;simp only [aR,dO]at hb;exact absurd O h
theorem Zn0(h:1<=c.length->c.length<=6->¬(1<c.length/\c.getD (c.length-1) 0=0)->Znp c ov=true->False):axB c ov=false:=by
 cases hb:axB c ov with
 | false=>rfl
 | true=>
  unfold axB at hb;simp only [aR,fS,jF,dO,gM]at hb;exact(h hb.1.1.1 hb.1.1.2 (λe=>by rcases hb.1.2 with d|d;exact d e.1;exact d e.2) hb.2).elim
theorem Ydy(e:1<=c.length)(g:c.length<=6)(h:¬(1<c.length/\c.getD (c.length-1) 0=0))(j:Znp c ov=true):axB c ov=true:=by
 unfold axB;simp only [aR,fS,jF,dO,gM];refine⟨⟨⟨e,g⟩,?_⟩,j⟩;by_cases d:1<c.length
 .exact .inr λk=>h ⟨d,k⟩
 .exact .inl d
theorem Yh6{fr g:Int}{z:List Int}(d:0<=fr/\fr<g/\g<=3600000/\1<=ov/\ov<=4294967296)(e:∀k,k<3->axB (Zu k x y z) ov=true):Ba fr g ov x y z=decide (Me ov (Mn 3 x y z)=1):=by have h:axB x ov=true:=e 0 O3;have j:axB y ov=true:=e 1 O3;have l:axB z ov=true:=e 2 O3;unfold Ba Yec;rw [aK d.1,aK d.2.1,aK d.2.2.1,aK d.2.2.2.1,aK d.2.2.2.2,h,j,l];rfl
def Ik{z:List Int}(d:∀a∈x,Nz a)(e:∀a∈y,Nz a)(g:∀a∈z,Nz a)(i:Nat):∀a∈Zu i x y z,Nz a:=Cr (p:=λl=>∀a∈l,Nz a) d e g
theorem bl_fc{z:List Int}(e:∀a∈x,Nz a)(g:∀a∈y,Nz a)(j:∀a∈z,Nz a)(l:bl ov.natAbs<=64)(i k:Nat):bl (Me (Me ov (Mn i x y z)) ((Zu i x y z).take k)).natAbs<=64:=by
 refine Zhr (λa d=>Gt (Ik e g j i a (eV d))) (Zhr (λa d=>Gt ?_) l);unfold Mn at d;split at d
 .cases d
 .exact e a d
 .rcases cZ.1 d with h|h
  .exact e a h
  .exact g a h
 .rcases cZ.1 d with h|h
  .rcases cZ.1 h with h|h
   .exact e a h
   .exact g a h
  .exact j a h
def Zd6{c:Int} : c.sign<0↔c<0:=Pf c
abbrev RWL:=List (Bool×ByteArray)
def smallR(r:RWL):Bool:=decide (r.length<=8) && r.all λc=>decide (c.2.size<=6)
noncomputable def dec (r:RWL):List Int:=if h:okP r=true then(okP_ex h).choose else []
noncomputable def bdE (r:RWL):Int:=if okP r=true then Zzf (dec r)else 2
noncomputable def bdZ (r:RWL):Int:=if bdE r=0 then sbound (dec r)else 0
theorem Yis{c:Int}{n:Nat}(e:y.length=n)(d:c=cf y (n-1))(h:c.sign<0):Fp y=-c:=by subst e;unfold Fp;rw [<-d,aG (Zd6.1 h)]
theorem Yir{c:Int}{n:Nat}(g:y.length=n)(e:c=cf y (n-1))(h:¬c.sign<0):Fp y=c:=by subst g;unfold Fp;rw [<-e,aD (λd=>h (Zd6.2 d))]
theorem rb_n{c d:Int}{n:Nat}(k:y.length=n)(j:x.length=m)(e:c=cf y (n-1))(g:d=cf x (m-1))(h:c.sign<0):rb x y=-d:=by subst k j;unfold rb;rw [<-e,aG (Zd6.1 h),g]
theorem rb_p{c d:Int}{n:Nat}(l:y.length=n)(k:x.length=m)(g:c=cf y (n-1))(j:d=cf x (m-1))(h:¬c.sign<0):rb x y=d:=by subst l k;unfold rb;rw [<-g,aD (λe=>h (Zd6.2 e)),j]
theorem Ydp(y:List Int):bl (Fp y).natAbs<=Xx y:=by
 have:=Pb y (y.length-1);unfold Fp;split
 .rwa [eC]
 .exact this
theorem bl_rb(x y:List Int):bl (rb x y).natAbs<=Xx x:=by
 have:=Pb x (x.length-1);unfold rb;split
 .rwa [eC]
 .exact this
theorem Zb1{c:Int}{n:Nat}(d:Sz n p)(h:bl c.natAbs<=m):Sz (n+m) (Zq p c):=λi=>by rw [Yl];have e:=Yq (cf p i) c;have g:=d i;omega
theorem Yg6{q:List Int}{n:Nat}(d:Sz n p)(e:Sz n q):Sz (n+1) (Eh p q):=λi=>by rw [Il];have g:=Bu (cf p i) (cf q i);have h:=d i;have j:=e i;omega
theorem sz_shm'{s:Nat} : Sz (Xx x+Xx y) (shm y (rb x y) s i):=Zqc λt=>by have d:=Yq (rb x y) (cf y t);have e:=bl_rb x y;have g:=Pb y t;omega
theorem Zph(x y:List Int):Xx (Gy x y)<=Xx x+Xx y+1:=by refine Qu ?_;unfold Gy;exact Yg6 (Zb1 (Pb x) (Ydp y)) sz_shm'
theorem Yev{f S:Nat}(e:0<y.length)(d:y.length<=x.length)(n:x.length<y.length+f)(k:Tr x)(j:Xx x+f*(Xx y+1)<=S) :
  ∃g,f=g+1/\Gu f x y=Gu g (Gy x y) y/\(Gy x y).length<y.length+g/\Tr (Gy x y)/\Xx (Gy x y)+g*(Xx y+1)<=S/\(Gy x y).length<x.length:=by
 obtain⟨g,rfl⟩:∃g,f=g+1:=⟨f-1,O⟩;have h:=Zg3 k e d;have l:=Zph x y;refine⟨g,rfl,?_,O,Zac,?_,h⟩
 .rw [Gu,aD O]
 .rw [dA]at j;omega
theorem Yie{f:Nat}(h:x.length<y.length):Gu f x y=x:=by
 cases f with
 | zero=>rfl
 | succ f=>rw [Gu,aG h]
theorem Zvk(y:List Int):∀(f:Nat) (x:List Int),Xx (Gu f x y)<=Xx x+f*(Xx y+1)
 | 0,x=>by rw [Gu];omega
 | f+1,x=>by
  rw [Gu];split
  .omega
  .have d:=Zvk y f (Gy x y);have e:=Zph x y;rw [dA];omega
def firstE(r:RWL)(x y d e:Int):Int:=if okP r=true then(if r.length=0\/0<x*e-d*y then 3 else 0)else 2
theorem Yfq{L:List (List Int)}(h:Bg z=L):z.length=L.length:=by rw [<-h];simp
theorem Zsw{n l x:Int}(d:-1<=l)(e:l<=1)(g:-1<=x)(h:x<=1):Ng (n,l) x=(if x*l<0 then n+1 else n,if x≠0 then x else l):=by
 obtain rfl|rfl|rfl:l=-1\/l=0\/l=1:=O
 all_goals obtain rfl|rfl|rfl:x=-1\/x=0\/x=1:=O
 all_goals simp [Ng]
theorem Ya4{n l x:Int}(d:-1<=l)(e:l<=1)(g:-1<=x)(h:x<=1)(j:x*l<0)(k:x≠0):Ng (n,l) x=(n+1,x):=by rw [Zsw d e g h,aG j,aG k]
theorem Ya3{n l x:Int}(d:-1<=l)(e:l<=1)(g:-1<=x)(h:x<=1)(j:x*l<0)(k:¬x≠0):Ng (n,l) x=(n+1,l):=by rw [Zsw d e g h,aG j,aD k]
theorem Ya2{n l x:Int}(d:-1<=l)(e:l<=1)(g:-1<=x)(h:x<=1)(j:¬x*l<0)(k:x≠0):Ng (n,l) x=(n,x):=by rw [Zsw d e g h,aD j,aG k]
theorem Ya1{n l x:Int}(d:-1<=l)(e:l<=1)(g:-1<=x)(h:x<=1)(j:¬x*l<0)(k:¬x≠0):Ng (n,l) x=(n,l):=by rw [Zsw d e g h,aD j,aD k]
theorem Zd2 (l:List Int)(i:Nat){n m:Int}(hi:i<l.length)(h:(n,m)=(l.take i).foldl Ng (0,0)):(l.take (i+1)).foldl Ng (0,0)=Ng (n,m) (l.getD i 0):=by rw [Pq 0 l i hi,Zcf,h]
theorem mul_r{x m:Int}(g:-1<=x)(h:x<=1)(d:-1<=m)(e:m<=1):-9223372036854775808<=x*m/\x*m<=9223372036854775807:=by
 obtain rfl|rfl|rfl:m=-1\/m=0\/m=1:=O
 all_goals obtain rfl|rfl|rfl:x=-1\/x=0\/x=1:=O
 all_goals decide
def ev_b{x y:Int}(hs:Sz 1000000 p)(d:p.length<=30)(e:bl x.natAbs<=1000000)(g:bl y.natAbs<=1000000):bl (pev p x y).natAbs<=100000010:=
 Zs6 (λt _=>ev_tb hs (λk=>Zad e k) (λk=>Zad g k) d t) O
theorem Yfp{L:List (List Int)}(h:Bg z=L)(f:List Int->Int)(hi:i<z.length):(L.map f).getD i 0=f (Zb (z.getD i T0).2):=by subst h;simp only [aE,eI,aM hi];rfl
def chke:Nat->Nat->Nat->Nat->Nat->Bool
 | 0,d,_,A,_=>Nat.ble (A+d*64) 65500
 | f+1,d,e,A,B=>Nat.ble (A+d*64) 65500 && (Nat.beq e 0 || (List.range e).all λl=>chke f e l B (bif Nat.ble l 1 then 2 else A+(d-e+1)*B))
inductive SV:List Int->List Int->Prop
 | one (a:Int):SV [a] [a]
 | step (a:Int) (r t:List Int):SV r t->SV (a::r) (a::t)
 | skip (a u w:Int) (r t:List Int):(a=1\/a=-1)->(-1<=u/\u<=1)->(-1<=w/\w<=1)->SV (-a::r) (-a::t)->SV (a::u::-a::r) (a::w::-a::t)
theorem Zpx{s:Int×Int}{a u:Int}(e:a=1\/a=-1)(g:-1<=u/\u<=1):Ng (Ng (Ng s a) u) (-a)=Ng (Ng s a) (-a):=by obtain⟨n,l⟩:=s;have d:u=-1\/u=0\/u=1:=O;rcases e with rfl|rfl<;>rcases d with rfl|rfl|rfl<;>simp [Ng]
theorem SV.fold(h:SV a b):∀s,a.foldl Ng s=b.foldl Ng s:=by
 induction h with
 | one a=>intro s;rfl
 | step a r t _ d=>intro s;exact d (Ng s a)
 | skip a u w r t e g j _ d=>
  intro s;show(r.foldl Ng (Ng (Ng (Ng s a) u) (-a)))=(t.foldl Ng (Ng (Ng (Ng s a) w) (-a)));rw [Zpx e g,Zpx e j];exact d (Ng s a)
def SV.chg(h:SV a b):chg a=chg b:=aH Prod.fst (h.fold (0,0))
def Ep(x:Rat):Int:=if x<0 then -1 else if x=0 then 0 else 1
theorem Yic{x:Rat}:-1<=Ep x/\Ep x<=1:=by unfold Ep;split;decide;split<;>decide
theorem Zae{x:Rat}(h:0<x):Ep x=1:=by unfold Ep;rw [aD O4,aD O4]
theorem Zaf{x:Rat}(h:x<0):Ep x=-1:=by unfold Ep;rw [aG h]
def Big(η x:Rat)(f:Rat->Rat):Prop:=η<f x\/f x < -η
def Tri(η x:Rat):(Rat->Rat)->List (Rat->Rat)->Prop
 | _,[]=>True
 | _,[g]=>Big η x g
 | f,g::k::r=>(Big η x g/\Tri η x g (k::r))\/(Big η x k/\f x*k x<0/\Tri η x k r)
def Near(η x y:Rat)(f:Rat->Rat):Prop:=f x-f y<=η/\f y-f x<=η
theorem Ztd{x y:Rat}(e:0<=η)(h:Big η x f)(d:Near η x y f):Ep (f x)=Ep (f y)/\(Ep (f x)=1\/Ep (f x)=-1):=by
 obtain⟨g,j⟩:=d;rcases h with h|h
 .rw [Zae O4,Zae O4];exact⟨rfl,.inl rfl⟩
 .rw [Zaf O4,Zaf O4];exact⟨rfl,.inr rfl⟩
theorem opp_sg{a b:Rat}(h:a*b<0):Ep b=- Ep a:=by
 rcases(show a<0\/a=0\/0<a by grind)with e|e|e
 .rw [Zaf e,Zae (by
   rcases(show b<=0\/0<b by grind)with d|d
   .have:=aL (a:=-a) (b:=-b) O4 O4;grind
   .exact d)];rfl
 .subst e;grind
 .rw [Zae e,Zaf (by
   rcases(show 0<=b\/b<0 by grind)with d|d
   .have:=aL (a:=a) (b:=b) O4 d;grind
   .exact d)]
theorem Zp7{η x y:Rat}(h:0<=η):∀(n:Nat) (f:Rat->Rat) (fs:List (Rat->Rat)),fs.length<=n->Big η x f->(∀g∈f::fs,Near η x y g)->Tri η x f fs->
  SV ((f::fs).map λg=>Ep (g x)) ((f::fs).map λg=>Ep (g y))
 | _,f,[],_,v,d,_=>by have:=(Ztd h v (d f (bT ..))).1;simp only [bZ,gD,this];exact SV.one _
 | 0,f,g::r,w,_,_,_=>absurd w O7
 | n+1,f,[g],w,v,d,o=>by have u:=(Ztd h v (d f (bT ..))).1;have e:=Zp7 h n g [] O7 o (λk q=>d k (bH _ q)) aA;rw [bZ,bZ,u];exact SV.step _ _ _ e
 | n+1,f,g::k::r,w,v,d,o=>by
  have u:=Ztd h v (d f (bT ..));rcases o with⟨G,o⟩|⟨q,I,o⟩
  .have e:=Zp7 h n g (k::r) (by simp at w ⊢;omega) G (λk q=>d k (bH _ q)) o;rw [bZ (l:=g::k::r),bZ (l:=g::k::r),u.1];exact SV.step _ _ _ e
  .have e:=Zp7 h n k r (by simp at w ⊢;omega) q (λj H=>d j (bH _ (bH _ H))) o;have B:=(Ztd h q (d k O7)).1;have D:=opp_sg I;rw [bZ (l:=r),bZ (l:=r)]at e;simp only [bZ];rw [<-B]at e ⊢;rw [D]at e ⊢;rw [<-u.1];exact SV.skip _ _ _ _ _ u.2 Yic Yic e
structure Lnk (η x:Rat) (f g k:Rat->Rat):Prop where
 big:¬Big η x g->Big η x k
 opp:¬Big η x g->f x*k x<0
def Lnks(η x:Rat):(Rat->Rat)->List (Rat->Rat)->Prop
 | _,[]=>True
 | _,[g]=>Big η x g
 | f,g::k::r=>Lnk η x f g k/\Lnks η x g (k::r)
theorem Zmq{η x:Rat} : ∀(n:Nat) (f:Rat->Rat) (fs:List (Rat->Rat)),fs.length<=n->Lnks η x f fs->Tri η x f fs
 | _,f,[],_,_=>trivial
 | 0,f,g::r,e,_=>absurd e O7
 | n+1,f,[g],_,h=>h
 | n+1,f,[g,k],e,h=>by
  by_cases d:Big η x g
  .exact .inl ⟨d,h.2⟩
  .exact .inr ⟨h.1.big d,h.1.opp d,aA⟩
 | n+1,f,g::k::j::r,e,h=>by
  by_cases d:Big η x g
  .exact .inl ⟨d,Zmq n g (k::j::r) (by simp at e ⊢;omega) h.2⟩
  .exact .inr ⟨h.1.big d,h.1.opp d,Zmq n k (j::r) (by simp at e ⊢;omega) h.2.2⟩
def Rl3(s t:Rat)(f g k:Rat->Rat):Prop:=∃m n Q:Rat,0<m/\0<n/\0<Q/\∀x,s<=x->x<=t->∃q,-Q<=q/\q<=Q/\m*f x=q*g x-n*k x
def Rl2(s t:Rat)(f g:Rat->Rat):Prop:=∃m Q:Rat,0<m/\0<Q/\∀x,s<=x->x<=t->∃q,-Q<=q/\q<=Q/\m*f x=q*g x
def Rls(s t:Rat):(Rat->Rat)->List (Rat->Rat)->Prop
 | _,[]=>True
 | f,[g]=>Rl2 s t f g
 | f,g::k::r=>Rl3 s t f g k/\Rls s t g (k::r)
theorem Zcm{q Q g e:Rat}(h:-Q<=q)(j:q<=Q)(k:-e<=g)(l:g<=e)(n:0<=Q):q*g<=Q*e/\-(Q*e)<=q*g:=by have a:=aL (a:=Q-q) (b:=e+g) O4 O4;have b:=aL (a:=Q+q) (b:=e-g) O4 O4;have c:=aL (a:=Q-q) (b:=e-g) O4 O4;have d:=aL (a:=Q+q) (b:=e+g) O4 O4;constructor<;>grind
theorem Zeg{x:Rat}{g:Rat->Rat}(h:¬Big η x g):-η<=g x/\g x<=η:=by unfold Big at h;constructor<;>grind
theorem Zzp{x:Rat}{g:Rat->Rat}(h:η<=ε)(d:Big ε x g):Big η x g:=by unfold Big at *;grind
theorem Gh{a b:Rat}(h:0<ε)(j:0<a)(k:0<b):∃e:Rat,0<e/\e<=ε/\e*a<=b:=by
 have g:0<b*a⁻¹:=bC k (gK.2 j);have l:b*a⁻¹*a=b:=O4;rcases(show ε<=b*a⁻¹\/b*a⁻¹<=ε by grind)with d|d
 .exact⟨ε,h,O4,by have:=dP d (show 0<=a by grind);grind⟩
 .exact⟨b*a⁻¹,g,d,O4⟩
theorem pair3{g k:Rat->Rat}(h:Rl3 s t f g k)(G:0<ε)(R:∀x,s<=x->x<=t->Big ε x f\/Big ε x g) :
  ∃e,0<e/\(∀x,s<=x->x<=t->Big e x g\/Big e x k)/\∀η,0<η->η<=e->∀x,s<=x->x<=t->Lnk η x f g k:=by
 obtain⟨m,n,Q,B,P,hQ,S⟩:=h;obtain⟨e,D,e2,e3⟩:=Gh G (show 0<Q+n by grind) (Rat.mul_pos B G);have l:∀η,0<η->η<=e->∀x,s<=x->x<=t->¬Big η x g->Big η x k/\f x*k x<0:=λη r u x hs j d=>by
  obtain⟨q,V,W,q3⟩:=S x hs j;obtain⟨M,N⟩:=Zeg d;obtain⟨p1,p2⟩:=Zcm V W M N O4;have w:Big ε x f:=(R x hs j).resolve_right λh=>d (Zzp O4 h);have Z:η*(Q+n)<=m*ε:=by have:=dP u (show 0<=Q+n by grind);grind
  have c2:0<η*n:=bC r P;rcases w with w|w
  .have H:m*ε<m*f x:=by have:=bC B (show 0<f x-ε by grind);grind
   have I:n*k x < - (n*η):=O4;have v:k x < -η:=by
    rcases(show k x < -η\/-η<=k x by grind)with o|o
    .exact o
    .have:=aL (a:=n) (b:=k x+η) O4 O4;grind
   refine⟨.inr v,?_⟩;have:=bC (a:=f x) (b:=- k x) O4 O4;grind
  .have H:m*f x < - (m*ε):=by have:=bC B (show 0 < -ε-f x by grind);grind
   have I:n*η<n*k x:=O4;have v:η<k x:=by
    rcases(show η<k x\/k x<=η by grind)with o|o
    .exact o
    .have:=aL (a:=n) (b:=η-k x) O4 O4;grind
   refine⟨.inl v,?_⟩;have:=bC (a:=- f x) (b:=k x) O4 O4;grind
 refine⟨e,D,λx hs j=>?_,λη r u x hs j=>⟨λd=>(l η r u x hs j d).1,λd=>(l η r u x hs j d).2⟩⟩;by_cases d:Big e x g
 .exact .inl d
 .exact .inr (l e D O4 x hs j d).1
theorem pair2{g:Rat->Rat}(h:Rl2 s t f g)(l:0<ε)(B:∀x,s<=x->x<=t->Big ε x f\/Big ε x g) :
  ∃e,0<e/\∀η,0<η->η<=e->∀x,s<=x->x<=t->Big η x g:=by
 obtain⟨m,Q,k,w,D⟩:=h;obtain⟨e,o,M,N⟩:=Gh l w (bC k l);refine⟨e,o,λη P v x hs n=>?_⟩;by_cases j:Big η x g
 .exact j
 .exfalso;obtain⟨q,G,H,V⟩:=D x hs n;obtain⟨r,u⟩:=Zeg j;obtain⟨R,S⟩:=Zcm G H r u O4;have d:Big ε x f:=(B x hs n).resolve_right λh=>j (Zzp O4 h);have I:η*Q<=m*ε:=by have:=dP v (show 0<=Q by grind);grind
  rcases d with d|d
  .have:=bC k (show 0<f x-ε by grind);grind
  .have:=bC k (show 0 < -ε-f x by grind);grind
theorem Zvm{s t:Rat} : ∀(n:Nat) (f:Rat->Rat) (fs:List (Rat->Rat)) (ε:Rat),fs.length<=n->Rls s t f fs->0<ε->(∀g r,fs=g::r->∀x,s<=x->x<=t->Big ε x f\/Big ε x g)->
  ∃e,0<e/\∀η,0<η->η<=e->∀x,s<=x->x<=t->Lnks η x f fs
 | _,f,[],ε,_,_,l,_=>⟨ε,l,λ_ _ _ _ _ _=>trivial⟩
 | 0,f,g::r,ε,hl,_,_,_=>absurd hl O7
 | n+1,f,[g],ε,_,h,l,B=>pair2 h l (B g [] rfl)
 | n+1,f,g::k::r,ε,hl,h,l,B=>by
  obtain⟨e,D,H,G⟩:=pair3 h.1 l (B g (k::r) rfl);obtain⟨u,v,j⟩:=Zvm n g (k::r) e (by simp at hl ⊢;omega) h.2 D (λM N w=>by injection w with d q;subst d;exact H)
  rcases(show e<=u\/u<=e by grind)with I|I
  .exact⟨e,D,λη d q x hs o=>⟨G η d q x hs o,j η d O4 x hs o⟩⟩
  .exact⟨u,v,λη d q x hs o=>⟨G η d O4 x hs o,j η d q x hs o⟩⟩
def Lip(s t L:Rat)(f:Rat->Rat):Prop:=∀x y,s<=x->x<=y->y<=t->f x-f y<=L*(y-x)/\f y-f x<=L*(y-x)
def vat(fs:List (Rat->Rat))(x:Rat):Int:=chg (fs.map λg=>Ep (g x))
theorem Yos{L:Rat}(v:0<L)(D:∀g∈f::fs,Lip s t L g)(n:0<δ)(l:∀x,s<=x->x<=t->Big δ x f)(G:Rls s t f fs) :
  ∃h,0<h/\∀x y,s<=x->x<=y->y<=t->y-x<=h->vat (f::fs) x=vat (f::fs) y:=by
 obtain⟨e,o,q⟩:=Zvm fs.length f fs δ (aI _) G n (λg r _ x hs H=> .inl (l x hs H));obtain⟨η,k,P,Q⟩:=Gh n (show(0:Rat)<1 by decide) o;obtain⟨h,u,M,N⟩:=Gh k v k;refine⟨h,u,λx y d j I B=>SV.chg ?_⟩;refine Zp7 O4 fs.length f fs (aI _) (Zzp O4 (l x d O4)) (λg w=>?_) (Zmq _ _ _ (aI _) (q η k O4 x d O4));obtain⟨a,b⟩:=D g w x y d j I;have:=dP B (show 0<=L by grind);exact⟨O4,O4⟩
theorem Yea{L:Rat}(D:0<L)(I:∀g∈f::fs,Lip s t L g)(H:0<δ)(G:∀x,s<=x->x<=t->Big δ x f)(N:Rls s t f fs)(o:s<=t) :
  vat (f::fs) s=vat (f::fs) t:=by
 obtain⟨h,w,r⟩:=Yos D I H G N;have q:∀n:Nat,∀y,s<=y->y<=t->y-s<=(n:Rat)*h->vat (f::fs) s=vat (f::fs) y:=λn=>by
  induction n with
  | zero=>
    intro y d e j;have:y=s:=by simp at j;grind
    rw [this]
  | succ n v=>
   intro y d e j;have u:((n+1:Nat):Rat)*h=(n:Rat)*h+h:=by push_cast;grind
   rcases(show y-s<=(n:Rat)*h\/(n:Rat)*h<y-s by grind)with k|k
   .exact v y d e k
   .have B:(0:Rat)<=(n:Rat)*h:=aL (by exact_mod_cast bD n) O4;rcases(show s<=y-h\/y-h<s by grind)with l|l
    .rw [v (y-h) l O4 O4];exact r (y-h) y l O4 e O4
    .exact r s y O4 d e O4
 have d:∃n:Nat,t-s<=(n:Rat)*h:=by
  have e:0<h⁻¹:=gK.2 w;refine⟨((t-s)*h⁻¹).ceil.toNat,?_⟩;have j:=@oO ((t-s)*h⁻¹);have u:((((t-s)*h⁻¹).ceil:Int):Rat)<=((((t-s)*h⁻¹).ceil.toNat:Nat):Rat):=by have:((t-s)*h⁻¹).ceil<=((((t-s)*h⁻¹).ceil.toNat:Nat):Int):=mD _;exact_mod_cast this
  have k:=dP (mQ j u) (show 0<=h by grind);have B:(t-s)*h⁻¹*h=t-s:=O4;grind
 obtain⟨n,M⟩:=d;exact q n t o O4 M
def Zf:List Int->Rat->Rat
 | [],_=>0
 | c::p,x=>(c:Rat)+x*Zf p x
theorem Yq8(s t:Rat):∃K:Rat,0<K/\∀x,s<=x->x<=t->-K<=x/\x<=K:=by
 rcases(show(0<=s\/s<0) by grind)with h|h<;>rcases(show(0<=t\/t<0) by grind)with d|d
 .exact⟨t+1,O4,λx _ _=>O4⟩
 .exact⟨1,O4,λx _ _=>O4⟩
 .exact⟨t-s+1,O4,λx _ _=>O4⟩
 .exact⟨-s+1,O4,λx _ _=>O4⟩
theorem Zus(s t:Rat):∀p:List Int,∃B:Rat,0<B/\∀x,s<=x->x<=t->-B<=Zf p x/\Zf p x<=B
 | []=>⟨1,O3,λx _ _=>by unfold Zf;grind⟩
 | c::p=>by obtain⟨B,e,g⟩:=Zus s t p;obtain⟨K,o,q⟩:=Yq8 s t;obtain⟨C,r,h⟩:=Yq8 (c:Rat) (c:Rat);have u:=h (c:Rat) O4 O4;refine⟨C+K*B,by have:=bC o e;grind,λx hs d=>?_⟩;obtain⟨j,k⟩:=g x hs d;obtain⟨l,n⟩:=q x hs d;obtain⟨f1,f2⟩:=Zcm l n j k O4;unfold Zf;constructor<;>grind
theorem Bl(s t:Rat):∀p:List Int,∃L:Rat,0<L/\Lip s t L (Zf p)
 | []=>⟨1,O3,λx y _ _ _=>by unfold Zf;constructor<;>grind⟩
 | c::p=>by obtain⟨L,r,u⟩:=Bl s t p;obtain⟨B,D,j⟩:=Zus s t p;obtain⟨K,n,o⟩:=Yq8 s t;refine⟨K*L+B,by have:=bC n r;grind,λx y hs d h=>?_⟩;obtain⟨v,w⟩:=u x y hs d h;obtain⟨G,H⟩:=j y O4 h;obtain⟨k,l⟩:=o x hs O4;obtain⟨f1,f2⟩:=Zcm (q:=x) (g:=Zf p x-Zf p y) (e:=L*(y-x)) k l O4 O4 O4;have I:=aL (a:=B-Zf p y) (b:=y-x) O4 O4;have M:=aL (a:=B+Zf p y) (b:=y-x) O4 O4;unfold Zf;constructor<;>grind
theorem Zly(x:Rat):∀q:List Int,(∀i,cf q i=0)->Zf q x=0
 | [],_=>rfl
 | c::q,h=>by have d:c=0:=h 0;have e:=Zly x q λi=>h (i+1);unfold Zf;rw [e,d];grind
theorem Oy(x:Rat):∀p q:List Int,(∀i,cf p i=cf q i)->Zf p x=Zf q x
 | [],q,h=>by rw [Zly x q λi=>(h i).symm.trans (Yf (bD _))];rfl
 | c::p,[],h=>by rw [Zly x (c::p) λi=>(h i).trans (Yf (bD _))];rfl
 | c::p,d::q,h=>by have e:c=d:=h 0;have g:=Oy x p q λi=>h (i+1);unfold Zf;rw [g,e]
def Mu:List Int->List Int->List Int
 | [],q=>q
 | p,[]=>p
 | a::p,b::q=>(a+b)::Mu p q
theorem Zvy(p:List Int):Mu p []=p:=by cases p<;>rfl
theorem Xp(x:Rat):∀p q:List Int,Zf (Mu p q) x=Zf p x+Zf q x
 | [],q=>by unfold Mu;show Zf q x=0+Zf q x;grind
 | a::p,[]=>by rw [Zvy];show Zf (a::p) x=Zf (a::p) x+0;grind
 | a::p,b::q=>by have h:=Xp x p q;unfold Mu Zf;rw [h];push_cast;grind
theorem Mv:∀(p q:List Int) (i:Nat),cf (Mu p q) i=cf p i+cf q i
 | [],q,i=>by unfold Mu;rw [show cf [] i=0 from Yf (bD _)];omega
 | a::p,[],i=>by rw [Zvy,show cf [] i=0 from Yf (bD _)];omega
 | a::p,b::q,0=>rfl
 | a::p,b::q,i+1=>Mv p q i
theorem Zo(x:Rat)(c:Int):∀p:List Int,Zf (p.map λa=>c*a) x=(c:Rat)*Zf p x
 | []=>by show(0:Rat)=c*0;grind
 | a::p=>by have h:=Zo x c p;simp only [bZ];unfold Zf;rw [h];push_cast;grind
theorem Qq(c:Int):∀(p:List Int) (i:Nat),cf (p.map λa=>c*a) i=c*cf p i
 | [],i=>by simp [cf]
 | a::p,0=>rfl
 | a::p,i+1=>Qq c p i
def lmul:List Int->List Int->List Int
 | [],_=>[]
 | c::p,q=>Mu (q.map λa=>c*a) (0::lmul p q)
theorem Yc(x:Rat):∀p q:List Int,Zf (lmul p q) x=Zf p x*Zf q x
 | [],q=>by show(0:Rat)=0*Zf q x;grind
 | c::p,q=>by have h:=Yc x p q;unfold lmul;rw [Xp,Zo];show(c:Rat)*Zf q x+(((0:Int):Rat)+x*Zf (lmul p q) x)=((c:Rat)+x*Zf p x)*Zf q x;rw [h];grind
theorem Di:∀(p q:List Int) (i:Nat),cf (lmul p q) i=Ye (λk=>cf p k*cf q (i-k)) (i+1)
 | [],q,i=>by rw [show cf (lmul [] q) i=0 from Yf (bD _)];exact(Gl λk _=>by rw [show cf [] k=0 from Yf (bD _),cM]).symm
 | c::p,q,0=>by unfold lmul;rw [Mv,Qq,Yk,Ga];show c*cf q 0+0=0+c*cf q 0;omega
 | c::p,q,i+1=>by have h:=Di p q i;unfold lmul;rw [Mv,Qq,My];show c*cf q (i+1)+cf (lmul p q) i=c*cf q (i+1)+_;rw [h];congr 1;refine Xd λk d=>?_;show cf p k*cf q (i-k)=cf p k*cf q (i+1-(k+1));rw [show i+1-(k+1)=i-k by omega]
theorem Ci (a:Int)(c:Int)(x:List Int)(s:List Int)(y:List Int)(z:List Int)(h:∀t,a*cf x t=(ps s*ps y).c t-c*cf z t)(q:Rat):(a:Rat)*Zf x q=Zf s q*Zf y q-(c:Rat)*Zf z q:=by
 have d:∀t,cf (Mu (x.map λb=>a*b) (z.map λb=>c*b)) t=cf (lmul s y) t:=λt=>by rw [Mv,Qq,Qq,Di,h t,PS.mul_c];show Ye (λk=>cf s k*cf y (t-k)) (t+1)-c*cf z t+c*cf z t=_;omega
 have e:=Oy q _ _ d;rw [Xp,Zo,Zo,Yc]at e;grind
theorem Yex(G:Tr x)(r:Tr y)(h:y≠[])(P:y.length<=x.length):Rl3 s t (Zf x) (Zf y) (Zf (Ma x y)):=by
 have S:=aF.2 h;obtain⟨r1,r2,k,u,N⟩:=Zb5 r h x.length x G O;have hs:=Zd4 x.length G r h P O;have o:Tr (Zfk (Gu x.length x y)):=Qk;obtain⟨m,n,Q,R,D⟩:=Zfj o;rw [hs]at D;have M:0<Fp y^k:=kV (Zgk r h);obtain⟨B,H,v⟩:=Zus s t u;have l:(0:Rat)<(m:Rat):=by exact_mod_cast Q
 have d:(0:Rat)<(n:Rat):=by exact_mod_cast R
 have j:(0:Rat)<((Fp y^k:Int):Rat):=by exact_mod_cast M
 refine⟨(n:Rat)*((Fp y^k:Int):Rat),(m:Rat),(n:Rat)*B,bC d j,l,bC d H,λq e g=>⟨(n:Rat)*Zf u q,?_,?_,?_⟩⟩
 .have:=aL (a:=(n:Rat)) (b:=Zf u q+B) O4 (by have:=v q e g;grind);grind
 .have:=aL (a:=(n:Rat)) (b:=B-Zf u q) O4 (by have:=v q e g;grind);grind
 .have I:=Ci (Fp y^k) (-1) x u y (Gu x.length x y) (λt=>by rw [N t];omega) q;have w:Zf ((Ma x y).map λb=>m*b) q=Zf ((Gu x.length x y).map λb=>(-n)*b) q:=Oy q _ _ λi=>by rw [Qq,Qq,D i,Cl,kG,oM]
  rw [Zo,Zo]at w;push_cast at I w ⊢;grind
theorem rl2_of{g:Rat->Rat}(h:Rl3 s t f g (Zf [])):Rl2 s t f g:=by obtain⟨m,n,Q,k,v,j,l⟩:=h;refine⟨m,Q,k,j,λx d e=>?_⟩;obtain⟨q,o,r,u⟩:=l x d e;refine⟨q,o,r,?_⟩;have:Zf [] x=0:=rfl;rw [this]at u;grind
theorem Zo4 (s:Rat)(t:Rat) : ∀(f:Nat) (a b:List Int),Tr a->Tr b->cok f a b->∃r,Mc f a b=a::r/\Rls s t (Zf a) (r.map Zf)/\(b=[]->r=[])/\(b≠[]->∃o,r=b::o):=λf=>by
 induction f with
 | zero=>
  intro a b j k h;have d:b=[]:=h;subst d;exact⟨[],rfl,aA,λ_=>rfl,λh=>absurd rfl h⟩
 | succ f D=>
  intro a b j k h;by_cases d:b=[]
  .subst d;exact⟨[],Du _ _,aA,λ_=>rfl,λh=>absurd rfl h⟩
  .obtain⟨g,H,G,l,B,hs⟩:=Zhk h d;obtain rfl:f=g:=O;obtain⟨r,q,u,v,w⟩:=D b (Ma a b) k (Zcv j) B;have e:=Yex (s:=s) (t:=t) j k d l;refine⟨b::r,by rw [hs,q],?_,λh=>absurd h d,λ_=>⟨r,rfl⟩⟩;by_cases n:Ma a b=[]
   .rw [v n];rw [n]at e;exact rl2_of e
   .obtain⟨o,rfl⟩:=w n;exact⟨e,u⟩
theorem Zvn{L M:Rat}(h:L<=M)(j:Lip s t L f):Lip s t M f:=λx y d e g=>by obtain⟨a,b⟩:=j x y d e g;have:=dP h (show 0<=y-x by grind);constructor<;>grind
theorem Ybx(s t:Rat):∀ls:List (List Int),∃L:Rat,0<L/\∀g∈ls.map Zf,Lip s t L g
 | []=>⟨1,O3,λg d=>by cases d⟩
 | p::ls=>by
  obtain⟨L,j,e⟩:=Ybx s t ls;obtain⟨M,k,h⟩:=Bl s t p;refine⟨L+M,O4,λg d=>?_⟩;rw [bZ]at d;rcases bE.1 d with rfl|d
  .exact Zvn O4 h
  .exact Zvn O4 (e g d)
theorem Zge{f:Nat}(k:Tr a)(l:Tr b)(n:cok f a b)(d:s<=t)(o:0<δ)(j:∀x,s<=x->x<=t->Big δ x (Zf a)) :
  vat ((Mc f a b).map Zf) s=vat ((Mc f a b).map Zf) t:=by
 obtain⟨r,g,h,_,_⟩:=Zo4 s t f a b k l n;obtain⟨L,q,e⟩:=Ybx s t (Mc f a b);rw [g]at e ⊢;exact Yea q e o j h d
theorem Zup(x:Rat)(l:Int):∀p:List Int,Zf (p ++ [l]) x=Zf p x+(l:Rat)*x^p.length
 | []=>by show(l:Rat)+x*0=0+l*x^0;rw [eP];grind
 | c::p=>by have h:=Zup x l p;rw [iO,dV,dY];unfold Zf;rw [h];grind
def alt:List Int->List Int
 | []=>[]
 | c::p=>c::(alt p).map λa=>-1*a
theorem Yjs(c:Int)(p:List Int)(X Y:Int)(h:p≠[]):pev (c::p) X Y=c*Y^p.length+X*pev p X Y:=by
 have d:=aF.2 h;unfold pev;rw [dV,My,<-Ny];congr 1
 .show c*(X^0*Y^(p.length+1-1-0))=_;rw [cL,eX,show p.length+1-1-0=p.length by omega]
 .refine Xd λi hi=>?_;show cf p i*(X^(i+1)*Y^(p.length+1-1-(i+1)))=X*(cf p i*(X^i*Y^(p.length-1-i)));rw [show p.length+1-1-(i+1)=p.length-1-i by omega,dD];grind
theorem Ybi{X Y:Int}(e:0<Y):∀p:List Int,((pev p X Y:Int):Rat)=Zf p ((X:Rat)/(Y:Rat))*(Y:Rat)^(p.length-1)
 | []=>by show(0:Rat)=0*_;grind
 | [c]=>by
  have:pev [c] X Y=c:=by unfold pev;show 0+c*(X^0*Y^0)=c;rw [cL,cL];omega
  rw [this];show(c:Rat)=(c+X/Y*0)*(Y:Rat)^0;rw [eP];grind
 | c::d::p=>by
  have h:=Ybi (X:=X) e (d::p);rw [Yjs c (d::p) X Y O7];have g:(Y:Rat)≠0:=by
    have:(0:Rat)<(Y:Rat):=by exact_mod_cast e
    grind
  push_cast;rw [h];show(c:Rat)*(Y:Rat)^(p.length+1)+X*(Zf (d::p) (X/Y)*(Y:Rat)^(p.length+1-1))=((c:Rat)+X/Y*Zf (d::p) (X/Y))*(Y:Rat)^(p.length+1+1-1);rw [show p.length+1-1=p.length by omega,show p.length+1+1-1=p.length+1 by omega,dY];generalize Zf (d::p) (X/Y)=R;generalize (Y:Rat)^p.length=P;have:(X:Rat)/Y*Y=X:=O4;grind
theorem Yhs{z:Int}{r q:Rat}(j:0<q)(h:(z:Rat)=r*q):z.sign=Ep r:=by
 rcases(show r<0\/r=0\/0<r by grind)with d|d|d
 .rw [Zaf d];have:=bC (a:=-r) (b:=q) O4 j;have e:(z:Rat)<0:=O4;have g:z<0:=by exact_mod_cast e
  exact fA g
 .subst d;have e:(z:Rat)=0:=O4;have g:z=0:=by exact_mod_cast e
  subst g;rfl
 .rw [Zae d];have:=bC d j;have e:(0:Rat)<z:=O4;have g:0<z:=by exact_mod_cast e
  exact fT g
theorem Zeo{X:Int}(d:0<Y)(p:List Int):Cj X Y p=Ep (Zf p ((X:Rat)/(Y:Rat))):=by
 have:(0:Rat)<(Y:Rat):=by exact_mod_cast d
 exact Yhs (Rat.pow_pos this) (Ybi d p)
theorem Ypl(n:Tr xs)(j:xs≠[])(h:eok F (gA (Xa xs) (Yy (Xa xs))) (gB (Xa xs) (Yy (Xa xs)))):∃g:List Int,∀x,Zf xs x=Zf (sqf F xs) x*Zf g x:=by
 obtain⟨f1,f2,f3,f4,f5,f6⟩:=Ou F n j h;have e:∃k:Int,∀i,cf xs i=k*cf (Xa xs) i:=by
  unfold Xa Lv;split
  .refine⟨-Ys xs,λi=>?_⟩;rw [Yl,<-Gp xs i];grind
  .refine⟨Ys xs,λi=>?_⟩;rw [<-Gp xs i];grind
 obtain⟨k,e⟩:=e;refine⟨(Nc F (Xa xs) (Yy (Xa xs))).map λa=>k*a,λx=>?_⟩;have l:Zf (Xa xs) x=Zf (sqf F xs) x*Zf (Nc F (Xa xs) (Yy (Xa xs))) x:=by
  have:=Ci 1 0 (Xa xs) (sqf F xs) (Nc F (Xa xs) (Yy (Xa xs))) [] (λt=>by have d:=Hs (sqf F xs) (Nc F (Xa xs) (Yy (Xa xs))) t;rw [<-f4]at d;rw [d];omega) x
  push_cast at this;grind
 have d:Zf xs x=Zf ((Xa xs).map λa=>k*a) x:=Oy x _ _ λi=>by rw [Qq];exact e i
 rw [d,Zo,Zo,l];grind
theorem Yoc{x:Rat}{f:List Int->Int}(h:∀p∈ls,Ep (Zf p x)=f p):vat (ls.map Zf) x=chg (ls.map f):=by unfold vat;rw [lF];exact aH chg (kZ λp d=>h p d)
def Yr0{X:Int}(d:0<Y):cnt F xs X Y=vat ((chn F xs).map Zf) ((X:Rat)/(Y:Rat)):=
 (Yoc λp _=>(Zeo d p).symm).symm
end Go.Sky

