/- Rules, arithmetic and contracts: part 5. No conditions but those that each theorem names. -/
import Derived.Test.YteikicbnfbgpnaaGreatDd03
import Derived.Scope
set_option linter.all false
namespace Go.Sky
variable{a b p x y xs:List Int}{F i:Nat}{s:Int}{ls:List (SL×List Int)}
def Psim(a b:List Int):Prop:=∃m n:Int,0<m/\0<n/\∀i,m*cf a i=n*cf b i
def Psim.refl(a:List Int):Psim a a:=⟨1,1,O3,O3,λ_=>rfl⟩
def Psim.symm : Psim a b->Psim b a:=λ⟨m,n,c,d,h⟩=>⟨n,m,d,c,λi=>(h i).symm⟩
theorem Psim.trans{c:List Int} : Psim a b->Psim b c->Psim a c:=λ⟨m,n,d,e,h⟩ ⟨u,v,f,g,k⟩=>
 ⟨m*u,n*v,iA d f,iA e g,λi=>by have j:=h i;have l:=k i;grind⟩
def Psim.sim : Psim a b->Sim a b:=λ⟨m,n,c,d,h⟩=>⟨m,n,O,O,h⟩
theorem Ze9(h:Tr p):Psim (Zx p) p:=by
 by_cases c:p=[]
 .subst c;exact Psim.refl _
 .exact⟨Ys p,1,by have:=Nk p;have:=Ch h c;omega,O3,λi=>by rw [eQ,cQ];exact Fn p i⟩
theorem Zld(f:Tr a)(g:Tr b)(h:Psim a b):Zx a=Zx b:=by
 by_cases c:a=[]
 .rw [h.sim.nil g c,c]
 .have j:b≠[]:=λe=>c (h.sim.symm.nil f e);obtain⟨m,n,w,B,e⟩:=(Ze9 f).trans (h.trans (Ze9 g).symm);have q:=Yv f;have v:=Yv g;have hs:Sim (Zx a) (Zx b):=⟨m,n,O,O,e⟩;have d:Zx a≠[]:=λe=>c (aC (by rw [<-Zw,e];rfl));rcases Zkp q v d (Kj f c) (Kj g j) hs with k|k
  .exact k
  .exfalso;have o:=q.mem d;have l:=e ((Zx a).length-1);have r:=k ((Zx a).length-1);rw [r]at l o;generalize cf (Zx b) ((Zx a).length-1)=z at l o;rw [jZ]at l;have t:(m+n)*z=0:=by rw [lZ];omega
   rcases eJ.1 t with u|u<;>omega
def Fd(y:List Int):Int:=if cf y (y.length-1)<0 then-cf y (y.length-1)else cf y (y.length-1)
def rb(x y:List Int):Int:=if cf y (y.length-1)<0 then-cf x (x.length-1)else cf x (x.length-1)
def Gq(x y:List Int):List Int:=Dc (Zs x (Fd y)) (shm y (rb x y) (x.length-y.length) y.length)
def Gm:Nat->List Int->List Int->List Int
 | 0,x,_=>x
 | f+1,x,y=>if x.length<y.length then x else Gm f (Gq x y) y
theorem Zgm(e:Tr x)(f:0<y.length)(d:y.length<=x.length):(Gq x y).length<x.length:=by
 have h:=Zbm (p:=Gq x y) (n:=x.length-1) λi hi=>by
  unfold Gq;rw [Ix,Yk,Zrn];by_cases c:i=x.length-1
  .subst c;rw [aF O,show x.length-1-(x.length-y.length)=y.length-1 by omega];unfold Fd rb;split
   .grind
   .grind
  .rw [Yg (p:=x) O,aD O];omega
 rw [show tzl (Gq x y)=Gq x y from Zak (Ap _ _)]at h;omega
theorem Ygb(x:List Int)(t:Nat):Fd y*cf x t=(ps (mono (x.length-y.length) (rb x y))*ps y).c t+cf (Gq x y) t:=by
 unfold Gq;rw [Zln,Ix,Yk,Zrn,Ol];by_cases c:x.length-y.length<=t
 .rw [aF c];by_cases d:t<x.length-y.length+y.length
  .rw [aF ⟨c,d⟩,cQ (cf x t)];omega
  .rw [aD O,Yg (p:=y) O,cQ (cf x t)];omega
 .rw [aD c,aD O,cQ (cf x t)];omega
theorem Zf5(d:Tr y)(c:y≠[]):0<Fd y:=by have:=d.mem c;unfold Fd;split<;>omega
theorem Zbs{y:List Int}(m:Tr y)(d:y≠[]):∀(f:Nat) (x:List Int),Tr x->x.length<y.length+f->Tr (Gm f x y)/\(Gm f x y).length<y.length/\∃(k:Nat) (s:List Int),∀t,Fd y^k*cf x t=(ps s*ps y).c t+cf (Gm f x y) t
 | 0,x,c,e=>⟨c,e,0,[],λt=>by rw [Lu (λt=>Yg (bG _)),cL];unfold Gm;omega⟩
 | f+1,x,c,e=>by
  unfold Gm;by_cases h:x.length<y.length
  .rw [aF h];exact⟨c,h,0,[],λt=>by rw [Lu (λt=>Yg (bG _)),cL];omega⟩
  .rw [aD h];have n:=Zgm c (aE.2 d) O;obtain⟨g,j,k,s,hs⟩:=Zbs m d f (Gq x y) (Ap _ _) O;refine⟨g,j,k+1,Dc (Zs s 1) (Zs (mono (x.length-y.length) (rb x y)) (-(Fd y^k))),λt=>?_⟩;have o:=hs t;have l:=Ygb x (y:=y) t;rw [Zgg,dA];generalize Fd y^k=K at *;generalize Fd y=a at *;generalize (ps (mono (x.length-y.length) (rb x y))*ps y).c t=M at *;generalize (ps s*ps y).c t=S at *;generalize cf (Gq x y) t=X at *;generalize cf (Gm f (Gq x y) y) t=Z at *;have:K*a*cf x t=K*(a*cf x t):=O4;rw [this,l];grind
theorem Ztm(l:Int)(h:l≠0):∀n:Nat,(l<0/\n%2=1->l^n<0)/\(¬(l<0/\n%2=1)->0<l^n)
 | 0=>⟨λh=>O,λ_=>by rw [cL];decide⟩
 | n+1=>by
  have e:=Ztm l h n;rw [dA];by_cases d:l<0
  .by_cases f:n%2=1
   .have c:=e.1 ⟨d,f⟩;exact⟨λh=>O,λ_=>Int.mul_pos_of_neg_of_neg c d⟩
   .have c:=e.2 O;exact⟨λ_=>Int.mul_neg_of_pos_of_neg c d,λh=>O⟩
  .have c:=e.2 O;exact⟨λh=>O,λ_=>iA c O⟩
def Zfa(p:List Int):List Int:=Zs p (-1)
theorem Du(p:List Int)(i:Nat):cf (Zfa p) i=- cf p i:=by unfold Zfa;rw [Yk];omega
theorem Zwo(h:Tr p):Zx (Zfa p)=Zfa (Zx p):=by
 have e:Ys (Zfa p)=Ys p:=by
  have c:Ys (Zfa p)∣Ys p:=Fr λi=>by have h:=Ln (Zfa p) i;rw [Du]at h;exact mA.1 h
  have d:Ys p∣Ys (Zfa p):=Fr λi=>by rw [Du];exact mA.2 (Ln p i)
  exact Int.dvd_antisymm (Nk _) (Nk _) c d
 refine(Yv (Qe _ _)).ext (Qe _ _) λi=>?_;show cf (Zx (Zfa p)) i=cf (Zfa (Zx p)) i;rw [Du,Zbf,Du,e,Zbf];exact Int.neg_ediv_of_dvd (Ln p i)
theorem Zds{f:Nat}(v:Tr x)(n:Tr y)(g:y≠[])(G:y.length<=x.length)(D:x.length<y.length+f):Zx (Zfa (Gm f x y))=Ns x y:=by
 obtain⟨R,Q,k,s,hs⟩:=Zbs n g f x v D;have I:=aE.2 g;obtain⟨M,h⟩:=Zhp (p:=x) I G _ (aH _);have H:∀t,cf (Qk x y (x.length-y.length+1)) t=cf (Xv x y) t:=λt=>by unfold Xv;rw [aD O,Mv]
 have lp:=Pd x g;have j:=Ki (q:=y) v;have c:=n.mem g;have o:0<Fd y^k:=kR (Zf5 n g);have d:=Ztm (cf y (y.length-1)) c (x.length-y.length+1);generalize w:cf y (y.length-1)^(x.length-y.length+1)=L at h d;have B:L≠0:=by rw [<-w];exact Nn c _
 generalize Fd y^k=K at hs o;have l:∀t,(ps (Dc (Zs M K) (Zs s L))*ps y).c t=cf (Dc (Zs (Gm f x y) L) (Zs (Xv x y) K)) t:=λt=>by rw [Zgg,Ix,Yk,Yk,<-H t];have r:=hs t;have N:=h t;generalize cf (Qk x y (x.length-y.length+1)) t=A at *;grind
 have z:=Zz5 n g l λt P=>by rw [Ix,Yk,Yk,Yg (p:=Gm f x y) O,Yg (p:=Xv x y) O];omega
 have e:∀t,L*cf (Gm f x y) t=K*cf (Xv x y) t:=λt=>by have r:=l t;rw [Lu z,Ix,Yk,Yk]at r;grind
 unfold Ns;by_cases m:cf y (y.length-1)<0/\(x.length-y.length+1)%2=1
 .rw [aF m];have u:=d.1 m;exact Zld (Qe _ _) j ⟨-L,K,O,o,λt=>by rw [Du,<-e];grind⟩
 .rw [aD m];have u:=d.2 m;rw [show Zs (Zx (Xv x y)) (-1)=Zfa (Zx (Xv x y))from rfl,<-Zwo j];exact Zld (Qe _ _) (Qe _ _) ⟨L,K,u,o,λt=>by rw [Du,Du,jZ,e,jZ]⟩
theorem Zck(c:Tr x):Tr (Ns x y):=by
 unfold Ns;split
 .exact Yv (Ki c)
 .exact Qe _ _
theorem Bg(c:Tr x):(Ns x y).length=(Xv x y).length:=by
 unfold Ns;have h:Tr (Zx (Xv x y)):=Yv (Ki c);split
 .exact Zw _
 .rw [<-Zw (Xv x y)];exact((Ze4 (Zx (Xv x y)) (by decide:(-1:Int)≠0)).len h (Qe _ _)).symm
theorem Zo9{n:Nat}(h:Sz n p):Sz n (Yz p):=λi=>by
 unfold Yz;rw [El];split
 .rw [dW];exact Ho h i
 .exact Ho h i
theorem Zhy(h:Tr p)(c:p≠[]):Yz p≠[]:=λe=>c (aC (by rw [<-Pm h,e];rfl))
theorem Ag{g:List Int}(h:Tr g)(c:g≠[]):0<cf (Lm g) ((Lm g).length-1):=by have d:=h.mem c;rw [Zb0 h,El];have:g.length≠0:=λe=>c (aC e);split<;>omega
theorem Za2(h:Tr p)(c:p≠[]):Ys (Yz p)=1:=by unfold Yz;rw [Ziw];exact Kj h c
theorem Zwv(h:Tr p)(c:Ys p=1)(d:0<cf p (p.length-1)):Yz p=p:=by unfold Yz;rw [Zf7 c];unfold Lm;rw [aD O]
theorem Ou(v:Tr xs)(w:xs≠[])(D:eok F (gA (Yz xs) (Yx (Yz xs))) (gB (Yz xs) (Yx (Yz xs)))) :
  pdv (Yz xs) (Na F (Yz xs) (Yx (Yz xs)))/\Tr (sqf F xs)/\sqf F xs≠[]/\Yz xs=Qn (sqf F xs) (Na F (Yz xs) (Yx (Yz xs)))/\Na F (Yz xs) (Yx (Yz xs))≠[]/\Yz (sqf F xs)=sqf F xs:=by
 have hs:Tr (Yz xs):=Oy (Yv v);have j:Tr (Yx (Yz xs)):=Ni hs;have n:=Zhy v w;have l:=(Zd1 hs j D).1;have o:=Zdq (F:=F) hs j;have d:Na F (Yz xs) (Yx (Yz xs))≠[]:=λe=>n ((e▸l).zero hs);have M:=Zlh hs j d;obtain⟨k,s,N,h⟩:=l;obtain⟨q,P⟩:=gauss M _ k s rfl N h;have c:Yz xs=Qn (tzl q) (Na F (Yz xs) (Yx (Yz xs))):=hs.ext (Qi _ _) λi=>by rw [Hh,P,Zpw]
 obtain⟨I,R⟩:=Zp4 (Qg q) o d;have g:sqf F xs=tzl q:=by unfold sqf;have r:=R;rw [<-c]at r;exact r
 rw [<-c]at I;have f:tzl q≠[]:=λe=>n (by rw [c,e,Ff]);refine⟨I,by rw [g];exact Qg q,by rw [g];exact f,by rw [g];exact c,d,?_⟩;rw [g];refine Zwv (Qg q) ?_ ?_
 .have z:=Za2 v w;have t:Ys (tzl q)∣Ys (Yz xs):=Fr λi=>by
   rw [c,Hh,PS.mul_c];have G:∀m,Ys (tzl q)∣Yf (λk=>(ps (tzl q)).c k*(ps (Na F (Yz xs) (Yx (Yz xs)))).c (i-k)) m:=λm=>by
    induction m with
    | zero=>exact jN _
    | succ m Q=>rw [Yi];exact Int.dvd_add Q (iB (Ln (tzl q) m) (jC _ _))
   exact G _
  rw [z]at t;have B:=Nk (tzl q);have H:=mG O3 t;have u:Ys (tzl q)≠0:=Ch (Qg q) f;omega
 .have S:=aE.2 f;have V:=aE.2 d;have z:0<cf (Yz xs) ((Yz xs).length-1):=Ag (Yv v) (λe=>w (aC (by rw [<-Zw,e];rfl)));have t:0<cf (Na F (Yz xs) (Yx (Yz xs))) ((Na F (Yz xs) (Yx (Yz xs))).length-1):=Ag (Zmd F (Zil hs j) (Zik hs j)) (λe=>d (by unfold Na;rw [e];rfl));have B:=Ov (Qg q) o f d;rw [<-c]at B;have H:cf (Yz xs) ((Yz xs).length-1)=cf (tzl q) ((tzl q).length-1)*cf (Na F (Yz xs) (Yx (Yz xs))) ((Na F (Yz xs) (Yx (Yz xs))).length-1):=by rw [B,c,Hh,<-c,show(tzl q).length+(Na F (Yz xs) (Yx (Yz xs))).length-1-1=((tzl q).length-1)+((Na F (Yz xs) (Yx (Yz xs))).length-1) by omega];exact Ah (λi hi=>Yg O) (λi hi=>Yg O)
  rw [H]at z;rcases gY 0 (cf (tzl q) ((tzl q).length-1))with u|u
  .exact u
  .exfalso;have:=gN u (eC t);omega
def Od(p:List Int):(Yx p).length=p.length-1:=Yu _ _
theorem Zxm{n:Nat}(c:Sz n p)(g:p.length<=25)(i:Nat):bl (cf p (i+1)*((i:Int)+1)).natAbs<=n+5:=by
 rcases bA (i+1) p.length with h|h
 .have d:=Yq (cf p (i+1)) ((i:Int)+1);have e:=c (i+1);have f:bl ((i:Int)+1).natAbs<=5:=(Qm 5 _).2 O;omega
 .rw [Yg h];simp [Ll]
theorem Zg5(p:List Int)(i:Nat):cf (Yx p) i=cf p (i+1)*((i:Int)+1):=by
 unfold Yx;rw [Nq];split
 .rfl
 .rw [Yg O,cN]
theorem Gp{n:Nat}(d:Sz n p)(c:p.length<=25):Sz (n+5) (Yx p):=λi=>by rw [Zg5];exact Zxm d c i
theorem Zfn(h:Vp p)(c:∀i,i<p.length->bl (cf p (i+1)*((i:Int)+1)).natAbs<=65536):Vp (Yx p):=by
 refine⟨λi=>?_,Ni h.tr,by rw [Od];have:=h.len;omega⟩;rw [Zg5];by_cases hi:i<p.length
 .exact c i hi
 .rw [Yg O];simp [Ll]
def sf_t(h:xs.length=0):Value.bool (decide (Zaw xs))= .bool true:=aI Value.bool (aN (.inl h))
theorem sf_i{n:Int}(h:xs.length≠0)(d:n=(((xs.length+2)*(xs.length+2)*(Xm xs+16):Nat):Int)):Value.bool (decide (Zaw xs))= .bool (decide (n<=65536)):=aI Value.bool (bJ.2 (by
 subst d;show(xs.length=0\/(xs.length+2)*(xs.length+2)*(Xm xs+16)<=65536)↔_;constructor
 .intro c;rcases c with c|c
  .exact absurd c h
  .exact lE.2 c
 .intro c;exact .inr (lE.1 c)))
theorem Ycr(h:(Xv x y).length=0):Ns x y=[]:=by have c:Xv x y=[]:=aC h;unfold Ns;rw [c];split<;>rfl
theorem Ymf(e:y.length<=x.length)(c:(cf y (y.length-1)).sign<0)(d:((x.length:Int)-(y.length:Int)+1)%2=1):Ns x y=Zx (Xv x y):=by unfold Ns;rw [aF ⟨(Pe _).1 c,O⟩]
theorem Zyq(c:¬(cf y (y.length-1)).sign<0):Ns x y=Zs (Zx (Xv x y)) (-1):=by unfold Ns;rw [aD (λh=>c ((Pe _).2 h.1))]
theorem Zyp(d:y.length<=x.length)(c:¬((x.length:Int)-(y.length:Int)+1)%2=1):Ns x y=Zs (Zx (Xv x y)) (-1):=by unfold Ns;rw [aD (λh=>c O)]
theorem Zka(k:Vp xs)(l:xs≠[])(h:Yme F xs):Vp (sqf F xs):=by
 obtain⟨_,_,_,d,c⟩:=h;have j:=Zvw k;unfold sqf Lq;split
 .exact⟨Sz.nil _,Tr.nil,O5⟩
 .rename_i e;rcases c with c|c
  .exact absurd c e
  .have f:=(Zb4 d).2 c.1;refine⟨?_,Qg _,?_⟩
   .rw [<-Zc7];exact(Zyn f c.2.1 _).tzl
   .have g:=Mp (Zc8 (Yz xs) (Na F (Yz xs) (Yx (Yz xs))) ((Yz xs).length-(Na F (Yz xs) (Yx (Yz xs))).length+1));rw [Zc7,Zab]at g;have:=j.len;have:=(Zb4 d).1;omega
theorem Zlv(g:Vp xs)(h:Yme F xs):(sqf F xs).length<=xs.length:=by
 obtain⟨_,_,_,d,c⟩:=h;have j:=Pm g.tr;unfold sqf Lq;split
 .exact bG _
 .rename_i e;rcases c with c|c
  .exact absurd c e
  .have f:=Mp (Zc8 (Yz xs) (Na F (Yz xs) (Yx (Yz xs))) ((Yz xs).length-(Na F (Yz xs) (Yx (Yz xs))).length+1));rw [Zc7,Zab]at f;have:=(Zb4 d).1;have:=c.1;omega
theorem Ybu{L:List Int}{n l:Int}(hi:i<L.length)(h:(n,l)=(L.take i).foldl Nc (0,0))(hs:L.getD i 0=s)(c:s=0):(n,l)=(L.take (i+1)).foldl Nc (0,0):=by rw [Pw 0 L i hi,Zb2,<-h,hs];unfold Nc;rw [aF c]
theorem Ybt{L:List Int}{n l:Int}(hi:i<L.length)(h:(n,l)=(L.take i).foldl Nc (0,0))(hs:L.getD i 0=s)(c:s≠0)(d:s=-l):(n+1,s)=(L.take (i+1)).foldl Nc (0,0):=by rw [Pw 0 L i hi,Zb2,<-h,hs];unfold Nc;rw [aD c];dsimp only;rw [aF d]
theorem Ybs{L:List Int}{n l:Int}(hi:i<L.length)(h:(n,l)=(L.take i).foldl Nc (0,0))(hs:L.getD i 0=s)(c:s≠0)(d:¬s=-l):(n,s)=(L.take (i+1)).foldl Nc (0,0):=by rw [Pw 0 L i hi,Zb2,<-h,hs];unfold Nc;rw [aD c];dsimp only;rw [aD d]
theorem Ypg{L:List Int}{n l:Int}(hi:L.length<=i)(h:(n,l)=(L.take i).foldl Nc (0,0)):n=chg L:=by rw [bL hi]at h;unfold chg;rw [<-h]
theorem Yfy(z:Int):-1<=z.sign/\z.sign<=1:=by
 rcases kE z 0 with h|h|h
 .rw [eV h];omega
 .subst h;simp
 .rw [fJ h];omega
theorem Yh8{α:Type}(d:α)(f:α->Int)(ls:List α)(h:i<ls.length):(ls.map f).getD i 0=f (ls.getD i d):=by simp [aG,h]
def sgx(ls:List (SL×List Int))(f:List Int->Int):List Int:=ls.map λz=>f z.2
def Zsu(ls:List (SL×List Int))(f:List Int->Int)(h:i<ls.length):(sgx ls f).getD i 0=f (ls.getD i ((none,0,0),[])).2:=Yh8 _ _ _ h
def Zlw(ls:List (SL×List Int))(f:List Int->Int):(sgx ls f).length=ls.length:=aP ..
def fr(p:List Int):Int:=(cf p (p.length-1)).sign
def fl(p:List Int):Int:=if p.length%2=0 then-(cf p (p.length-1)).sign else(cf p (p.length-1)).sign
def Ds(x y:Int)(p:List Int):Int:=(pev p x y).sign
def fat_r(x y:Int)(p:List Int):-1<=Ds x y p/\Ds x y p<=1:=Yfy _
theorem Znl:∀(f:Nat) {x y:List Int},Vp x->Vp y->cok f x y->∀p∈Nu f x y,Vp p
 | 0,x,y,d,_,_,p,c=>by rw [bE.1 c];exact d
 | f+1,x,y,d,e,h,p,c=>by
  unfold Nu at c;split at c
  .rw [bE.1 c];exact d
  .rcases h with h|h
   .contradiction
   .rcases bQ.1 c with rfl|c
    .exact d
    .exact Znl f e (Zkb d h.1) h.2.2 p c
theorem Yet(e:Vp xs)(f:xs≠[])(j:Ai F xs):∀p∈chn F xs,Vp p:=by obtain⟨c,g,h⟩:=j;have d:=Zka e f c;exact Znl F d (Lp (Zfn d (λi hi=>g i (by have:=Zlv e c;omega)))) h
def cnt(F:Nat)(xs:List Int)(x y:Int):Int:=chg ((chn F xs).map (Ds x y))
def sright(F:Nat)(xs:List Int):Int:=chg ((chn F xs).map fr)
def sleft(F:Nat)(xs:List Int):Int:=chg ((chn F xs).map fl)
theorem Zys{C:List (List Int)}(h:ls.map Prod.snd=C)(f:List Int->Int):sgx ls f=C.map f:=by rw [<-h,lD];rfl
def Lh{C:List (List Int)}{p:List Int->Prop}(h:ls.map Prod.snd=C)(c:∀q∈C,p q):∀z∈ls,p z.2:=λz d=>c _ (h▸nK d)
theorem Zbe(L:List Int):0<=chg L/\chg L<=L.length:=by
 unfold chg;suffices h:∀(l:List Int) (s:Int×Int),s.1<=(l.foldl Nc s).1/\(l.foldl Nc s).1<=s.1+l.length by have:=h L (0,0);simpa using this
 intro l
 induction l with
 | nil=>intro s;simp
 | cons x l c=>
  intro s;have d:=c (Nc s x);have e:=chg1_n s x;simp only [gQ,dI];omega
theorem Zaq:∀(f:Nat) (x y:List Int),(Nu f x y).length<=f+1
 | 0,x,y=>aH _
 | f+1,x,y=>by
  unfold Nu;split
  .simp
  .have:=Zaq f y (Ns x y);simp;omega
def sm(xs:List Int)(i:Nat):Nat:=(xs.take i).foldl (λm c=>max m c.natAbs) 0
def Zfb{x y:Int}(h:¬Ia x y):Co x y=x/Lv x y/\Ey x y=y/Lv x y/\Ygi x y=0:=⟨aD h,aD h,aD h⟩
theorem nr_bl{x y:Int}(h:¬Ia x y):bl (Co x y).natAbs<=65536/\bl (Ey x y).natAbs<=65536:=by obtain⟨c,d,_⟩:=Zfb h;rw [c,d];unfold Ia at h;omega
theorem Zww{x y:Int}(h:¬Ia x y)(c:0<y):0<Ey x y:=by rw [(Zfb h).2.1];exact Ydr c
abbrev R2:=Int×Int
def Ob(a b:R2):R2:=(Co (Co (a.1*b.2+b.1*a.2) (a.2*b.2)*1) (Ey (a.1*b.2+b.1*a.2) (a.2*b.2)*2),Ey (Co (a.1*b.2+b.1*a.2) (a.2*b.2)*1) (Ey (a.1*b.2+b.1*a.2) (a.2*b.2)*2))
def Zeu(a b:R2):Prop:=¬Ia (a.1*b.2+b.1*a.2) (a.2*b.2)/\¬Ia (Co (a.1*b.2+b.1*a.2) (a.2*b.2)*1) (Ey (a.1*b.2+b.1*a.2) (a.2*b.2)*2)
instance (a b:R2):Decidable (Zeu a b):=by unfold Zeu;infer_instance
def Ydo{a b:R2}(h:Zeu a b):Ygi (Co (a.1*b.2+b.1*a.2) (a.2*b.2)*1) (Ey (a.1*b.2+b.1*a.2) (a.2*b.2)*2)=0:=(Zfb h.2).2.2
def isp(c:R2->Int)(e:Int):Nat->R2->R2->Int->Int->Nat->List (R2×R2)
 | 0,_,_,_,_,_=>[]
 | f+1,a,b,fr,g,d=>if fr=g then []else if fr-g=1/\e<=(d:Int)then [(a,b)]else isp c e f a (Ob a b) fr (c (Ob a b)) (d+1) ++ isp c e f (Ob a b) b (c (Ob a b)) g (d+1)
def Yah(c:R2->Int)(g:R2->Prop)(e:Int):Nat->R2->R2->Int->Int->Nat->Prop
 | 0,_,_,_,_,_=>False
 | f+1,a,b,fr,h,d=>fr=h\/(fr-h=1/\e<=(d:Int))\/(d<1000/\Zeu a b/\g (Ob a b)/\Yah c g e f a (Ob a b) fr (c (Ob a b)) (d+1)/\Yah c g e f (Ob a b) b (c (Ob a b)) h (d+1))
instance ispDec (c:R2->Int) (e:R2->Prop) [DecidablePred e] (g:Int):∀f a b fr h d,Decidable (Yah c e g f a b fr h d)
 | 0,_,_,_,_,_=>inferInstanceAs (Decidable False)
 | f+1,a,b,fr,h,d=>@instDecidableOr _ _ _ (@instDecidableOr _ _ _ (@instDecidableAnd _ _ _ (@instDecidableAnd _ _ _ (@instDecidableAnd _ _ _ (@instDecidableAnd _ _ (ispDec c e g f a (Ob a b) fr (c (Ob a b)) (d+1)) (ispDec c e g f (Ob a b) b (c (Ob a b)) h (d+1)))))))
def okQ(z:R2):Prop:=bl z.1.natAbs<=65536/\bl z.2.natAbs<=65536/\0<z.2
def evok(ls:List (SL×List Int))(m:R2):Prop:=∀z∈ls,¬Kq z.2 m.1 m.2
def cvx(ls:List (SL×List Int))(m:R2):Int:=chg (sgx ls (Ds m.1 m.2))
def cvc(F:Nat)(xs:List Int)(m:R2):Int:=cnt F xs m.1 m.2
def evc(F:Nat)(xs:List Int)(m:R2):Prop:=∀p∈chn F xs,¬Kq p m.1 m.2
def slow(a:R2):R2:=(Co a.1 a.2,Ey a.1 a.2)
def sisol(F:Nat)(xs:List Int)(f:Nat)(a b:R2)(c:Int):List (R2×R2):=isp (cvc F xs) c f (slow a) (slow b) (cvc F xs a) (cvc F xs b) 0
def isOK(F:Nat)(xs:List Int)(f:Nat)(a b:R2)(c:Int):Prop:=Ai F xs/\evc F xs a/\evc F xs b/\¬Ia a.1 a.2/\¬Ia b.1 b.2/\Yah (cvc F xs) (evc F xs) c f (slow a) (slow b) (cvc F xs a) (cvc F xs b) 0/\(sisol F xs f a b c).length<=1000000
open Go.RowKit (Below)
variable {P:Program} {N:Nat} {sc:Nat->Prop} {env env':Pz} {H H':Hp} {Q Q':Exit->Act->World->Prop} {M:Nat->Prop}
def CalM(P:Program)(f:FuncId)(args:Array Value)(pre:List Pc){G:Type}(φ:G->Prop)(Yr:G->Value)(d c:G->Pc):Prop:=
 ∀w,(∀p∈pre,p.holds w)->Calls P f args w λe h=>∃g,e= .returned (Yr g)/\φ g/\Below w.heap.size w h/\(d g).holds h/\(∀b,(d g).fp b->w.heap.size<=b)/\
  (c g).holds h/\(c g).own=false/\(∀b,(c g).fp b->w.heap.size<=b\/∃q∈pre,q.fp b)/\∀b,(d g).fp b->(c g).fp b->False
def FPostM(P:Program)(fn:Func)(w0:World)(pre:List Pc){G:Type}(φ:G->Prop)(Yr:G->Value)(d c:G->Pc):Exit->Act->World->Prop:=
 bodyPost P fn λe f=>∃g,e= .returned (Yr g)/\φ g/\Below w0.heap.size w0 f/\(d g).holds f/\(∀b,(d g).fp b->w0.heap.size<=b)/\
  (c g).holds f/\(c g).own=false/\(∀b,(c g).fp b->w0.heap.size<=b\/∃q∈pre,q.fp b)/\∀b,(d g).fp b->(c g).fp b->False
theorem Zbq{β:Type}{q:β->Pc}{zs ys:List β}(i j n:Nat)(hi:lk H i=some (Me q zs))(l:lk H j=some (Me q ys))(d:Nat.beq i 0=false)(e:Nat.beq j 0=false) :
  ∀a w,Sat N sc env H a w->Sat N sc env ((n,Me q (zs ++ ys))::H) a w:=
 Zwa i j n hi l d e rfl rfl (λw g k y f=>by
  rcases cY.1 f with h|h
  .exact g y h
  .exact k y h) (λb c=>by
  obtain⟨y,f,c⟩:=c;rcases cY.1 f with h|h
  .exact .inl ⟨y,h,c⟩
  .exact .inr ⟨y,h,c⟩) rfl
abbrev qD (z:SL×Nat):Pc:=Ow (Xn z.1) z.2
abbrev JE:=(R2×R2)×(SL×SL×SL×SL)
abbrev encJ (y:JE):Value:= .agg #[.bool (decide (y.1.1.1<0)),Xn y.2.1,.bool (decide (y.1.1.2<0)),Xn y.2.2.1,.bool (decide (y.1.2.1<0)),Xn y.2.2.2.1,.bool (decide (y.1.2.2<0)),Xn y.2.2.2.2]
abbrev qJ (y:JE):Pc:=Me qD [(y.2.1,y.1.1.1.natAbs),(y.2.2.1,y.1.1.2.natAbs),(y.2.2.2.1,y.1.2.1.natAbs),(y.2.2.2.2,y.1.2.2.natAbs)]
abbrev J0:JE:=(((0,0),(0,0)),((none,0,0),(none,0,0),(none,0,0),(none,0,0)))
end Go.Sky
namespace Go.Sky
variable{M M0:Nat->Prop}{o:Oper}{x y:Operand}{t tb:TypeId}{cs:Array Value}{v:Value}{vs:List Value}{zs:List (SL×List Int)}{r:List Pc}{z:SL×List Int}
variable {P:Program} {N:Nat} {sc:Nat->Prop} {env env':Pz} {H H':Hp} {Q Q':Exit->Act->World->Prop}
theorem Zsz(w:World)(g:Nat)(cs:Array Value)(t:TypeId)(fr:Nat×Nat)(a:w.heap[g]? = some (.cells cs t fr)):w.setRow g cs=w:=by
 obtain⟨b,c⟩:=bB.1 a;have h:(w.setRow g cs).heap=w.heap:=by
  apply Array.ext_getElem?;intro i;by_cases h:g=i
  .subst h;rw [setRow_heap w g cs cs t fr a,a]
  .unfold World.setRow;dsimp only;rw [Array.getElem?_modify,aD h]
 have e:w.setRow g cs={ w with heap:=(w.setRow g cs).heap }:=rfl;rw [e,h]
theorem Znu     {i b j k:Nat}    (s:o.op= .store t x y) (p:o.dst=none)
  (D:ev env x=some (.pointer (some ⟨b,j,none⟩))) (F:ev env y=some v) (m:lk H i=some (Fc b tb cs)) (B:v.cells=vs.toArray) (q:∀w,(sizeOf t).run P w= .ok k w) (d:vs.length=k)
  (c:Nat.ble (j+vs.length) cs.size=true) (l:∀u∈vs,u.oneCell'=true) (e:Fp cs j vs=cs) :
  T P N sc M o env H (G:=Unit) (λ_=>True) (λ_=>env) (λ_=>H):=λa w hs K Q n=>by
 have g:w.heap[b]? = some (.cells cs tb (0,0)):=hs.hold i _ m;have f:=run_storeCells_at P b j tb vs 0 cs w g (by simpa using iU c) l;simp only [eG]at f;have h:(execOp a.eval o).run P w= .ok .skip (w.setRow b (Fp cs j vs)):=by simp [execOp,s,hs.ev D,hs.ev F,Instr.storeAt,Instr.sureAddr,storeVar,B,q,d,f,Fp]
 rw [e,Zsz w b cs tb _ g]at h;unfold Oper.wp;rw [h];show K (a.put o.dst _) _;rw [p];exact n () _ _ aA (hs.put_none undef) (Chg.refl _ _)
def t_stp1     {i b j:Nat}   {w0:World}  (m:o.op= .store t x y) (k:o.dst=none)
  (p:ev env x=some (.pointer (some ⟨b,j,none⟩))) (q:ev env y=some v) (g:lk H i=some (box b tb cs)) (d:i≠0) (l:∀w,(sizeOf t).run P w= .ok 1 w) (c:Nat.ble (j+1) cs.size=true) (e:One N sc env H v)
  (f:lk H 0=some (Xx w0 M0)) (n:∀b,w0.heap.size<=b->sc b) (h:M b) :
  T P N sc M o env H (G:=Unit) (λ_=>True) (λ_=>env) (λ_=>(i,box b tb (Fp cs j [v]))::H):=λa w hs=>
 t_stp (cs':=#[]) (vs:=[v]) m k p q g d (Yb (e a w hs)) l rfl c ⟨e,aA⟩ f n h a w hs
def Yg3{al:Bool}(i:Nat)(hi:lk H i=some (Ph 1 Nf (λy:SL×List Int=>Yw 2 wv (Xn y.1) y.2) v zs))(a:Nat.beq i 0=false)(b:z∈zs)(h:PreOk H al r):PreOk H al (Yw 2 wv (Xn z.1) z.2::r):=Ztl (q:=λy:SL×List Int=>Yw 2 wv (Xn y.1) y.2) (z:=z) i hi a b h
end Go.Sky
namespace Go.Sky
variable{v:Int}{o:Oper}{x y:Operand}{t tb:TypeId}{b i k:Nat}{kd:IntKind}{M M0:Nat->Prop}{w0:World}{cs:Array Value}
variable {P:Program} {N:Nat} {sc:Nat->Prop} {env env':Pz} {H H':Hp} {Q Q':Exit->Act->World->Prop}
def Al(l:List Int):Array Value:=(l.map (Value.int .i64)).toArray
theorem Ych(l:List Int):(Al l).size=l.length:=by simp [Al]
theorem Yer{l:List Int}{j:Nat}(h:j<l.length):(Al l)[j]? = some (.int .i64 (l.getD j 0)):=by simp [Al,aL h,aG]
theorem Yeq{l:List Int}{j:Nat}(h:j<l.length):Fp (Al l) j [.int .i64 v]=Al (l.set j v):=by unfold Fp Al;congr 1;rw [kA,aF h,dY,cK,mF,List.map_drop];simp
theorem Gu   {e:TypeId} {d c:Nat}  {m:Int} (j:o.op= .indexAddr t x y) (n:ev env x=some (.pointer (some ⟨b,d,none⟩))) (p:ev env y=some (.int kd m))
  (l:P.underlying t=some (.array c e)) (h:∀w,(sizeOf e).run P w= .ok k w) (f:m=(i:Int):=by omega) (g:i<c:=by omega):Mx P N sc o env H (.pointer (some ⟨b,d+i*k,none⟩)):=λa w hs=>by
 subst f;simp [execOp,j,hs.ev n,hs.ev p,Instr.indexAt,Instr.sureAddr,asIntOf,run_underlying l,h,g,Ok]
theorem Yeb{j:Nat}{l:List Int}(d:o.op= .load t x)(f:ev env x=some (.pointer (some ⟨b,j,none⟩)))(a:lk H i=some (box b tb (Al l)))(e:∀w,(isAgg t).run P w= .ok false w)(c:j<l.length:=by omega) :
  Mx P N sc o env H (.int .i64 (l.getD j 0)):=Yec d f a e (Yer c)
theorem d_lwa{l:List Int}(e:o.op= .load t x)(h:ev env x=some (.pointer (some ⟨b,0,none⟩)))(a:lk H i=some (box b tb (Al l)))(f:∀w,(isAgg t).run P w= .ok true w)(c:∀w,(sizeOf t).run P w= .ok k w)(d:l.length=k) :
  Mx P N sc o env H (.agg (Al l)):=
 Ya9 (vs:=l.map (Value.int .i64)) e h a f c (by simpa using d) (λn u g=>by rw [bZ];simpa [Al]using g)
theorem Zv0     {j:Nat} {l:List Int}    (m:o.op= .store t x y) (g:o.dst=none)
  (q:ev env x=some (.pointer (some ⟨b,j,none⟩))) (r:ev env y=some (.int .i64 v)) (e:lk H i=some (box b tb (Al l))) (h:∀w,(sizeOf t).run P w= .ok 1 w) 
  (d:lk H 0=some (Xx w0 M0)) (p:∀b,w0.heap.size<=b->sc b) (f:M b) (a:i≠0:=by decide) (c:j<l.length:=by omega) :
  T P N sc M o env H (G:=Unit) (λ_=>True) (λ_=>env) (λ_=>(i,box b tb (Al (l.set j v)))::H):=by
 rw [<-Yeq c];exact Zkk (vs:=[.int .i64 v]) m g q r e a rfl h rfl (by rw [Ych];exact c) (λu n=>Yd (by rw [bE.1 n];rfl)) rfl d p f
theorem Ye2       {l:List Int}   (j:o.op= .store t x y) (f:o.dst=none)
  (p:ev env x=some (.pointer (some ⟨b,0,none⟩))) (q:ev env y=some (.agg (Al l))) (d:lk H i=some (box b tb cs)) (g:∀w,(sizeOf t).run P w= .ok k w) (h:l.length=k) (r:cs.size=k)
  (c:lk H 0=some (Xx w0 M0)) (n:∀b,w0.heap.size<=b->sc b) (e:M b) (a:i≠0:=by decide) :
  T P N sc M o env H (G:=Unit) (λ_=>True) (λ_=>env) (λ_=>(i,box b tb (Al l))::H):=
 Zkk (vs:=l.map (Value.int .i64)) j f p q d a rfl g (by simpa using h) O8 (λu m=>Yd (by obtain⟨z,_,rfl⟩:=fT.1 m;rfl)) (by unfold Fp Al;rw [dV,iR,bZ,kF O8,iS]) c n e
def Ot:Nat->Nat->Nat
 | _,0=>1
 | 0,_+1=>0
 | n+1,k+1=>Ot n k+Ot n (k+1)
theorem Zxx:∀n k,Ot n k<=2^n
 | 0,0=>O3
 | _+1,0=>dL _
 | 0,_+1=>bG _
 | n+1,k+1=>by have a:=Zxx n k;have c:=Zxx n (k+1);show Ot n k+Ot n (k+1)<=2^(n+1);rw [bX];omega
theorem Zml:∀n k,n<k->Ot n k=0
 | _,0,h=>absurd h (bT _)
 | 0,_+1,_=>rfl
 | n+1,k+1,h=>by show Ot n k+Ot n (k+1)=0;rw [Zml n k O,Zml n (k+1) O]
structure Tab (l:List Int) (n k:Nat):Prop where
 len:l.length=625
 eq:∀r c,r<25->c<25->l.getD (r*25+c) 0=if r<n\/(r=n/\c<k)then(Ot r c:Int)else 0
theorem Zh4{l:List Int}{j:Nat}(hi:i<l.length:=by omega):(l.set i v).getD j 0=if j=i then v else l.getD j 0:=by
 rw [aG,aG,List.getElem?_set];by_cases h:i=j
 .subst h;rw [aF rfl,aF hi,aF rfl];rfl
 .rw [aD h,aD (λe=>h e.symm)]
theorem Tab.start:Tab (List.replicate 625 0) 0 0:=⟨aT,λr c d a=>by rw [aD O,aG];rw [iH];split<;>rfl⟩
theorem Tab.step{l:List Int}{n:Nat}(h:Tab l n k)(w:n<25)(u:k<25)(s:v=(Ot n k:Int)){j:Nat}(m:j=n*25+k):Tab (l.set j v) n (k+1):=by
 subst m;have p:=h.len;refine⟨by rw [cM];exact p,λr c q f=>?_⟩;rw [Zh4,h.eq r c q f];by_cases e:r*25+c=n*25+k
 .have a:r=n:=O;have d:c=k:=O;subst a;subst d;rw [aF rfl,aF O];exact s
 .rw [aD e];have:¬(r=n/\c=k):=λ⟨a,d⟩=>e (by rw [a,d]);by_cases g:r<n\/(r=n/\c<k)
  .rw [aF g,aF O]
  .rw [aD g,aD O]
theorem Tab.row{l:List Int}{n:Nat}(h:Tab l n k)(f:n<k):Tab l (n+1) 0:=⟨h.len,λr c e d=>by
 rw [h.eq r c e d];by_cases g:r<n\/(r=n/\c<k)
 .rw [aF g,aF O]
 .rw [aD g];by_cases a:r<n+1\/(r=n+1/\c<0)
  .rw [aF a,Zml r c O];rfl
  .rw [aD a]⟩
theorem Tab.get{l:List Int}{n r c:Nat}(h:Tab l n k)(f:r<25)(d:c<25)(a:r<n\/(r=n/\c<k)){j:Nat}(e:j=r*25+c):l.getD j 0=(Ot r c:Int):=by rw [e,h.eq r c f d,aF a]
theorem Ybp{n:Nat}(c:1<=n:=by omega)(a:1<=k:=by omega):Ot n k=Ot (n-1) (k-1)+Ot (n-1) k:=by obtain⟨m,rfl⟩:∃m,n=m+1:=⟨n-1,O⟩;obtain⟨j,rfl⟩:∃j,k=j+1:=⟨k-1,O⟩;rfl
end Go.Sky
namespace Go.Sky
variable{k i:Nat}{t tb:TypeId}{cells:Array Value}{o:Oper}{x y:Operand}{kd:IntKind}{v0 v1 v2:Value}{M M0:Nat->Prop}
structure Tb (l:List Int) (n k:Nat):Prop where
 len:l.length=36
 eq:∀r c,r<6->c<6->l.getD (r*6+c) 0=if r<n\/(r=n/\c<k)then(Ot r c:Int)else 0
theorem Tb.start:Tb (List.replicate 36 0) 0 0:=⟨aT,λr c b a=>by rw [aD O,aG];rw [iH];split<;>rfl⟩
theorem Tb.step{l:List Int}{n:Nat}{v:Int}(h:Tb l n k)(u:n<6)(s:k<6)(q:v=(Ot n k:Int)){j:Nat}(f:j=n*6+k):Tb (l.set j v) n (k+1):=by
 subst f;have m:=h.len;refine⟨by rw [cM];exact m,λr c p d=>?_⟩;rw [Zh4,h.eq r c p d];by_cases e:r*6+c=n*6+k
 .have a:r=n:=O;have b:c=k:=O;subst a;subst b;rw [aF rfl,aF O];exact q
 .rw [aD e];have:¬(r=n/\c=k):=λ⟨a,b⟩=>e (by rw [a,b]);by_cases g:r<n\/(r=n/\c<k)
  .rw [aF g,aF O]
  .rw [aD g,aD O]
theorem Tb.row{l:List Int}{n:Nat}(h:Tb l n k)(e:n<k):Tb l (n+1) 0:=⟨h.len,λr c d b=>by
 rw [h.eq r c d b];by_cases g:r<n\/(r=n/\c<k)
 .rw [aF g,aF O]
 .rw [aD g];by_cases a:r<n+1\/(r=n+1/\c<0)
  .rw [aF a,Zml r c O];rfl
  .rw [aD a]⟩
theorem Tb.get{l:List Int}{n r c:Nat}(h:Tb l n k)(e:r<6)(b:c<6)(a:r<n\/(r=n/\c<k)){j:Nat}(d:j=r*6+c):l.getD j 0=(Ot r c:Int):=by rw [d,h.eq r c e b,aF a]
theorem Zrj{n:Nat}(h:n<=5:=by omega):Ot n k<=32:=aB (Zxx n k) (aB (dH O3 h) O3)
theorem Zeg {P:Program} {e:TypeId} {n:Nat} {b a:TypeInfo} {z:Value} (parts:List (Nat×Value))  (hi:P.info? t=some b) (f:P.underlying t=some (.array n e)) (g:b.zero=some z) (c:P.info? e=some a)
  (d:Instr.fill (λi=>some (i*a.size,a.size)) z.cells parts=some cells):P.built t parts=some cells:=by
 unfold Program.built;simp only [hi,f,g,c,d]
variable {P:Program} {N:Nat} {sc:Nat->Prop} {env env':Pz} {H H':Hp} {Q Q':Exit->Act->World->Prop}
def Zp{α:Type _}(i:Nat)(a b c:α):α:=match i with
 | 0=>a
 | 1=>b
 | _=>c
theorem Cc{α:Type _}{p:α->Prop}{a b c:α}(d:p a)(e:p b)(f:p c):p (Zp i a b c):=by unfold Zp;split<;>assumption
theorem Zu4   {e:TypeId}   {m:Int}  (h:o.op= .index t x y) (l:ev env x=some (.agg #[v0,v1,v2])) (n:ev env y=some (.int kd m))
  (j:P.underlying t=some (.array 3 e)) (f:∀w,(sizeOf e).run P w= .ok 1 w) (d:∀w,(isAgg e).run P w= .ok false w) (b:m=(i:Int)) (g:i<3:=by omega):Mx P N sc o env H (Zp i v0 v1 v2):=λa w hs=>by
 subst b;have c:i=0\/i=1\/i=2:=O;rcases c with rfl|rfl|rfl<;>simp [execOp,h,hs.ev l,hs.ev n,Instr.index,asIntOf,run_underlying j,f,d,asAgg,part,Zp]
theorem Ze5 {α:Type}  {enc:α->Value}  {f g j:List α} (i c d e n:Nat) (l:lk H c=some (Yw k enc v0 f)) (m:lk H d=some (Yw k enc v1 g)) (p:lk H e=some (Yw k enc v2 j))
  (q:Nat.beq c 0=false) (r:Nat.beq d 0=false) (s:Nat.beq e 0=false):∀a w,Sat N sc env H a w->Sat N sc env ((n,Yw k enc (Zp i v0 v1 v2) (Zp i f g j))::H) a w:=by
 match i with
 | 0=>exact Zb9 c n l q rfl (λw h=>h) (λb h=>h) rfl
 | 1=>exact Zb9 d n m r rfl (λw h=>h) (λb h=>h) rfl
 | i+2=>exact Zb9 e n p s rfl (λw h=>h) (λb h=>h) rfl
theorem Zu3{α:Type}{b j:Nat}{enc:α->Value}{l:List α}(d:α)(n:o.op= .load t x)(s:ev env x=some (.pointer (some ⟨b,0+j*k,none⟩)))(g:lk H i=some (box b tb (cellsOf enc l).toArray))(e:Enc P t k enc)(m:j<l.length) :
  Mx P N sc o env H (enc (l.getD j d)):=λa w hs=>by
 have hi:l[j]? = some (l.getD j d):=by simp [List.getD,aL m]
 have h:=e.load (l.getD j d) w ⟨b,0+j*k,none⟩ (λq u p=>by have f:=Ga e.cells l j _ hi q u p;rw [Ok,hs.boxc g];simpa using f)
 have c:=hs.ev s;generalize enc (l.getD j d)=r at h ⊢;generalize (⟨b,0+j*k,none⟩:Addr)=v at h c;simp [execOp,n,c,Instr.loadAt,Instr.sureAddr,h]
theorem t_sbe {α:Type}     {b j:Nat} {enc:α->Value} {l:List α} (z:α) {w0:World}  (q:o.op= .store t x y) (n:o.dst=none)
  (v:ev env x=some (.pointer (some ⟨b,0+j*k,none⟩))) (w:ev env y=some (enc z)) (h:lk H i=some (box b tb (cellsOf enc l).toArray)) (a:Enc P t k enc) (f:j<l.length)
  (g:lk H 0=some (Xx w0 M0)) (s:∀b,w0.heap.size<=b->sc b) (m:M b) (c:i≠0:=by decide) :
  T P N sc M o env H (G:=Unit) (λ_=>True) (λ_=>env) (λ_=>(i,box b tb (cellsOf enc (l.set j z)).toArray)::H):=by
 have p:=Xj a.cells l;have e:(enc z).cells.toList.length=k:=by simp [a.cells]
 have d:(j+1)*k<=l.length*k:=aK _ f;rw [dB]at d;refine Zkk (vs:=(enc z).cells.toList) q n v w h c rfl a.size e (by rw [e,jA,p];omega) (λu r=>Yd (a.one z u r)) ?_ g s m;unfold Fp;rw [bZ,e,Zdg a.cells l j z f]
end Go.Sky
namespace Go.Sky
variable{o:Oper}{x:Operand}{t tb te:TypeId}{M M0:Nat->Prop}{cs:Array Value}
variable {P:Program} {N:Nat} {sc:Nat->Prop} {env env':Pz} {H H':Hp} {Q Q':Exit->Act->World->Prop}
theorem d_lea{α:Type}{i b k q:Nat}{enc:α->Value}{l:List α}(f:o.op= .load t x)(j:ev env x=some (.pointer (some ⟨b,0,none⟩)))(a:lk H i=some (box b tb (cellsOf enc l).toArray))(c:Enc P te q enc)(g:∀w,(isAgg t).run P w= .ok true w)(d:∀w,(sizeOf t).run P w= .ok k w)(e:l.length*q=k) :
  Mx P N sc o env H (.agg (cellsOf enc l).toArray):=
 Ya9 (vs:=cellsOf enc l) f j a g d (by rw [Xj c.cells l];exact e) (λn u h=>by rw [bZ];simpa using h)
theorem t_sea {α:Type}   {y:Operand}  {i b k q:Nat}  {enc:α->Value} {l:List α} {w0:World}  (r:o.op= .store t x y) (m:o.dst=none)
  (v:ev env x=some (.pointer (some ⟨b,0,none⟩))) (B:ev env y=some (.agg (cellsOf enc l).toArray)) (g:lk H i=some (box b tb cs)) (a:i≠0) (d:Enc P te q enc) (n:∀w,(sizeOf t).run P w= .ok k w) (p:l.length*q=k) (j:cs.size=k)
  (f:lk H 0=some (Xx w0 M0)) (s:∀b,w0.heap.size<=b->sc b) (h:M b) :
  T P N sc M o env H (G:=Unit) (λ_=>True) (λ_=>env) (λ_=>(i,box b tb (cellsOf enc l).toArray)::H):=by
 have c:(cellsOf enc l).length=k:=by rw [Xj d.cells l];exact p
 refine Zkk (vs:=cellsOf enc l) r m v B g a rfl n c (by rw [c,bZ,j];exact aH _) (λu e=>?_) (by unfold Fp;rw [dV,iR,bZ,kF O8,iS]) f s h
 unfold cellsOf at e;obtain⟨z,_,D⟩:=kL.1 e;exact Yd (d.one z u D)
end Go.Sky
namespace Go.Sky
variable {P:Program} {N:Nat} {sc:Nat->Prop} {env env':Pz} {H H':Hp} {Q Q':Exit->Act->World->Prop}
abbrev Zv:=(Int×Int×Int)×(SL×List Int)×(SL×List Int)×(SL×List Int)
abbrev Oq (g:Zv):Value:= .agg #[.int .i64 g.1.1,.int .i64 g.1.2.1,.int .i64 g.1.2.2,Xn g.2.1.1,Xn g.2.2.1.1,Xn g.2.2.2.1]
abbrev qC (z:SL×List Int):Pc:=Yw 1 Yl (Xn z.1) z.2
abbrev qG (g:Zv):Pc:=Me qC [g.2.1,g.2.2.1,g.2.2.2]
abbrev G0:Zv:=((0,0,0),((none,0,0),[]),((none,0,0),[]),((none,0,0),[]))
def Pb{v:Value}{ps:List Zv}{g:Zv}{z:SL×List Int}(j n:Nat)(i:lk H j=some (Ph 6 Oq qG v ps))(c:Nat.beq j 0=false)(d:g∈ps)(e:z∈[g.2.1,g.2.2.1,g.2.2.2]):∀a w,Sat N sc env H a w->Sat N sc env ((n,Yw 1 Yl (Xn z.1) z.2)::H) a w:=
 Zb9 j n i c rfl (λw h=>h.2 g d z e) (λb f=> .inr ⟨g,d,z,e,f⟩) rfl
end Go.Sky
namespace Go.Sky
variable{x c y p a b xs:List Int}{i k m F:Nat}{over ov Y:Int}{z:List (SL×List (Int×SL))}{s η ε t δ:Rat}{f:Rat->Rat}{fs:List (Rat->Rat)}{ls:List (List Int)}
theorem Gc{x:Int}(h:Nz x):bl x.natAbs<=64:=(Qm 64 _).2 (by obtain⟨d,e⟩:=h;omega)
theorem in_bl{x:Int}(h:bl x.natAbs<=63):Nz x:=by have:=(Qm 63 x.natAbs).1 h;exact⟨O,O⟩
theorem bl_pw{n:Int}(h:bl n.natAbs<=100)(hi:i<=10):bl (n^i).natAbs<=1000:=by
 rcases aV i with d|d
 .subst d;rw [cL];decide
 .exact aB (Fa n h i d) (by have:=aK 100 hi;omega)
def Ax:List Int->Int
 | []=>1
 | x::r=>x*Ax r
def zc6_eq:(Value.agg (List.replicate 36 (Value.int .i64 0)).toArray).cells=Al (List.replicate 36 0):=rfl
def Zr4:(Value.agg (List.replicate 36 (Value.int .i64 0)).toArray).cells.size=36:=rfl
def w60(n j k:Nat):Int:=60/(Ot n k:Int)*(Ot j k:Int)
def ctl(c:List Int)(j m:Nat):Int:=Yf (λk=>c.getD k 0*w60 (c.length-1) j k) m
def Yke(c:List Int)(j m:Nat):ctl c j (m+1)=ctl c j m+c.getD m 0*w60 (c.length-1) j m:=rfl
theorem Zj0:∀{n k:Nat},k<=n->0<Ot n k
 | n,0,_=>by cases n<;>exact Nat.one_pos
 | n+1,k+1,h=>by have:=Zj0 (n:=n) (k:=k) O;show 0<Ot n k+Ot n (k+1);omega
theorem Zvv{n j:Nat}(g:j<=5):0<=w60 n j k/\w60 n j k<=1920:=by have h:=Zrj (k:=k) g;unfold w60;have d:(0:Int)<=60/(Ot n k:Int):=iQ O3 O;have e:(60:Int)/(Ot n k:Int)<=60:=mI _ O3;refine⟨eK d O,?_⟩;have:=kG e (show(Ot j k:Int)<=32 by omega) O O3;omega
theorem Zmu{n j:Nat}(d:j<=5):bl (w60 n j k).natAbs<=11:=by have:=Zvv (n:=n) (k:=k) d;exact(Qm 11 _).2 O
theorem Li(h:∀x∈c,Nz x)(k:Nat):Nz (c.getD k 0):=by
 by_cases d:k<c.length
 .exact h _ (Zd d)
 .rw [aG,bF O];exact⟨O3,O3⟩
theorem Zdk(h:∀x∈c,Nz x){j:Nat}(d:j<=5)(e:m<=31):bl (ctl c j m).natAbs<=80:=
 Zj4 (K:=75) (λk _=>by have g:=Gc (Li h k);have l:=Zmu (n:=c.length-1) (k:=k) d;have:=Yq (c.getD k 0) (w60 (c.length-1) j k);omega) e
def Zmt(c:List Int)(over:Int):Bool:=(List.range c.length).all λj=>decide ((ctl c j (j+1)).natAbs<=62914560*over)
theorem Zx3(h:∀j,j<c.length->((ctl c j (j+1)).natAbs:Int)<=62914560*over):Zmt c over=true:=by unfold Zmt;rw [cJ];intro j d;exact aN (h j (fX.1 d))
theorem Zx4{j:Nat}(d:j<c.length)(h:¬((ctl c j (j+1)).natAbs:Int)<=62914560*over):Zmt c over=false:=by
 cases hb:Zmt c over with
 | false=>rfl
 | true=>
  unfold Zmt at hb;rw [cJ]at hb;exact absurd (cF (hb j (fX.2 d))) h
theorem wc_abs(s:Int):(#[.bool false,.string (Qv s.natAbs)]:Array Value)=wc (s.natAbs:Int):=by have:decide (((s.natAbs:Nat):Int)<0)=false:=aM O;rw [show wc (s.natAbs:Int)=#[.bool (decide (((s.natAbs:Nat):Int)<0)),.string (Qv ((s.natAbs:Nat):Int).natAbs)]from rfl,this,dD]
theorem sgp(z:Int):0<z.sign↔0<z:=by simpa using Fx z
def axB(c:List Int)(over:Int):Bool:=decide (1<=c.length) && decide (c.length<=6) && !(decide (1<c.length) && decide (c.getD (c.length-1) 0=0)) && Zmt c over
def Ma(g:Int):List Int->Int
 | []=>g
 | x::r=>Ma (Int.gcd g x) r
def Iz:∀(a b:List Int) (g:Int),Ma g (a ++ b)=Ma (Ma g a) b
 | [],_,_=>rfl
 | x::a,b,g=>Iz a b _
theorem Bq{l:List Int}(g:Int)(h:i<l.length):Ma g (l.take (i+1))=(Int.gcd (Ma g (l.take i)) (l.getD i 0):Int):=by rw [Pw 0 _ _ h,Iz];rfl
theorem Zg8:∀{l:List Int} {g:Int} {m:Nat},(∀x∈l,bl x.natAbs<=m)->bl g.natAbs<=m->bl (Ma g l).natAbs<=m
 | [],_,_,_,h=>h
 | x::l,g,m,h,hg=>Zg8 (l:=l) (λy d=>h y (bI _ d)) (aB (Zj6 g x) (by have:=h x (bR ..);omega))
abbrev Cs:=List Int×List Int×List Int
def Ycl(fr d ov:Int):Bool:=decide (0<=fr) && decide (fr<d) && decide (d<=3600000) && decide (1<=ov) && decide (ov<=4294967296)
def Cd(fr d ov:Int)(x y z:List Int):Bool:=Ycl fr d ov && axB x ov && axB y ov && axB z ov && decide (Ma ov (x ++ y ++ z)=1)
def Mh(i:Nat)(x y z:List Int):List Int:=match i with
 | 0=>[]
 | 1=>x
 | 2=>x ++ y
 | _=>x ++ y ++ z
theorem Fq(x y z:List Int)(h:i<3):Mh (i+1) x y z=Mh i x y z ++ Zp i x y z:=by
 match i,h with
 | 0,_=>rfl
 | 1,_=>rfl
 | 2,_=>rfl
theorem Zcp{fr d:Int}{z:List Int}(h:axB (Zp i x y z) ov=false):Cd fr d ov x y z=false:=by unfold Cd;revert h;unfold Zp;split<;>intro h<;>simp [h]
theorem Zam{fr d:Int}{z:List Int}(h:¬(0<=fr/\fr<d/\d<=3600000/\1<=ov/\ov<=4294967296)):Cd fr d ov x y z=false:=by
 cases hb:Cd fr d ov x y z with
 | false=>rfl
 | true=>
  unfold Cd Ycl at hb;simp only [aQ,dQ]at hb;exact absurd O h
theorem Zm3(h:1<=c.length->c.length<=6->¬(1<c.length/\c.getD (c.length-1) 0=0)->Zmt c ov=true->False):axB c ov=false:=by
 cases hb:axB c ov with
 | false=>rfl
 | true=>
  unfold axB at hb;simp only [aQ,gC,iW,dQ,gD]at hb;exact(h hb.1.1.1 hb.1.1.2 (λe=>by rcases hb.1.2 with d|d;exact d e.1;exact d e.2) hb.2).elim
theorem Ycb(e:1<=c.length)(g:c.length<=6)(h:¬(1<c.length/\c.getD (c.length-1) 0=0))(j:Zmt c ov=true):axB c ov=true:=by
 unfold axB;simp only [aQ,gC,iW,dQ,gD];refine⟨⟨⟨e,g⟩,?_⟩,j⟩;by_cases d:1<c.length
 .exact .inr λl=>h ⟨d,l⟩
 .exact .inl d
theorem Yf4{fr g:Int}{z:List Int}(d:0<=fr/\fr<g/\g<=3600000/\1<=ov/\ov<=4294967296)(e:∀k,k<3->axB (Zp k x y z) ov=true):Cd fr g ov x y z=decide (Ma ov (Mh 3 x y z)=1):=by have h:axB x ov=true:=e 0 O3;have j:axB y ov=true:=e 1 O3;have l:axB z ov=true:=e 2 O3;unfold Cd Ycl;rw [aN d.1,aN d.2.1,aN d.2.2.1,aN d.2.2.2.1,aN d.2.2.2.2,h,j,l];rfl
def Kw{z:List Int}(d:∀a∈x,Nz a)(e:∀a∈y,Nz a)(g:∀a∈z,Nz a)(i:Nat):∀a∈Zp i x y z,Nz a:=Cc (p:=λl=>∀a∈l,Nz a) d e g
theorem bl_fc{z:List Int}(e:∀a∈x,Nz a)(g:∀a∈y,Nz a)(j:∀a∈z,Nz a)(l:bl ov.natAbs<=64)(i k:Nat):bl (Ma (Ma ov (Mh i x y z)) ((Zp i x y z).take k)).natAbs<=64:=by
 refine Zg8 (λa d=>Gc (Kw e g j i a (eN d))) (Zg8 (λa d=>Gc ?_) l);unfold Mh at d;split at d
 .cases d
 .exact e a d
 .rcases cY.1 d with h|h
  .exact e a h
  .exact g a h
 .rcases cY.1 d with h|h
  .rcases cY.1 h with h|h
   .exact e a h
   .exact g a h
  .exact j a h
def Zdu{c:Int} : c.sign<0↔c<0:=Pe c
abbrev RWL:=List (Bool×ByteArray)
def smallR(r:RWL):Bool:=decide (r.length<=8) && r.all λc=>decide (c.2.size<=6)
noncomputable def dec (r:RWL):List Int:=if h:okP r=true then(okP_ex h).choose else []
noncomputable def bdE (r:RWL):Int:=if okP r=true then Zxy (dec r)else 2
noncomputable def bdZ (r:RWL):Int:=if bdE r=0 then sbound (dec r)else 0
theorem Ygl{c:Int}{n:Nat}(e:y.length=n)(d:c=cf y (n-1))(h:c.sign<0):Fd y=-c:=by subst e;unfold Fd;rw [<-d,aF (Zdu.1 h)]
theorem Ygk{c:Int}{n:Nat}(g:y.length=n)(e:c=cf y (n-1))(h:¬c.sign<0):Fd y=c:=by subst g;unfold Fd;rw [<-e,aD (λd=>h (Zdu.2 d))]
theorem rb_n{c d:Int}{n:Nat}(l:y.length=n)(j:x.length=m)(e:c=cf y (n-1))(g:d=cf x (m-1))(h:c.sign<0):rb x y=-d:=by subst l j;unfold rb;rw [<-e,aF (Zdu.1 h),g]
theorem rb_p{c d:Int}{n:Nat}(o:y.length=n)(l:x.length=m)(g:c=cf y (n-1))(j:d=cf x (m-1))(h:¬c.sign<0):rb x y=d:=by subst o l;unfold rb;rw [<-g,aD (λe=>h (Zdu.2 e)),j]
theorem Yb2(y:List Int):bl (Fd y).natAbs<=Xm y:=by
 have:=Qz y (y.length-1);unfold Fd;split
 .rwa [dW]
 .exact this
theorem bl_rb(x y:List Int):bl (rb x y).natAbs<=Xm x:=by
 have:=Qz x (x.length-1);unfold rb;split
 .rwa [dW]
 .exact this
theorem Zbo{c:Int}{n:Nat}(d:Sz n p)(h:bl c.natAbs<=m):Sz (n+m) (Zs p c):=λi=>by rw [Yk];have e:=Yq (cf p i) c;have g:=d i;omega
theorem Ye6{q:List Int}{n:Nat}(d:Sz n p)(e:Sz n q):Sz (n+1) (Dc p q):=λi=>by rw [Ix];have g:=Bm (cf p i) (cf q i);have h:=d i;have j:=e i;omega
theorem sz_shm'{s:Nat} : Sz (Xm x+Xm y) (shm y (rb x y) s i):=Zpd λt=>by have d:=Yq (rb x y) (cf y t);have e:=bl_rb x y;have g:=Qz y t;omega
theorem Zok(x y:List Int):Xm (Gq x y)<=Xm x+Xm y+1:=by refine Qq ?_;unfold Gq;exact Ye6 (Zbo (Qz x) (Yb2 y)) sz_shm'
theorem Yc2{f S:Nat}(e:0<y.length)(d:y.length<=x.length)(o:x.length<y.length+f)(l:Tr x)(j:Xm x+f*(Xm y+1)<=S) :
  ∃g,f=g+1/\Gm f x y=Gm g (Gq x y) y/\(Gq x y).length<y.length+g/\Tr (Gq x y)/\Xm (Gq x y)+g*(Xm y+1)<=S/\(Gq x y).length<x.length:=by
 obtain⟨g,rfl⟩:∃g,f=g+1:=⟨f-1,O⟩;have h:=Zgm l e d;have n:=Zok x y;refine⟨g,rfl,?_,O,Ap _ _,?_,h⟩
 .rw [Gm,aD O]
 .rw [dB]at j;omega
theorem Yga{f:Nat}(h:x.length<y.length):Gm f x y=x:=by
 cases f with
 | zero=>rfl
 | succ f=>rw [Gm,aF h]
theorem Zt0(y:List Int):∀(f:Nat) (x:List Int),Xm (Gm f x y)<=Xm x+f*(Xm y+1)
 | 0,x=>by rw [Gm];omega
 | f+1,x=>by
  rw [Gm];split
  .omega
  .have d:=Zt0 y f (Gq x y);have e:=Zok x y;rw [dB];omega
def firstE(r:RWL)(x y d e:Int):Int:=if okP r=true then(if r.length=0\/0<x*e-d*y then 3 else 0)else 2
theorem Ydy{L:List (List Int)}(h:Cw z=L):z.length=L.length:=by rw [<-h];simp
theorem Zrl{n l x:Int}(d:-1<=l)(e:l<=1)(g:-1<=x)(h:x<=1):Nc (n,l) x=(if x*l<0 then n+1 else n,if x≠0 then x else l):=by
 obtain rfl|rfl|rfl:l=-1\/l=0\/l=1:=O
 all_goals obtain rfl|rfl|rfl:x=-1\/x=0\/x=1:=O
 all_goals simp [Nc]
theorem Zzf{n l x:Int}(d:-1<=l)(e:l<=1)(g:-1<=x)(h:x<=1)(j:x*l<0)(o:x≠0):Nc (n,l) x=(n+1,x):=by rw [Zrl d e g h,aF j,aF o]
theorem Zze{n l x:Int}(d:-1<=l)(e:l<=1)(g:-1<=x)(h:x<=1)(j:x*l<0)(o:¬x≠0):Nc (n,l) x=(n+1,l):=by rw [Zrl d e g h,aF j,aD o]
theorem Zzd{n l x:Int}(d:-1<=l)(e:l<=1)(g:-1<=x)(h:x<=1)(j:¬x*l<0)(o:x≠0):Nc (n,l) x=(n,x):=by rw [Zrl d e g h,aD j,aF o]
theorem Zzc{n l x:Int}(d:-1<=l)(e:l<=1)(g:-1<=x)(h:x<=1)(j:¬x*l<0)(o:¬x≠0):Nc (n,l) x=(n,l):=by rw [Zrl d e g h,aD j,aD o]
theorem Zdr{l:List Int}{n m:Int}(hi:i<l.length)(h:(n,m)=(l.take i).foldl Nc (0,0)):(l.take (i+1)).foldl Nc (0,0)=Nc (n,m) (l.getD i 0):=by rw [Pw 0 l i hi,Zb2,h]
theorem mul_r{x m:Int}(g:-1<=x)(h:x<=1)(d:-1<=m)(e:m<=1):-9223372036854775808<=x*m/\x*m<=9223372036854775807:=by
 obtain rfl|rfl|rfl:m=-1\/m=0\/m=1:=O
 all_goals obtain rfl|rfl|rfl:x=-1\/x=0\/x=1:=O
 all_goals decide
def ev_b{x y:Int}(hs:Sz 1000000 p)(d:p.length<=30)(e:bl x.natAbs<=1000000)(g:bl y.natAbs<=1000000):bl (pev p x y).natAbs<=100000010:=
 Zrr (λt _=>ev_tb hs (λk=>Aq e k) (λk=>Aq g k) d t) O
theorem Ydx{L:List (List Int)}(h:Cw z=L)(f:List Int->Int)(hi:i<z.length):(L.map f).getD i 0=f (Zb (z.getD i T0).2):=by subst h;simp only [aG,eR,aL hi];rfl
def chke:Nat->Nat->Nat->Nat->Nat->Bool
 | 0,d,_,A,_=>Nat.ble (A+d*64) 65500
 | f+1,d,e,A,B=>Nat.ble (A+d*64) 65500 && (Nat.beq e 0 || (List.range e).all λl=>chke f e l B (bif Nat.ble l 1 then 2 else A+(d-e+1)*B))
inductive SV:List Int->List Int->Prop
 | one (a:Int):SV [a] [a]
 | step (a:Int) (r t:List Int):SV r t->SV (a::r) (a::t)
 | skip (a u w:Int) (r t:List Int):(a=1\/a=-1)->(-1<=u/\u<=1)->(-1<=w/\w<=1)->SV (-a::r) (-a::t)->SV (a::u::-a::r) (a::w::-a::t)
theorem Zow{s:Int×Int}{a u:Int}(e:a=1\/a=-1)(g:-1<=u/\u<=1):Nc (Nc (Nc s a) u) (-a)=Nc (Nc s a) (-a):=by obtain⟨n,l⟩:=s;have d:u=-1\/u=0\/u=1:=O;rcases e with rfl|rfl<;>rcases d with rfl|rfl|rfl<;>simp [Nc]
theorem SV.fold(h:SV a b):∀s,a.foldl Nc s=b.foldl Nc s:=by
 induction h with
 | one a=>intro s;rfl
 | step a r t _ d=>intro s;exact d (Nc s a)
 | skip a u w r t e g j _ d=>
  intro s;show(r.foldl Nc (Nc (Nc (Nc s a) u) (-a)))=(t.foldl Nc (Nc (Nc (Nc s a) w) (-a)));rw [Zow e g,Zow e j];exact d (Nc s a)
def SV.chg(h:SV a b):chg a=chg b:=aI Prod.fst (h.fold (0,0))
def Ea(x:Rat):Int:=if x<0 then -1 else if x=0 then 0 else 1
theorem Yf8(x:Rat):-1<=Ea x/\Ea x<=1:=by unfold Ea;split;decide;split<;>decide
theorem Ar{x:Rat}(h:0<x):Ea x=1:=by unfold Ea;rw [aD O4,aD O4]
theorem Au{x:Rat}(h:x<0):Ea x=-1:=by unfold Ea;rw [aF h]
def Big(η x:Rat)(f:Rat->Rat):Prop:=η<f x\/f x < -η
def Tri(η x:Rat):(Rat->Rat)->List (Rat->Rat)->Prop
 | _,[]=>True
 | _,[g]=>Big η x g
 | f,g::k::r=>(Big η x g/\Tri η x g (k::r))\/(Big η x k/\f x*k x<0/\Tri η x k r)
def Near(η x y:Rat)(f:Rat->Rat):Prop:=f x-f y<=η/\f y-f x<=η
theorem Zry{x y:Rat}(e:0<=η)(h:Big η x f)(d:Near η x y f):Ea (f x)=Ea (f y)/\(Ea (f x)=1\/Ea (f x)=-1):=by
 obtain⟨g,j⟩:=d;rcases h with h|h
 .rw [Ar O4,Ar O4];exact⟨rfl,.inl rfl⟩
 .rw [Au O4,Au O4];exact⟨rfl,.inr rfl⟩
theorem opp_sg{a b:Rat}(h:a*b<0):Ea b=- Ea a:=by
 rcases(show a<0\/a=0\/0<a by grind)with e|e|e
 .rw [Au e,Ar (by
   rcases(show b<=0\/0<b by grind)with d|d
   .have:=aJ (a:=-a) (b:=-b) O4 O4;grind
   .exact d)];rfl
 .subst e;grind
 .rw [Ar e,Au (by
   rcases(show 0<=b\/b<0 by grind)with d|d
   .have:=aJ (a:=a) (b:=b) O4 d;grind
   .exact d)]
theorem Zo7{η x y:Rat}(h:0<=η):∀(n:Nat) (f:Rat->Rat) (fs:List (Rat->Rat)),fs.length<=n->Big η x f->(∀g∈f::fs,Near η x y g)->Tri η x f fs->
  SV ((f::fs).map λg=>Ea (g x)) ((f::fs).map λg=>Ea (g y))
 | _,f,[],_,v,d,_=>by have:=(Zry h v (d f (bR ..))).1;simp only [cK,fS,this];exact SV.one _
 | 0,f,g::r,w,_,_,_=>absurd w O5
 | n+1,f,[g],w,v,d,o=>by have u:=(Zry h v (d f (bR ..))).1;have e:=Zo7 h n g [] O5 o (λk q=>d k (bI _ q)) aA;rw [cK,cK,u];exact SV.step _ _ _ e
 | n+1,f,g::k::r,w,v,d,o=>by
  have u:=Zry h v (d f (bR ..));rcases o with⟨G,o⟩|⟨q,I,o⟩
  .have e:=Zo7 h n g (k::r) (by simp at w ⊢;omega) G (λk q=>d k (bI _ q)) o;rw [cK (l:=g::k::r),cK (l:=g::k::r),u.1];exact SV.step _ _ _ e
  .have e:=Zo7 h n k r (by simp at w ⊢;omega) q (λj H=>d j (bI _ (bI _ H))) o;have B:=(Zry h q (d k O5)).1;have D:=opp_sg I;rw [cK (l:=r),cK (l:=r)]at e;simp only [cK];rw [<-B]at e ⊢;rw [D]at e ⊢;rw [<-u.1];exact SV.skip _ _ _ _ _ u.2 (Yf8 _) (Yf8 _) e
structure Lnk (η x:Rat) (f g k:Rat->Rat):Prop where
 big:¬Big η x g->Big η x k
 opp:¬Big η x g->f x*k x<0
def Lnks(η x:Rat):(Rat->Rat)->List (Rat->Rat)->Prop
 | _,[]=>True
 | _,[g]=>Big η x g
 | f,g::k::r=>Lnk η x f g k/\Lnks η x g (k::r)
theorem Zls{η x:Rat} : ∀(n:Nat) (f:Rat->Rat) (fs:List (Rat->Rat)),fs.length<=n->Lnks η x f fs->Tri η x f fs
 | _,f,[],_,_=>trivial
 | 0,f,g::r,e,_=>absurd e O5
 | n+1,f,[g],_,h=>h
 | n+1,f,[g,k],e,h=>by
  by_cases d:Big η x g
  .exact .inl ⟨d,h.2⟩
  .exact .inr ⟨h.1.big d,h.1.opp d,aA⟩
 | n+1,f,g::k::j::r,e,h=>by
  by_cases d:Big η x g
  .exact .inl ⟨d,Zls n g (k::j::r) (by simp at e ⊢;omega) h.2⟩
  .exact .inr ⟨h.1.big d,h.1.opp d,Zls n k (j::r) (by simp at e ⊢;omega) h.2.2⟩
def Rl3(s t:Rat)(f g k:Rat->Rat):Prop:=∃m n Q:Rat,0<m/\0<n/\0<Q/\∀x,s<=x->x<=t->∃q,-Q<=q/\q<=Q/\m*f x=q*g x-n*k x
def Rl2(s t:Rat)(f g:Rat->Rat):Prop:=∃m Q:Rat,0<m/\0<Q/\∀x,s<=x->x<=t->∃q,-Q<=q/\q<=Q/\m*f x=q*g x
def Rls(s t:Rat):(Rat->Rat)->List (Rat->Rat)->Prop
 | _,[]=>True
 | f,[g]=>Rl2 s t f g
 | f,g::k::r=>Rl3 s t f g k/\Rls s t g (k::r)
theorem Zca{q Q g e:Rat}(h:-Q<=q)(j:q<=Q)(l:-e<=g)(n:g<=e)(o:0<=Q):q*g<=Q*e/\-(Q*e)<=q*g:=by have a:=aJ (a:=Q-q) (b:=e+g) O4 O4;have b:=aJ (a:=Q+q) (b:=e-g) O4 O4;have c:=aJ (a:=Q-q) (b:=e-g) O4 O4;have d:=aJ (a:=Q+q) (b:=e+g) O4 O4;constructor<;>grind
theorem Zd4{x:Rat}{g:Rat->Rat}(h:¬Big η x g):-η<=g x/\g x<=η:=by unfold Big at h;constructor<;>grind
theorem Zx8{x:Rat}{g:Rat->Rat}(h:η<=ε)(d:Big ε x g):Big η x g:=by unfold Big at *;grind
theorem Gb{a b:Rat}(h:0<ε)(j:0<a)(l:0<b):∃e:Rat,0<e/\e<=ε/\e*a<=b:=by
 have g:0<b*a⁻¹:=bD l (fZ.2 j);have n:b*a⁻¹*a=b:=O4;rcases(show ε<=b*a⁻¹\/b*a⁻¹<=ε by grind)with d|d
 .exact⟨ε,h,O4,by have:=dK d (show 0<=a by grind);grind⟩
 .exact⟨b*a⁻¹,g,d,O4⟩
theorem pair3{g k:Rat->Rat}(h:Rl3 s t f g k)(G:0<ε)(R:∀x,s<=x->x<=t->Big ε x f\/Big ε x g) :
  ∃e,0<e/\(∀x,s<=x->x<=t->Big e x g\/Big e x k)/\∀η,0<η->η<=e->∀x,s<=x->x<=t->Lnk η x f g k:=by
 obtain⟨m,n,Q,B,P,hQ,S⟩:=h;obtain⟨e,D,e2,e3⟩:=Gb G (show 0<Q+n by grind) (Rat.mul_pos B G);have l:∀η,0<η->η<=e->∀x,s<=x->x<=t->¬Big η x g->Big η x k/\f x*k x<0:=λη r u x hs j d=>by
  obtain⟨q,V,W,q3⟩:=S x hs j;obtain⟨M,N⟩:=Zd4 d;obtain⟨p1,p2⟩:=Zca V W M N O4;have w:Big ε x f:=(R x hs j).resolve_right λh=>d (Zx8 O4 h);have Z:η*(Q+n)<=m*ε:=by have:=dK u (show 0<=Q+n by grind);grind
  have c2:0<η*n:=bD r P;rcases w with w|w
  .have H:m*ε<m*f x:=by have:=bD B (show 0<f x-ε by grind);grind
   have I:n*k x < - (n*η):=O4;have v:k x < -η:=by
    rcases(show k x < -η\/-η<=k x by grind)with o|o
    .exact o
    .have:=aJ (a:=n) (b:=k x+η) O4 O4;grind
   refine⟨.inr v,?_⟩;have:=bD (a:=f x) (b:=- k x) O4 O4;grind
  .have H:m*f x < - (m*ε):=by have:=bD B (show 0 < -ε-f x by grind);grind
   have I:n*η<n*k x:=O4;have v:η<k x:=by
    rcases(show η<k x\/k x<=η by grind)with o|o
    .exact o
    .have:=aJ (a:=n) (b:=η-k x) O4 O4;grind
   refine⟨.inl v,?_⟩;have:=bD (a:=- f x) (b:=k x) O4 O4;grind
 refine⟨e,D,λx hs j=>?_,λη r u x hs j=>⟨λd=>(l η r u x hs j d).1,λd=>(l η r u x hs j d).2⟩⟩;by_cases d:Big e x g
 .exact .inl d
 .exact .inr (l e D O4 x hs j d).1
theorem pair2{g:Rat->Rat}(h:Rl2 s t f g)(n:0<ε)(D:∀x,s<=x->x<=t->Big ε x f\/Big ε x g) :
  ∃e,0<e/\∀η,0<η->η<=e->∀x,s<=x->x<=t->Big η x g:=by
 obtain⟨m,Q,l,B,G⟩:=h;obtain⟨e,r,N,P⟩:=Gb n B (bD l n);refine⟨e,r,λη R w x hs o=>?_⟩;by_cases j:Big η x g
 .exact j
 .exfalso;obtain⟨q,H,I,W⟩:=G x hs o;obtain⟨u,v⟩:=Zd4 j;obtain⟨S,V⟩:=Zca H I u v O4;have d:Big ε x f:=(D x hs o).resolve_right λh=>j (Zx8 O4 h);have M:η*Q<=m*ε:=by have:=dK w (show 0<=Q by grind);grind
  rcases d with d|d
  .have:=bD l (show 0<f x-ε by grind);grind
  .have:=bD l (show 0 < -ε-f x by grind);grind
theorem Zt2{s t:Rat} : ∀(n:Nat) (f:Rat->Rat) (fs:List (Rat->Rat)) (ε:Rat),fs.length<=n->Rls s t f fs->0<ε->(∀g r,fs=g::r->∀x,s<=x->x<=t->Big ε x f\/Big ε x g)->
  ∃e,0<e/\∀η,0<η->η<=e->∀x,s<=x->x<=t->Lnks η x f fs
 | _,f,[],ε,_,_,l,_=>⟨ε,l,λ_ _ _ _ _ _=>trivial⟩
 | 0,f,g::r,ε,hl,_,_,_=>absurd hl O5
 | n+1,f,[g],ε,_,h,l,B=>pair2 h l (B g [] rfl)
 | n+1,f,g::k::r,ε,hl,h,l,B=>by
  obtain⟨e,D,H,G⟩:=pair3 h.1 l (B g (k::r) rfl);obtain⟨u,v,j⟩:=Zt2 n g (k::r) e (by simp at hl ⊢;omega) h.2 D (λM N w=>by injection w with d q;subst d;exact H)
  rcases(show e<=u\/u<=e by grind)with I|I
  .exact⟨e,D,λη d q x hs o=>⟨G η d q x hs o,j η d O4 x hs o⟩⟩
  .exact⟨u,v,λη d q x hs o=>⟨G η d O4 x hs o,j η d q x hs o⟩⟩
def Lip(s t L:Rat)(f:Rat->Rat):Prop:=∀x y,s<=x->x<=y->y<=t->f x-f y<=L*(y-x)/\f y-f x<=L*(y-x)
def vat(fs:List (Rat->Rat))(x:Rat):Int:=chg (fs.map λg=>Ea (g x))
theorem Yma{L:Rat}(w:0<L)(G:∀g∈f::fs,Lip s t L g)(o:0<δ)(n:∀x,s<=x->x<=t->Big δ x f)(H:Rls s t f fs) :
  ∃h,0<h/\∀x y,s<=x->x<=y->y<=t->y-x<=h->vat (f::fs) x=vat (f::fs) y:=by
 obtain⟨e,q,u⟩:=Zt2 fs.length f fs δ (aH _) H o (λg r _ x hs I=> .inl (n x hs I));obtain⟨η,l,Q,R⟩:=Gb o (show(0:Rat)<1 by decide) q;obtain⟨h,v,N,P⟩:=Gb l w l;refine⟨h,v,λx y d j M D=>SV.chg ?_⟩;refine Zo7 O4 fs.length f fs (aH _) (Zx8 O4 (n x d O4)) (λg B=>?_) (Zls _ _ _ (aH _) (u η l O4 x d O4));obtain⟨a,b⟩:=G g B x y d j M;have:=dK D (show 0<=L by grind);exact⟨O4,O4⟩
theorem Yck{L:Rat}(G:0<L)(M:∀g∈f::fs,Lip s t L g)(I:0<δ)(H:∀x,s<=x->x<=t->Big δ x f)(P:Rls s t f fs)(q:s<=t) :
  vat (f::fs) s=vat (f::fs) t:=by
 obtain⟨h,B,u⟩:=Yma G M I H P;have r:∀n:Nat,∀y,s<=y->y<=t->y-s<=(n:Rat)*h->vat (f::fs) s=vat (f::fs) y:=λn=>by
  induction n with
  | zero=>
    intro y d e j;have:y=s:=by simp at j;grind
    rw [this]
  | succ n w=>
   intro y d e j;have v:((n+1:Nat):Rat)*h=(n:Rat)*h+h:=by push_cast;grind
   rcases(show y-s<=(n:Rat)*h\/(n:Rat)*h<y-s by grind)with l|l
   .exact w y d e l
   .have D:(0:Rat)<=(n:Rat)*h:=aJ (by exact_mod_cast bG n) O4;rcases(show s<=y-h\/y-h<s by grind)with o|o
    .rw [w (y-h) o O4 O4];exact u (y-h) y o O4 e O4
    .exact u s y O4 d e O4
 have d:∃n:Nat,t-s<=(n:Rat)*h:=by
  have e:0<h⁻¹:=fZ.2 B;refine⟨((t-s)*h⁻¹).ceil.toNat,?_⟩;have j:=@oJ ((t-s)*h⁻¹);have v:((((t-s)*h⁻¹).ceil:Int):Rat)<=((((t-s)*h⁻¹).ceil.toNat:Nat):Rat):=by have:((t-s)*h⁻¹).ceil<=((((t-s)*h⁻¹).ceil.toNat:Nat):Int):=mB _;exact_mod_cast this
  have l:=dK (oE j v) (show 0<=h by grind);have D:(t-s)*h⁻¹*h=t-s:=O4;grind
 obtain⟨n,N⟩:=d;exact r n t q O4 N
def Zf:List Int->Rat->Rat
 | [],_=>0
 | c::p,x=>(c:Rat)+x*Zf p x
theorem Yob(s t:Rat):∃K:Rat,0<K/\∀x,s<=x->x<=t->-K<=x/\x<=K:=by
 rcases(show(0<=s\/s<0) by grind)with h|h<;>rcases(show(0<=t\/t<0) by grind)with d|d
 .exact⟨t+1,O4,λx _ _=>O4⟩
 .exact⟨1,O4,λx _ _=>O4⟩
 .exact⟨t-s+1,O4,λx _ _=>O4⟩
 .exact⟨-s+1,O4,λx _ _=>O4⟩
theorem Zta(s t:Rat):∀p:List Int,∃B:Rat,0<B/\∀x,s<=x->x<=t->-B<=Zf p x/\Zf p x<=B
 | []=>⟨1,O3,λx _ _=>by unfold Zf;grind⟩
 | c::p=>by obtain⟨B,e,g⟩:=Zta s t p;obtain⟨K,q,r⟩:=Yob s t;obtain⟨C,u,h⟩:=Yob (c:Rat) (c:Rat);have v:=h (c:Rat) O4 O4;refine⟨C+K*B,by have:=bD q e;grind,λx hs d=>?_⟩;obtain⟨j,l⟩:=g x hs d;obtain⟨n,o⟩:=r x hs d;obtain⟨f1,f2⟩:=Zca n o j l O4;unfold Zf;constructor<;>grind
theorem Bd(s t:Rat):∀p:List Int,∃L:Rat,0<L/\Lip s t L (Zf p)
 | []=>⟨1,O3,λx y _ _ _=>by unfold Zf;constructor<;>grind⟩
 | c::p=>by obtain⟨L,u,v⟩:=Bd s t p;obtain⟨B,G,j⟩:=Zta s t p;obtain⟨K,o,r⟩:=Yob s t;refine⟨K*L+B,by have:=bD o u;grind,λx y hs d h=>?_⟩;obtain⟨w,D⟩:=v x y hs d h;obtain⟨H,I⟩:=j y O4 h;obtain⟨l,n⟩:=r x hs O4;obtain⟨f1,f2⟩:=Zca (q:=x) (g:=Zf p x-Zf p y) (e:=L*(y-x)) l n O4 O4 O4;have M:=aJ (a:=B-Zf p y) (b:=y-x) O4 O4;have N:=aJ (a:=B+Zf p y) (b:=y-x) O4 O4;unfold Zf;constructor<;>grind
theorem Zk0(x:Rat):∀q:List Int,(∀i,cf q i=0)->Zf q x=0
 | [],_=>rfl
 | c::q,h=>by have d:c=0:=h 0;have e:=Zk0 x q λi=>h (i+1);unfold Zf;rw [e,d];grind
theorem Nw(x:Rat):∀p q:List Int,(∀i,cf p i=cf q i)->Zf p x=Zf q x
 | [],q,h=>by rw [Zk0 x q λi=>(h i).symm.trans (Yg (bG _))];rfl
 | c::p,[],h=>by rw [Zk0 x (c::p) λi=>(h i).trans (Yg (bG _))];rfl
 | c::p,d::q,h=>by have e:c=d:=h 0;have g:=Nw x p q λi=>h (i+1);unfold Zf;rw [g,e]
def Mt:List Int->List Int->List Int
 | [],q=>q
 | p,[]=>p
 | a::p,b::q=>(a+b)::Mt p q
theorem Zud(p:List Int):Mt p []=p:=by cases p<;>rfl
theorem Xi(x:Rat):∀p q:List Int,Zf (Mt p q) x=Zf p x+Zf q x
 | [],q=>by unfold Mt;show Zf q x=0+Zf q x;grind
 | a::p,[]=>by rw [Zud];show Zf (a::p) x=Zf (a::p) x+0;grind
 | a::p,b::q=>by have h:=Xi x p q;unfold Mt Zf;rw [h];push_cast;grind
theorem Lk:∀(p q:List Int) (i:Nat),cf (Mt p q) i=cf p i+cf q i
 | [],q,i=>by unfold Mt;rw [show cf [] i=0 from Yg (bG _)];omega
 | a::p,[],i=>by rw [Zud,show cf [] i=0 from Yg (bG _)];omega
 | a::p,b::q,0=>rfl
 | a::p,b::q,i+1=>Lk p q i
theorem Zl(x:Rat)(c:Int):∀p:List Int,Zf (p.map λa=>c*a) x=(c:Rat)*Zf p x
 | []=>by show(0:Rat)=c*0;grind
 | a::p=>by have h:=Zl x c p;simp only [cK];unfold Zf;rw [h];push_cast;grind
theorem Qu(c:Int):∀(p:List Int) (i:Nat),cf (p.map λa=>c*a) i=c*cf p i
 | [],i=>by simp [cf]
 | a::p,0=>rfl
 | a::p,i+1=>Qu c p i
def lmul:List Int->List Int->List Int
 | [],_=>[]
 | c::p,q=>Mt (q.map λa=>c*a) (0::lmul p q)
theorem Yc(x:Rat):∀p q:List Int,Zf (lmul p q) x=Zf p x*Zf q x
 | [],q=>by show(0:Rat)=0*Zf q x;grind
 | c::p,q=>by have h:=Yc x p q;unfold lmul;rw [Xi,Zl];show(c:Rat)*Zf q x+(((0:Int):Rat)+x*Zf (lmul p q) x)=((c:Rat)+x*Zf p x)*Zf q x;rw [h];grind
theorem Ek:∀(p q:List Int) (i:Nat),cf (lmul p q) i=Yf (λk=>cf p k*cf q (i-k)) (i+1)
 | [],q,i=>by rw [show cf (lmul [] q) i=0 from Yg (bG _)];exact(Gf λk _=>by rw [show cf [] k=0 from Yg (bG _),cN]).symm
 | c::p,q,0=>by unfold lmul;rw [Lk,Qu,Yi,Hr];show c*cf q 0+0=0+c*cf q 0;omega
 | c::p,q,i+1=>by have h:=Ek p q i;unfold lmul;rw [Lk,Qu,Mr];show c*cf q (i+1)+cf (lmul p q) i=c*cf q (i+1)+_;rw [h];congr 1;refine Xa λk d=>?_;show cf p k*cf q (i-k)=cf p k*cf q (i+1-(k+1));rw [show i+1-(k+1)=i-k by omega]
theorem Dr{a c:Int}{s z:List Int}(h:∀t,a*cf x t=(ps s*ps y).c t-c*cf z t)(q:Rat):(a:Rat)*Zf x q=Zf s q*Zf y q-(c:Rat)*Zf z q:=by
 have d:∀t,cf (Mt (x.map λb=>a*b) (z.map λb=>c*b)) t=cf (lmul s y) t:=λt=>by rw [Lk,Qu,Qu,Ek,h t,PS.mul_c];show Yf (λk=>cf s k*cf y (t-k)) (t+1)-c*cf z t+c*cf z t=_;omega
 have e:=Nw q _ _ d;rw [Xi,Zl,Zl,Yc]at e;grind
theorem Yc4(G:Tr x)(r:Tr y)(h:y≠[])(P:y.length<=x.length):Rl3 s t (Zf x) (Zf y) (Zf (Ns x y)):=by
 have S:=aE.2 h;obtain⟨r1,r2,k,u,N⟩:=Zbs r h x.length x G O;have hs:=Zds (f:=x.length) G r h P O;have o:Tr (Zfa (Gm x.length x y)):=Qe _ _;obtain⟨m,n,Q,R,D⟩:=Ze9 o;rw [hs]at D;have M:0<Fd y^k:=kR (Zf5 r h);obtain⟨B,H,v⟩:=Zta s t u;have l:(0:Rat)<(m:Rat):=by exact_mod_cast Q
 have d:(0:Rat)<(n:Rat):=by exact_mod_cast R
 have j:(0:Rat)<((Fd y^k:Int):Rat):=by exact_mod_cast M
 refine⟨(n:Rat)*((Fd y^k:Int):Rat),(m:Rat),(n:Rat)*B,bD d j,l,bD d H,λq e g=>⟨(n:Rat)*Zf u q,?_,?_,?_⟩⟩
 .have:=aJ (a:=(n:Rat)) (b:=Zf u q+B) O4 (by have:=v q e g;grind);grind
 .have:=aJ (a:=(n:Rat)) (b:=B-Zf u q) O4 (by have:=v q e g;grind);grind
 .have I:=Dr (a:=Fd y^k) (c:=-1) (x:=x) (s:=u) (y:=y) (z:=Gm x.length x y) (λt=>by rw [N t];omega) q;have w:Zf ((Ns x y).map λb=>m*b) q=Zf ((Gm x.length x y).map λb=>(-n)*b) q:=Nw q _ _ λi=>by rw [Qu,Qu,D i,Du,jZ,oI]
  rw [Zl,Zl]at w;push_cast at I w ⊢;grind
theorem rl2_of{g:Rat->Rat}(h:Rl3 s t f g (Zf [])):Rl2 s t f g:=by obtain⟨m,n,Q,l,w,j,o⟩:=h;refine⟨m,Q,l,j,λx d e=>?_⟩;obtain⟨q,r,u,v⟩:=o x d e;refine⟨q,r,u,?_⟩;have:Zf [] x=0:=rfl;rw [this]at v;grind
theorem Zn7 : ∀(f:Nat) (a b:List Int),Tr a->Tr b->cok f a b->∃r,Nu f a b=a::r/\Rls s t (Zf a) (r.map Zf)/\(b=[]->r=[])/\(b≠[]->∃r',r=b::r'):=λf=>by
 induction f with
 | zero=>
  intro a b j l h;have d:b=[]:=h;subst d;exact⟨[],rfl,aA,λ_=>rfl,λh=>absurd rfl h⟩
 | succ f D=>
  intro a b j l h;by_cases d:b=[]
  .subst d;exact⟨[],Ew _ _,aA,λ_=>rfl,λh=>absurd rfl h⟩
  .obtain⟨g,H,G,n,B,hs⟩:=Zg2 h d;obtain rfl:f=g:=O;obtain⟨r,q,u,v,w⟩:=D b (Ns a b) l (Zck j) B;have e:=Yc4 (s:=s) (t:=t) j l d n;refine⟨b::r,by rw [hs,q],?_,λh=>absurd h d,λ_=>⟨r,rfl⟩⟩;by_cases o:Ns a b=[]
   .rw [v o];rw [o]at e;exact rl2_of e
   .obtain⟨r',rfl⟩:=w o;exact⟨e,u⟩
theorem Zt3{L M:Rat}(h:L<=M)(j:Lip s t L f):Lip s t M f:=λx y d e g=>by obtain⟨a,b⟩:=j x y d e g;have:=dK h (show 0<=y-x by grind);constructor<;>grind
theorem Yaa(s t:Rat):∀ls:List (List Int),∃L:Rat,0<L/\∀g∈ls.map Zf,Lip s t L g
 | []=>⟨1,O3,λg d=>by cases d⟩
 | p::ls=>by
  obtain⟨L,j,e⟩:=Yaa s t ls;obtain⟨M,l,h⟩:=Bd s t p;refine⟨L+M,O4,λg d=>?_⟩;rw [cK]at d;rcases bQ.1 d with rfl|d
  .exact Zt3 O4 h
  .exact Zt3 O4 (e g d)
theorem Zfz{f:Nat}(l:Tr a)(n:Tr b)(o:cok f a b)(d:s<=t)(q:0<δ)(j:∀x,s<=x->x<=t->Big δ x (Zf a)) :
  vat ((Nu f a b).map Zf) s=vat ((Nu f a b).map Zf) t:=by
 obtain⟨r,g,h,_,_⟩:=Zn7 (s:=s) (t:=t) f a b l n o;obtain⟨L,u,e⟩:=Yaa s t (Nu f a b);rw [g]at e ⊢;exact Yck u e q j h d
theorem Zs7(x:Rat)(l:Int):∀p:List Int,Zf (p ++ [l]) x=Zf p x+(l:Rat)*x^p.length
 | []=>by show(l:Rat)+x*0=0+l*x^0;rw [eH];grind
 | c::p=>by have h:=Zs7 x l p;rw [iF,dI,dS];unfold Zf;rw [h];grind
def alt:List Int->List Int
 | []=>[]
 | c::p=>c::(alt p).map λa=>-1*a
theorem Yhg(c:Int)(p:List Int)(X Y:Int)(h:p≠[]):pev (c::p) X Y=c*Y^p.length+X*pev p X Y:=by
 have d:=aE.2 h;unfold pev;rw [dI,Mr,<-Nr];congr 1
 .show c*(X^0*Y^(p.length+1-1-0))=_;rw [cL,eQ,show p.length+1-1-0=p.length by omega]
 .refine Xa λi hi=>?_;show cf p i*(X^(i+1)*Y^(p.length+1-1-(i+1)))=X*(cf p i*(X^i*Y^(p.length-1-i)));rw [show p.length+1-1-(i+1)=p.length-1-i by omega,dA];grind
theorem Zzv{X Y:Int}(e:0<Y):∀p:List Int,((pev p X Y:Int):Rat)=Zf p ((X:Rat)/(Y:Rat))*(Y:Rat)^(p.length-1)
 | []=>by show(0:Rat)=0*_;grind
 | [c]=>by
  have:pev [c] X Y=c:=by unfold pev;show 0+c*(X^0*Y^0)=c;rw [cL,cL];omega
  rw [this];show(c:Rat)=(c+X/Y*0)*(Y:Rat)^0;rw [eH];grind
 | c::d::p=>by
  have h:=Zzv (X:=X) e (d::p);rw [Yhg c (d::p) X Y O5];have g:(Y:Rat)≠0:=by
    have:(0:Rat)<(Y:Rat):=by exact_mod_cast e
    grind
  push_cast;rw [h];show(c:Rat)*(Y:Rat)^(p.length+1)+X*(Zf (d::p) (X/Y)*(Y:Rat)^(p.length+1-1))=((c:Rat)+X/Y*Zf (d::p) (X/Y))*(Y:Rat)^(p.length+1+1-1);rw [show p.length+1-1=p.length by omega,show p.length+1+1-1=p.length+1 by omega,dS];generalize Zf (d::p) (X/Y)=R;generalize (Y:Rat)^p.length=P;have:(X:Rat)/Y*Y=X:=O4;grind
theorem Yfs{z:Int}{r q:Rat}(j:0<q)(h:(z:Rat)=r*q):z.sign=Ea r:=by
 rcases(show r<0\/r=0\/0<r by grind)with d|d|d
 .rw [Au d];have:=bD (a:=-r) (b:=q) O4 j;have e:(z:Rat)<0:=O4;have g:z<0:=by exact_mod_cast e
  exact eV g
 .subst d;have e:(z:Rat)=0:=O4;have g:z=0:=by exact_mod_cast e
  subst g;rfl
 .rw [Ar d];have:=bD d j;have e:(0:Rat)<z:=O4;have g:0<z:=by exact_mod_cast e
  exact fJ g
theorem Zeb{X:Int}(d:0<Y)(p:List Int):Ds X Y p=Ea (Zf p ((X:Rat)/(Y:Rat))):=by
 have:(0:Rat)<(Y:Rat):=by exact_mod_cast d
 exact Yfs (Rat.pow_pos this) (Zzv d p)
theorem Ymv(n:Tr xs)(j:xs≠[])(h:eok F (gA (Yz xs) (Yx (Yz xs))) (gB (Yz xs) (Yx (Yz xs)))):∃g:List Int,∀x,Zf xs x=Zf (sqf F xs) x*Zf g x:=by
 obtain⟨f1,f2,f3,f4,f5,f6⟩:=Ou (F:=F) n j h;have e:∃k:Int,∀i,cf xs i=k*cf (Yz xs) i:=by
  unfold Yz Lm;split
  .refine⟨-Ys xs,λi=>?_⟩;rw [Yk,<-Fn xs i];grind
  .refine⟨Ys xs,λi=>?_⟩;rw [<-Fn xs i];grind
 obtain⟨k,e⟩:=e;refine⟨(Na F (Yz xs) (Yx (Yz xs))).map λa=>k*a,λx=>?_⟩;have l:Zf (Yz xs) x=Zf (sqf F xs) x*Zf (Na F (Yz xs) (Yx (Yz xs))) x:=by
  have:=Dr (a:=1) (c:=0) (x:=Yz xs) (s:=sqf F xs) (y:=Na F (Yz xs) (Yx (Yz xs))) (z:=[]) (λt=>by have d:=Hh (sqf F xs) (Na F (Yz xs) (Yx (Yz xs))) t;rw [<-f4]at d;rw [d];omega) x
  push_cast at this;grind
 have d:Zf xs x=Zf ((Yz xs).map λa=>k*a) x:=Nw x _ _ λi=>by rw [Qu];exact e i
 rw [d,Zl,Zl,l];grind
theorem Ylv{x:Rat}{f:List Int->Int}(h:∀p∈ls,Ea (Zf p x)=f p):vat (ls.map Zf) x=chg (ls.map f):=by unfold vat;rw [lD];exact aI chg (kX λp d=>h p d)
def Yo2{X:Int}(d:0<Y):cnt F xs X Y=vat ((chn F xs).map Zf) ((X:Rat)/(Y:Rat)):=
 (Ylv λp _=>(Zeb d p).symm).symm
end Go.Sky

