/- Rules, arithmetic and contracts: part 5. No conditions but those that each theorem names. -/
import Derived.Test.YteikicbnfbgpnaaGreatEh03
import Derived.Scope
set_option linter.all false
namespace Go.Sky
variable{a b p x y xs:List Int}{i:Nat}{s:Int}{ls:List (SL×List Int)}
def Psim(a b:List Int):Prop:=∃m n:Int,0<m/\0<n/\∀i,m*cf a i=n*cf b i
def Psim.refl(a:List Int):Psim a a:=⟨1,1,O3,O3,λ_=>rfl⟩
def Psim.symm : Psim a b->Psim b a:=λ⟨m,n,c,d,h⟩=>⟨n,m,d,c,λi=>(h i).symm⟩
theorem Psim.trans{c:List Int} : Psim a b->Psim b c->Psim a c:=λ⟨m,n,d,e,h⟩ ⟨u,v,f,g,k⟩=>
 ⟨m*u,n*v,gE d f,gE e g,λi=>by have j:=h i;have l:=k i;grind⟩
def Psim.sim : Psim a b->Sim a b:=λ⟨m,n,c,d,h⟩=>⟨m,n,O1,O1,h⟩
theorem Zej(h:Tr p):Psim (Zx p) p:=by
 by_cases c:p=[]
 .subst c;exact Psim.refl _
 .exact⟨Yz p,1,by have:=Ox p;have:=Bi h c;omega,O3,λi=>by rw [fS,dB];exact Hx p i⟩
theorem Zkx(f:Tr a)(g:Tr b)(h:Psim a b):Zx a=Zx b:=by
 by_cases c:a=[]
 .rw [h.sim.nil g c,c]
 .have j:b≠[]:=λe=>c (h.sim.symm.nil f e);obtain⟨m,n,w,B,e⟩:=(Zej f).trans (h.trans (Zej g).symm);have q:=Yy f;have v:=Yy g;have hs:Sim (Zx a) (Zx b):=⟨m,n,O1,O1,e⟩;have d:Zx a≠[]:=λe=>c (aF (by rw [<-Zz,e];rfl));rcases Zkd q v d (Lu f c) (Lu g j) hs with k|k
  .exact k
  .exfalso;have o:=q.mem d;have l:=e ((Zx a).length-1);have r:=k ((Zx a).length-1);rw [r]at l o;generalize cf (Zx b) ((Zx a).length-1)=z at l o;rw [lF]at l;have t:(m+n)*z=0:=by rw [mL];omega
   rcases fN.1 t with u|u<;>omega
def Za9(y:List Int):Int:=if cf y (y.length-1)<0 then-cf y (y.length-1)else cf y (y.length-1)
def rb(x y:List Int):Int:=if cf y (y.length-1)<0 then-cf x (x.length-1)else cf x (x.length-1)
def Zca(x y:List Int):List Int:=Aw (Zm x (Za9 y)) (shm y (rb x y) (x.length-y.length) y.length)
def Zag:Nat->List Int->List Int->List Int
 | 0,x,_=>x
 | f+1,x,y=>if x.length<y.length then x else Zag f (Zca x y) y
theorem Zp4(e:Tr x)(f:0<y.length)(d:y.length<=x.length):(Zca x y).length<x.length:=by
 have h:=Za4 (p:=Zca x y) (n:=x.length-1) λi hi=>by
  unfold Zca;rw [Ao,Xk,Yko];by_cases c:i=x.length-1
  .subst c;rw [aK O1,show x.length-1-(x.length-y.length)=y.length-1 by omega];unfold Za9 rb;split
   .grind
   .grind
  .rw [Yr (p:=x) O1,aH O1];omega
 rw [show tzl (Zca x y)=Zca x y from Ap Zyh]at h;omega
theorem Ygf(x:List Int)(t:Nat):Za9 y*cf x t=(ps (mono (x.length-y.length) (rb x y))*ps y).c t+cf (Zca x y) t:=by
 unfold Zca;rw [Zk8,Ao,Xk,Yko,Nj];by_cases c:x.length-y.length<=t
 .rw [aK c];by_cases d:t<x.length-y.length+y.length
  .rw [aK ⟨c,d⟩,dB (cf x t)];omega
  .rw [aH O1,Yr (p:=y) O1,dB (cf x t)];omega
 .rw [aH c,aH O1,dB (cf x t)];omega
theorem Zfo(d:Tr y)(c:y≠[]):0<Za9 y:=by have:=d.mem c;unfold Za9;split<;>omega
theorem Zfi{y:List Int}(m:Tr y)(d:y≠[]):∀(f:Nat) (x:List Int),Tr x->x.length<y.length+f->Tr (Zag f x y)/\(Zag f x y).length<y.length/\∃(k:Nat) (s:List Int),∀t,Za9 y^k*cf x t=(ps s*ps y).c t+cf (Zag f x y) t
 | 0,x,c,e=>⟨c,e,0,[],λt=>by rw [Kd (λt=>Yr (bJ _)),cT];unfold Zag;omega⟩
 | f+1,x,c,e=>by
  unfold Zag;by_cases h:x.length<y.length
  .rw [aK h];exact⟨c,h,0,[],λt=>by rw [Kd (λt=>Yr (bJ _)),cT];omega⟩
  .rw [aH h];have n:=Zp4 c (aG.2 d) O1;obtain⟨g,j,k,s,hs⟩:=Zfi m d f (Zca x y) Zyh O1;refine⟨g,j,k+1,Aw (Zm s 1) (Zm (mono (x.length-y.length) (rb x y)) (-(Za9 y^k))),λt=>?_⟩;have o:=hs t;have l:=Ygf x (y:=y) t;rw [Zk7,dU];generalize Za9 y^k=K at *;generalize Za9 y=a at *;generalize (ps (mono (x.length-y.length) (rb x y))*ps y).c t=M at *;generalize (ps s*ps y).c t=S at *;generalize cf (Zca x y) t=X at *;generalize cf (Zag f (Zca x y) y) t=Z at *;have:K*a*cf x t=K*(a*cf x t):=O5;rw [this,l];grind
theorem Zs8(l:Int)(h:l≠0):∀n:Nat,(l<0/\n%2=1->l^n<0)/\(¬(l<0/\n%2=1)->0<l^n)
 | 0=>⟨λh=>O1,λ_=>by rw [cT];decide⟩
 | n+1=>by
  have e:=Zs8 l h n;rw [dU];by_cases d:l<0
  .by_cases f:n%2=1
   .have c:=e.1 ⟨d,f⟩;exact⟨λh=>O1,λ_=>Int.mul_pos_of_neg_of_neg c d⟩
   .have c:=e.2 O1;exact⟨λ_=>Int.mul_neg_of_pos_of_neg c d,λh=>O1⟩
  .have c:=e.2 O1;exact⟨λh=>O1,λ_=>gE c O1⟩
def Zel(p:List Int):List Int:=Zm p (-1)
theorem Di(p:List Int)(i:Nat):cf (Zel p) i=- cf p i:=by unfold Zel;rw [Xk];omega
theorem Zwg(h:Tr p):Zx (Zel p)=Zel (Zx p):=by
 have e:Yz (Zel p)=Yz p:=by
  have c:Yz (Zel p)∣Yz p:=Fg λi=>by have h:=Lg (Zel p) i;rw [Di]at h;exact mM.1 h
  have d:Yz p∣Yz (Zel p):=Fg λi=>by rw [Di];exact mM.2 (Lg p i)
  exact mZ (Ox _) (Ox _) c d
 refine(Yy Qf).ext Qf λi=>?_;show cf (Zx (Zel p)) i=cf (Zel (Zx p)) i;rw [Di,Zav,Di,e,Zav];exact Int.neg_ediv_of_dvd (Lg p i)
theorem Zg4 (f:Nat)(u:Tr x)(n:Tr y)(g:y≠[])(D:y.length<=x.length)(B:x.length<y.length+f):Zx (Zel (Zag f x y))=Ni x y:=by
 obtain⟨P,N,k,s,hs⟩:=Zfi n g f x u B;have G:=aG.2 g;obtain⟨H,h⟩:=Zha (p:=x) G D _ (aI _);have F:∀t,cf (Qw x y (x.length-y.length+1)) t=cf (Qk x y) t:=λt=>by unfold Qk;rw [aH O1,Il]
 have lp:=Pw x g;have j:=Ip y u;have c:=n.mem g;have o:0<Za9 y^k:=jG (Zfo n g);have d:=Zs8 (cf y (y.length-1)) c (x.length-y.length+1);generalize v:cf y (y.length-1)^(x.length-y.length+1)=L at h d;have w:L≠0:=by rw [<-v];exact Lj c _
 generalize Za9 y^k=K at hs o;have l:∀t,(ps (Aw (Zm H K) (Zm s L))*ps y).c t=cf (Aw (Zm (Zag f x y) L) (Zm (Qk x y) K)) t:=λt=>by rw [Zk7,Ao,Xk,Xk,<-F t];have q:=hs t;have I:=h t;generalize cf (Qw x y (x.length-y.length+1)) t=A at *;grind
 have z:=Yny n g l λt M=>by rw [Ao,Xk,Xk,Yr (p:=Zag f x y) O1,Yr (p:=Qk x y) O1];omega
 have e:∀t,L*cf (Zag f x y) t=K*cf (Qk x y) t:=λt=>by have q:=l t;rw [Kd z,Ao,Xk,Xk]at q;grind
 unfold Ni;by_cases m:cf y (y.length-1)<0/\(x.length-y.length+1)%2=1
 .rw [aK m];have r:=d.1 m;exact Zkx Qf j ⟨-L,K,O1,o,λt=>by rw [Di,<-e];grind⟩
 .rw [aH m];have r:=d.2 m;rw [show Zm (Zx (Qk x y)) (-1)=Zel (Zx (Qk x y))from rfl,<-Zwg j];exact Zkx Qf Qf ⟨L,K,r,o,λt=>by rw [Di,Di,lF,e,lF]⟩
theorem Zb3(c:Tr x):Tr (Ni x y):=by
 unfold Ni;split
 .exact Yy (Ip _ c)
 .exact Qf
theorem Zbe (y:List Int)(c:Tr x):(Ni x y).length=(Qk x y).length:=by
 unfold Ni;have h:Tr (Zx (Qk x y)):=Yy (Ip _ c);split
 .exact Zz _
 .rw [<-Zz (Qk x y)];exact((Zed (Zx (Qk x y)) (by decide:(-1:Int)≠0)).len h Qf).symm
theorem Zvv{n:Nat}(h:Sz n p):Sz n (Xb p):=λi=>by
 unfold Xb;rw [Ee];split
 .rw [eI];exact Fm h i
 .exact Fm h i
theorem Zk3(h:Tr p)(c:p≠[]):Xb p≠[]:=λe=>c (aF (by rw [<-Pj h,e];rfl))
theorem Bk{g:List Int}(h:Tr g)(c:g≠[]):0<cf (Hi g) ((Hi g).length-1):=by have d:=h.mem c;rw [Zbf h,Ee];have:g.length≠0:=λe=>c (aF e);split<;>omega
theorem Zal(h:Tr p)(c:p≠[]):Yz (Xb p)=1:=by unfold Xb;rw [Zib];exact Lu h c
theorem Zwn(h:Tr p)(c:Yz p=1)(d:0<cf p (p.length-1)):Xb p=p:=by unfold Xb;rw [Zft c];unfold Hi;rw [aH O1]
theorem Og (F:Nat)(v:Tr xs)(w:xs≠[])(D:eok F (gA (Xb xs) (Xa (Xb xs))) (gB (Xb xs) (Xa (Xb xs)))) :
  pdv (Xb xs) (Mg F (Xb xs) (Xa (Xb xs)))/\Tr (sqf F xs)/\sqf F xs≠[]/\Xb xs=Qn (sqf F xs) (Mg F (Xb xs) (Xa (Xb xs)))/\Mg F (Xb xs) (Xa (Xb xs))≠[]/\Xb (sqf F xs)=sqf F xs:=by
 have hs:Tr (Xb xs):=Ov (Yy v);have j:Tr (Xa (Xb xs)):=Mm hs;have n:=Zk3 v w;have l:=(Zda hs j D).1;have o:=Ze9 F hs j;have d:Mg F (Xb xs) (Xa (Xb xs))≠[]:=λe=>n ((e▸l).zero hs);have M:=Zk0 hs j d;obtain⟨k,s,N,h⟩:=l;obtain⟨q,P⟩:=gauss M _ k s rfl N h;have c:Xb xs=Qn (tzl q) (Mg F (Xb xs) (Xa (Xb xs))):=hs.ext Qb λi=>by rw [Iz,P,Ygz]
 obtain⟨I,R⟩:=Zpm (Qo q) o d;have g:sqf F xs=tzl q:=by unfold sqf;have r:=R;rw [<-c]at r;exact r
 rw [<-c]at I;have f:tzl q≠[]:=λe=>n (by rw [c,e,Gy]);refine⟨I,by rw [g];exact Qo q,by rw [g];exact f,by rw [g];exact c,d,?_⟩;rw [g];refine Zwn (Qo q) ?_ ?_
 .have z:=Zal v w;have t:Yz (tzl q)∣Yz (Xb xs):=Fg λi=>by
   rw [c,Iz,PS.mul_c];have G:∀m,Yz (tzl q)∣Yg (λk=>(ps (tzl q)).c k*(ps (Mg F (Xb xs) (Xa (Xb xs)))).c (i-k)) m:=λm=>by
    induction m with
    | zero=>exact iU _
    | succ m Q=>rw [Yn];exact pP Q (fC (Lg (tzl q) m) (jZ _ _))
   exact G _
  rw [z]at t;have B:=Ox (tzl q);have H:=mT O3 t;have u:Yz (tzl q)≠0:=Bi (Qo q) f;omega
 .have S:=aG.2 f;have V:=aG.2 d;have z:0<cf (Xb xs) ((Xb xs).length-1):=Bk (Yy v) (λe=>w (aF (by rw [<-Zz,e];rfl)));have t:0<cf (Mg F (Xb xs) (Xa (Xb xs))) ((Mg F (Xb xs) (Xa (Xb xs))).length-1):=Bk (Zue F (Zj5 hs j) (Zj4 hs j)) (λe=>d (by unfold Mg;rw [e];rfl));have B:=Oj (Qo q) o f d;rw [<-c]at B;have H:cf (Xb xs) ((Xb xs).length-1)=cf (tzl q) ((tzl q).length-1)*cf (Mg F (Xb xs) (Xa (Xb xs))) ((Mg F (Xb xs) (Xa (Xb xs))).length-1):=by rw [B,c,Iz,<-c,show(tzl q).length+(Mg F (Xb xs) (Xa (Xb xs))).length-1-1=((tzl q).length-1)+((Mg F (Xb xs) (Xa (Xb xs))).length-1) by omega];exact Bo _ (λi hi=>Yr O1) (λi hi=>Yr O1)
  rw [H]at z;rcases iG 0 (cf (tzl q) ((tzl q).length-1))with u|u
  .exact u
  .exfalso;have:=iJ u (eQ t);omega
def Np(p:List Int):(Xa p).length=p.length-1:=Yp _ _
theorem Zxf{n:Nat}(c:Sz n p)(g:p.length<=25)(i:Nat):bl (cf p (i+1)*((i:Int)+1)).natAbs<=n+5:=by
 rcases bC (i+1) p.length with h|h
 .have d:=Ya (cf p (i+1)) ((i:Int)+1);have e:=c (i+1);have f:bl ((i:Int)+1).natAbs<=5:=(Qi 5 _).2 O1;omega
 .rw [Yr h];simp [Km]
theorem Zgn(p:List Int)(i:Nat):cf (Xa p) i=cf p (i+1)*((i:Int)+1):=by
 unfold Xa;rw [Nk];split
 .rfl
 .rw [Yr O1,dD]
theorem Zad{n:Nat}(d:Sz n p)(c:p.length<=25):Sz (n+5) (Xa p):=λi=>by rw [Zgn];exact Zxf d c i
theorem Ze3(h:Vp p)(c:∀i,i<p.length->bl (cf p (i+1)*((i:Int)+1)).natAbs<=65536):Vp (Xa p):=by
 refine⟨λi=>?_,Mm h.tr,by rw [Np];have:=h.len;omega⟩;rw [Zgn];by_cases hi:i<p.length
 .exact c i hi
 .rw [Yr O1];simp [Km]
def sf_t(h:xs.length=0):Value.bool (decide (Zaf xs))= .bool true:=aL Value.bool (aJ (.inl h))
theorem sf_i{n:Int}(h:xs.length≠0)(d:n=(((xs.length+2)*(xs.length+2)*(Qx xs+16):Nat):Int)):Value.bool (decide (Zaf xs))= .bool (decide (n<=65536)):=aL Value.bool (bR.2 (by
 subst d;show(xs.length=0\/(xs.length+2)*(xs.length+2)*(Qx xs+16)<=65536)↔_;constructor
 .intro c;rcases c with c|c
  .exact absurd c h
  .exact lT.2 c
 .intro c;exact .inr (lT.1 c)))
theorem Ycl(h:(Qk x y).length=0):Ni x y=[]:=by have c:Qk x y=[]:=aF h;unfold Ni;rw [c];split<;>rfl
theorem Ymf(e:y.length<=x.length)(c:(cf y (y.length-1)).sign<0)(d:((x.length:Int)-(y.length:Int)+1)%2=1):Ni x y=Zx (Qk x y):=by unfold Ni;rw [aK ⟨(sign_neg_iff _).1 c,O1⟩]
theorem Zyp(c:¬(cf y (y.length-1)).sign<0):Ni x y=Zm (Zx (Qk x y)) (-1):=by unfold Ni;rw [aH (λh=>c ((sign_neg_iff _).2 h.1))]
theorem Zyo(d:y.length<=x.length)(c:¬((x.length:Int)-(y.length:Int)+1)%2=1):Ni x y=Zm (Zx (Qk x y)) (-1):=by unfold Ni;rw [aH (λh=>c O1)]
theorem Zvo{F:Nat}(k:Vp xs)(l:xs≠[])(h:Ymd F xs):Vp (sqf F xs):=by
 obtain⟨_,_,_,d,c⟩:=h;have j:=Yel k;unfold sqf Ks;split
 .exact⟨Sz.nil _,Tr.nil,O8⟩
 .rename_i e;rcases c with c|c
  .exact absurd c e
  .have f:=(Zdp d).2 c.1;refine⟨?_,Qo _,?_⟩
   .rw [<-Zgi];exact(Zym f c.2.1).tzl
   .have g:=Ko (Zhs (Xb xs) (Mg F (Xb xs) (Xa (Xb xs))) ((Xb xs).length-(Mg F (Xb xs) (Xa (Xb xs))).length+1));rw [Zgi,Zch]at g;have:=j.len;have:=(Zdp d).1;omega
theorem Zld{F:Nat}(g:Vp xs)(h:Ymd F xs):(sqf F xs).length<=xs.length:=by
 obtain⟨_,_,_,d,c⟩:=h;have j:=Pj g.tr;unfold sqf Ks;split
 .exact bJ _
 .rename_i e;rcases c with c|c
  .exact absurd c e
  .have f:=Ko (Zhs (Xb xs) (Mg F (Xb xs) (Xa (Xb xs))) ((Xb xs).length-(Mg F (Xb xs) (Xa (Xb xs))).length+1));rw [Zgi,Zch]at f;have:=(Zdp d).1;have:=c.1;omega
theorem Ybl{L:List Int}{n l:Int}(hi:i<L.length)(h:(n,l)=(L.take i).foldl Ml (0,0))(hs:L.getD i 0=s)(c:s=0):(n,l)=(L.take (i+1)).foldl Ml (0,0):=by rw [Po 0 L (k:=i) hi,Zep,<-h,hs];unfold Ml;rw [aK c]
theorem Ybk{L:List Int}{n l:Int}(hi:i<L.length)(h:(n,l)=(L.take i).foldl Ml (0,0))(hs:L.getD i 0=s)(c:s≠0)(d:s=-l):(n+1,s)=(L.take (i+1)).foldl Ml (0,0):=by rw [Po 0 L (k:=i) hi,Zep,<-h,hs];unfold Ml;rw [aH c];dsimp only;rw [aK d]
theorem Ybj{L:List Int}{n l:Int}(hi:i<L.length)(h:(n,l)=(L.take i).foldl Ml (0,0))(hs:L.getD i 0=s)(c:s≠0)(d:¬s=-l):(n,s)=(L.take (i+1)).foldl Ml (0,0):=by rw [Po 0 L (k:=i) hi,Zep,<-h,hs];unfold Ml;rw [aH c];dsimp only;rw [aH d]
theorem Yps{L:List Int}{n l:Int}(hi:L.length<=i)(h:(n,l)=(L.take i).foldl Ml (0,0)):n=chg L:=by rw [cE hi]at h;unfold chg;rw [<-h]
theorem Yfv{z:Int}:-1<=z.sign/\z.sign<=1:=by
 rcases jY z 0 with h|h|h
 .rw [fJ h];omega
 .subst h;simp
 .rw [gK h];omega
theorem Yh8{α:Type}{d:α}{f:α->Int}{ls:List α}(h:i<ls.length):(ls.map f).getD i 0=f (ls.getD i d):=by simp [aC,h]
def sgx(ls:List (SL×List Int))(f:List Int->Int):List Int:=ls.map λz=>f z.2
def Zsn(ls:List (SL×List Int))(f:List Int->Int)(h:i<ls.length):(sgx ls f).getD i 0=f (ls.getD i ((none,0,0),[])).2:=Yh8 h
def Zle(ls:List (SL×List Int))(f:List Int->Int):(sgx ls f).length=ls.length:=aP ..
def fr(p:List Int):Int:=(cf p (p.length-1)).sign
def fl(p:List Int):Int:=if p.length%2=0 then-(cf p (p.length-1)).sign else(cf p (p.length-1)).sign
def fat(x y:Int)(p:List Int):Int:=(pev p x y).sign
def fat_r(x y:Int)(p:List Int):-1<=fat x y p/\fat x y p<=1:=Yfv
theorem Zm0:∀(f:Nat) {x y:List Int},Vp x->Vp y->cok f x y->∀p∈Mu f x y,Vp p
 | 0,x,y,d,_,_,p,c=>by rw [bN.1 c];exact d
 | f+1,x,y,d,e,h,p,c=>by
  unfold Mu at c;split at c
  .rw [bN.1 c];exact d
  .rcases h with h|h
   .contradiction
   .rcases bB.1 c with rfl|c
    .exact d
    .exact Zm0 f e (Zr3 d h.1) h.2.2 p c
theorem vp_chn{F:Nat}(e:Vp xs)(f:xs≠[])(j:Bv F xs):∀p∈chn F xs,Vp p:=by obtain⟨c,g,h⟩:=j;have d:=Zvo e f c;exact Zm0 F d (Im (Ze3 d (λi hi=>g i (by have:=Zld e c;omega)))) h
def cnt(F:Nat)(xs:List Int)(x y:Int):Int:=chg ((chn F xs).map (fat x y))
def sright(F:Nat)(xs:List Int):Int:=chg ((chn F xs).map fr)
def sleft(F:Nat)(xs:List Int):Int:=chg ((chn F xs).map fl)
theorem Zyt{C:List (List Int)}(h:ls.map Prod.snd=C)(f:List Int->Int):sgx ls f=C.map f:=by rw [<-h,lQ];rfl
def Mz{C:List (List Int)}{p:List Int->Prop}(h:ls.map Prod.snd=C)(c:∀q∈C,p q):∀z∈ls,p z.2:=λz d=>c _ (h▸List.mem_map_of_mem d)
theorem Zhu(L:List Int):0<=chg L/\chg L<=L.length:=by
 unfold chg;suffices h:∀(l:List Int) (s:Int×Int),s.1<=(l.foldl Ml s).1/\(l.foldl Ml s).1<=s.1+l.length by have:=h L (0,0);simpa using this
 intro l
 induction l with
 | nil=>intro s;simp
 | cons x l c=>
  intro s;have d:=c (Ml s x);have e:=chg1_n s x;simp only [iO,eA];omega
theorem Zd1:∀(f:Nat) (x y:List Int),(Mu f x y).length<=f+1
 | 0,x,y=>aI _
 | f+1,x,y=>by
  unfold Mu;split
  .simp
  .have:=Zd1 f y (Ni x y);simp;omega
def sm(xs:List Int)(i:Nat):Nat:=(xs.take i).foldl (λm c=>max m c.natAbs) 0
def Zem{x y:Int}(h:¬Kq x y):Fq x y=x/Xs x y/\Gv x y=y/Xs x y/\Ygn x y=0:=⟨aH h,aH h,aH h⟩
theorem nr_bl{x y:Int}(h:¬Kq x y):bl (Fq x y).natAbs<=65536/\bl (Gv x y).natAbs<=65536:=by obtain⟨c,d,_⟩:=Zem h;rw [c,d];unfold Kq at h;omega
theorem Zwo{x y:Int}(h:¬Kq x y)(c:0<y):0<Gv x y:=by rw [(Zem h).2.1];exact Zn1 c
abbrev R2:=Int×Int
def Pn(a b:R2):R2:=(Fq (Fq (a.1*b.2+b.1*a.2) (a.2*b.2)*1) (Gv (a.1*b.2+b.1*a.2) (a.2*b.2)*2),Gv (Fq (a.1*b.2+b.1*a.2) (a.2*b.2)*1) (Gv (a.1*b.2+b.1*a.2) (a.2*b.2)*2))
def Zdz(a b:R2):Prop:=¬Kq (a.1*b.2+b.1*a.2) (a.2*b.2)/\¬Kq (Fq (a.1*b.2+b.1*a.2) (a.2*b.2)*1) (Gv (a.1*b.2+b.1*a.2) (a.2*b.2)*2)
instance (a b:R2):Decidable (Zdz a b):=by unfold Zdz;infer_instance
def Ydd{a b:R2}(h:Zdz a b):Ygn (Fq (a.1*b.2+b.1*a.2) (a.2*b.2)*1) (Gv (a.1*b.2+b.1*a.2) (a.2*b.2)*2)=0:=(Zem h.2).2.2
def isp(c:R2->Int)(e:Int):Nat->R2->R2->Int->Int->Nat->List (R2×R2)
 | 0,_,_,_,_,_=>[]
 | f+1,a,b,fr,g,d=>if fr=g then []else if fr-g=1/\e<=(d:Int)then [(a,b)]else isp c e f a (Pn a b) fr (c (Pn a b)) (d+1) ++ isp c e f (Pn a b) b (c (Pn a b)) g (d+1)
def Yae(c:R2->Int)(g:R2->Prop)(e:Int):Nat->R2->R2->Int->Int->Nat->Prop
 | 0,_,_,_,_,_=>False
 | f+1,a,b,fr,h,d=>fr=h\/(fr-h=1/\e<=(d:Int))\/(d<1000/\Zdz a b/\g (Pn a b)/\Yae c g e f a (Pn a b) fr (c (Pn a b)) (d+1)/\Yae c g e f (Pn a b) b (c (Pn a b)) h (d+1))
instance ispDec (c:R2->Int) (e:R2->Prop) [DecidablePred e] (g:Int):∀f a b fr h d,Decidable (Yae c e g f a b fr h d)
 | 0,_,_,_,_,_=>inferInstanceAs (Decidable False)
 | f+1,a,b,fr,h,d=>@instDecidableOr _ _ _ (@instDecidableOr _ _ _ (@instDecidableAnd _ _ _ (@instDecidableAnd _ _ _ (@instDecidableAnd _ _ _ (@instDecidableAnd _ _ (ispDec c e g f a (Pn a b) fr (c (Pn a b)) (d+1)) (ispDec c e g f (Pn a b) b (c (Pn a b)) h (d+1)))))))
def okQ(z:R2):Prop:=bl z.1.natAbs<=65536/\bl z.2.natAbs<=65536/\0<z.2
def evok(ls:List (SL×List Int))(m:R2):Prop:=∀z∈ls,¬Ke z.2 m.1 m.2
def cvx(ls:List (SL×List Int))(m:R2):Int:=chg (sgx ls (fat m.1 m.2))
def cvc(F:Nat)(xs:List Int)(m:R2):Int:=cnt F xs m.1 m.2
def evc(F:Nat)(xs:List Int)(m:R2):Prop:=∀p∈chn F xs,¬Ke p m.1 m.2
def slow(a:R2):R2:=(Fq a.1 a.2,Gv a.1 a.2)
def sisol(F:Nat)(xs:List Int)(f:Nat)(a b:R2)(c:Int):List (R2×R2):=isp (cvc F xs) c f (slow a) (slow b) (cvc F xs a) (cvc F xs b) 0
def isOK(F:Nat)(xs:List Int)(f:Nat)(a b:R2)(c:Int):Prop:=Bv F xs/\evc F xs a/\evc F xs b/\¬Kq a.1 a.2/\¬Kq b.1 b.2/\Yae (cvc F xs) (evc F xs) c f (slow a) (slow b) (cvc F xs a) (cvc F xs b) 0/\(sisol F xs f a b c).length<=1000000
open Go.RowKit Below
variable {P:Program} {N:Nat} {sc:Nat->Prop} {env env':Qy} {H H':Hp} {Q Q':Exit->Act->World->Prop} {M:Nat->Prop}
def CalM(P:Program)(f:FuncId)(args:Array Value)(pre:List Pc){G:Type}(φ:G->Prop)(Yj:G->Value)(d c:G->Pc):Prop:=
 ∀w,(∀p∈pre,p.holds w)->Calls P f args w λe h=>∃g,e= .returned (Yj g)/\φ g/\Below w.heap.size w h/\(d g).holds h/\(∀b,(d g).fp b->w.heap.size<=b)/\
  (c g).holds h/\(c g).own=false/\(∀b,(c g).fp b->w.heap.size<=b\/∃q∈pre,q.fp b)/\∀b,(d g).fp b->(c g).fp b->False
def FPostM(P:Program)(fn:Func)(w0:World)(pre:List Pc){G:Type}(φ:G->Prop)(Yj:G->Value)(d c:G->Pc):Exit->Act->World->Prop:=
 bodyPost P fn λe f=>∃g,e= .returned (Yj g)/\φ g/\Below w0.heap.size w0 f/\(d g).holds f/\(∀b,(d g).fp b->w0.heap.size<=b)/\
  (c g).holds f/\(c g).own=false/\(∀b,(c g).fp b->w0.heap.size<=b\/∃q∈pre,q.fp b)/\∀b,(d g).fp b->(c g).fp b->False
theorem Zkl{β:Type}{q:β->Pc}{zs ys:List β}(i j n:Nat)(hi:lk H i=some (Ib q zs))(l:lk H j=some (Ib q ys))(d:Nat.beq i 0=false)(e:Nat.beq j 0=false) :
  ∀a w,Sat N sc env H a w->Sat N sc env ((n,Ib q (zs ++ ys))::H) a w:=
 Zv6 i j n hi l d e rfl rfl (λw g k y f=>by
  rcases cQ.1 f with h|h
  .exact g y h
  .exact k y h) (λb c=>by
  obtain⟨y,f,c⟩:=c;rcases cQ.1 f with h|h
  .exact .inl ⟨y,h,c⟩
  .exact .inr ⟨y,h,c⟩) rfl
abbrev qD (z:SL×Nat):Pc:=Oq (Xx z.1) z.2
abbrev JE:=(R2×R2)×(SL×SL×SL×SL)
abbrev encJ (y:JE):Value:= .agg #[.bool (decide (y.1.1.1<0)),Xx y.2.1,.bool (decide (y.1.1.2<0)),Xx y.2.2.1,.bool (decide (y.1.2.1<0)),Xx y.2.2.2.1,.bool (decide (y.1.2.2<0)),Xx y.2.2.2.2]
abbrev qJ (y:JE):Pc:=Ib qD [(y.2.1,y.1.1.1.natAbs),(y.2.2.1,y.1.1.2.natAbs),(y.2.2.2.1,y.1.2.1.natAbs),(y.2.2.2.2,y.1.2.2.natAbs)]
abbrev J0:JE:=(((0,0),(0,0)),((none,0,0),(none,0,0),(none,0,0),(none,0,0)))
end Go.Sky
namespace Go.Sky
variable{M M0:Nat->Prop}{o:Oper}{x y:Operand}{t tb:TypeId}{cs:Array Value}{v:Value}{vs:List Value}{zs:List (SL×List Int)}{r:List Pc}{z:SL×List Int}
variable {P:Program} {N:Nat} {sc:Nat->Prop} {env env':Qy} {H H':Hp} {Q Q':Exit->Act->World->Prop}
theorem Zss(w:World)(g:Nat)(cs:Array Value)(t:TypeId){fr:Nat×Nat}(a:w.heap[g]? = some (.cells cs t fr)):w.setRow g cs=w:=by
 obtain⟨b,c⟩:=aZ.1 a;have h:(w.setRow g cs).heap=w.heap:=by
  apply Array.ext_getElem?;intro i;by_cases h:g=i
  .subst h;rw [setRow_heap w g cs cs t fr a,a]
  .unfold World.setRow;dsimp only;rw [Array.getElem?_modify,aH h]
 have e:w.setRow g cs={ w with heap:=(w.setRow g cs).heap }:=rfl;rw [e,h]
theorem Zm9 (i:Nat)     {b j k:Nat}    (s:o.op= .store t x y) (p:o.dst=none)
  (D:ev env x=some (.pointer (some ⟨b,j,none⟩))) (F:ev env y=some v) (m:lk H i=some (Ka b tb cs)) (B:v.cells=vs.toArray) (q:∀w,(sizeOf t).run P w= .ok k w) (d:vs.length=k)
  (c:Nat.ble (j+vs.length) cs.size=true) (l:∀u∈vs,u.oneCell'=true) (e:Gi cs j vs=cs) :
  T P N sc M o env H (G:=Unit) (λ_=>True) (λ_=>env) (λ_=>H):=λa w hs K Q n=>by
 have g:w.heap[b]? = some (.cells cs tb (0,0)):=hs.hold i _ m;have f:=run_storeCells_at P b j tb vs 0 cs w g (by simpa using jS c) l;simp only [eH]at f;have h:(execOp a.eval o).run P w= .ok .skip (w.setRow b (Gi cs j vs)):=by simp [execOp,s,hs.ev D,hs.ev F,Instr.storeAt,Instr.sureAddr,storeVar,B,q,d,f,Gi]
 rw [e,Zss w b cs tb g]at h;unfold Oper.wp;rw [h];show K (a.put o.dst _) _;rw [p];exact n () _ _ aA (hs.put_none undef) (Chg.refl _ _)
def You{c:Code}(h:E P N sc c (Exit.noGoto Q) env H):E P N sc (.scope c) Q env H:=λa w hs=>wp_scope_straight (h a w hs)
def x_ngn(h:X N sc .normal Q env H):X N sc .normal (Exit.noGoto Q) env H:=h
def Yov{l:Nat}(h:X N sc .normal Q env H):E P N sc (.label l) Q env H:=λa w hs=>wp_label (h a w hs)
def t_stp1     {i b j:Nat}   {w0:World}  (m:o.op= .store t x y) (k:o.dst=none)
  (p:ev env x=some (.pointer (some ⟨b,j,none⟩))) (q:ev env y=some v) (g:lk H i=some (box b tb cs)) (d:i≠0) (l:∀w,(sizeOf t).run P w= .ok 1 w) (c:Nat.ble (j+1) cs.size=true) (e:One N sc env H v)
  (f:lk H 0=some (Yo w0 M0)) (n:∀b,w0.heap.size<=b->sc b) (h:M b) :
  T P N sc M o env H (G:=Unit) (λ_=>True) (λ_=>env) (λ_=>(i,box b tb (Gi cs j [v]))::H):=λa w hs=>
 t_stp (cs':=#[]) (vs:=[v]) m k p q g d (Yb (e a w hs)) l rfl c ⟨e,aA⟩ f n h a w hs
def Yg1{al:Bool}(i:Nat)(hi:lk H i=some (Xp 1 Ij (λy:SL×List Int=>Yw 2 wv (Xx y.1) y.2) v zs))(a:Nat.beq i 0=false)(b:z∈zs)(h:PreOk H al r):PreOk H al (Yw 2 wv (Xx z.1) z.2::r):=Zs6 (q:=λy:SL×List Int=>Yw 2 wv (Xx y.1) y.2) (z:=z) i hi a b h
end Go.Sky
namespace Go.Sky
variable{v:Int}{o:Oper}{x y:Operand}{t tb:TypeId}{b k i:Nat}{kd:IntKind}{M M0:Nat->Prop}{w0:World}{cs:Array Value}
variable {P:Program} {N:Nat} {sc:Nat->Prop} {env env':Qy} {H H':Hp} {Q Q':Exit->Act->World->Prop}
def Bs(l:List Int):Array Value:=(l.map (Value.int .i64)).toArray
theorem Ycb(l:List Int):(Bs l).size=l.length:=by simp [Bs]
theorem Yek{l:List Int}{j:Nat}(h:j<l.length):(Bs l)[j]? = some (.int .i64 (l.getD j 0)):=by simp [Bs,aD h,aC]
theorem Yej{l:List Int}{j:Nat}(h:j<l.length):Gi (Bs l) j [.int .i64 v]=Bs (l.set j v):=by unfold Gi Bs;congr 1;rw [gI,aK h,dZ,bT,mS,List.map_drop];simp
theorem Gk (i:Nat)   {e:TypeId} {d c:Nat}  {m:Int} (j:o.op= .indexAddr t x y) (n:ev env x=some (.pointer (some ⟨b,d,none⟩))) (p:ev env y=some (.int kd m))
  (l:P.underlying t=some (.array c e)) (h:∀w,(sizeOf e).run P w= .ok k w) (f:m=(i:Int):=by omega) (g:i<c:=by omega):Mt P N sc o env H (.pointer (some ⟨b,d+i*k,none⟩)):=λa w hs=>by
 subst f;simp [execOp,j,hs.ev n,hs.ev p,Instr.indexAt,Instr.sureAddr,asIntOf,run_underlying l,h,g,Pm]
theorem Ydz (i:Nat){j:Nat}{l:List Int}(d:o.op= .load t x)(f:ev env x=some (.pointer (some ⟨b,j,none⟩)))(a:lk H i=some (box b tb (Bs l)))(e:∀w,(isAgg t).run P w= .ok false w)(c:j<l.length:=by omega) :
  Mt P N sc o env H (.int .i64 (l.getD j 0)):=Yd0 _ d f a e (Yek c)
theorem d_lwa{l:List Int}(e:o.op= .load t x)(h:ev env x=some (.pointer (some ⟨b,0,none⟩)))(a:lk H i=some (box b tb (Bs l)))(f:∀w,(isAgg t).run P w= .ok true w)(c:∀w,(sizeOf t).run P w= .ok k w)(d:l.length=k) :
  Mt P N sc o env H (.agg (Bs l)):=
 Ya7 (l.map (Value.int .i64)) e h a f c (by simpa using d) (λn u g=>by rw [cD];simpa [Bs]using g)
theorem Zvu (i:Nat)     {j:Nat} {l:List Int}    (m:o.op= .store t x y) (g:o.dst=none)
  (q:ev env x=some (.pointer (some ⟨b,j,none⟩))) (r:ev env y=some (.int .i64 v)) (e:lk H i=some (box b tb (Bs l))) (h:∀w,(sizeOf t).run P w= .ok 1 w) 
  (d:lk H 0=some (Yo w0 M0)) (p:∀b,w0.heap.size<=b->sc b) (f:M b) (a:i≠0:=by decide) (c:j<l.length:=by omega) :
  T P N sc M o env H (G:=Unit) (λ_=>True) (λ_=>env) (λ_=>(i,box b tb (Bs (l.set j v)))::H):=by
 rw [<-Yej c];exact Zh0 [.int .i64 v] m g q r e a rfl h rfl (by rw [Ycb];exact c) (λu n=>Yi (by rw [bN.1 n];rfl)) rfl d p f
theorem Yew (i:Nat)       {l:List Int}   (j:o.op= .store t x y) (f:o.dst=none)
  (p:ev env x=some (.pointer (some ⟨b,0,none⟩))) (q:ev env y=some (.agg (Bs l))) (d:lk H i=some (box b tb cs)) (g:∀w,(sizeOf t).run P w= .ok k w) (h:l.length=k) (r:cs.size=k)
  (c:lk H 0=some (Yo w0 M0)) (n:∀b,w0.heap.size<=b->sc b) (e:M b) (a:i≠0:=by decide) :
  T P N sc M o env H (G:=Unit) (λ_=>True) (λ_=>env) (λ_=>(i,box b tb (Bs l))::H):=
 Zh0 (l.map (Value.int .i64)) j f p q d a rfl g (by simpa using h) O9 (λu m=>Yi (by obtain⟨z,_,rfl⟩:=dH.1 m;rfl)) (by unfold Gi Bs;rw [fB,iN,cD,kT O9,iP]) c n e
def Oa:Nat->Nat->Nat
 | _,0=>1
 | 0,_+1=>0
 | n+1,k+1=>Oa n k+Oa n (k+1)
theorem Zxn:∀n k,Oa n k<=2^n
 | 0,0=>O3
 | _+1,0=>dY _
 | 0,_+1=>bJ _
 | n+1,k+1=>by have a:=Zxn n k;have c:=Zxn n (k+1);show Oa n k+Oa n (k+1)<=2^(n+1);rw [cC];omega
theorem Zl4:∀n k,n<k->Oa n k=0
 | _,0,h=>absurd h (bZ _)
 | 0,_+1,_=>rfl
 | n+1,k+1,h=>by show Oa n k+Oa n (k+1)=0;rw [Zl4 n k O1,Zl4 n (k+1) O1]
structure Tab (l:List Int) (n k:Nat):Prop where
 len:l.length=625
 eq:∀r c,r<25->c<25->l.getD (r*25+c) 0=if r<n\/(r=n/\c<k)then(Oa r c:Int)else 0
theorem Zhm{l:List Int}{j:Nat}(hi:i<l.length:=by omega):(l.set i v).getD j 0=if j=i then v else l.getD j 0:=by
 rw [aC,aC,pE];by_cases h:i=j
 .subst h;rw [aK rfl,aK hi,aK rfl];rfl
 .rw [aH h,aH (λe=>h e.symm)]
theorem Tab.start:Tab (List.replicate 625 0) 0 0:=⟨aX,λr c d a=>by rw [aH O1,aC];rw [jC];split<;>rfl⟩
theorem Tab.step{l:List Int}{n:Nat}(h:Tab l n k)(w:n<25)(u:k<25)(s:v=(Oa n k:Int)){j:Nat}(m:j=n*25+k):Tab (l.set j v) n (k+1):=by
 subst m;have p:=h.len;refine⟨by rw [aT];exact p,λr c q f=>?_⟩;rw [Zhm,h.eq r c q f];by_cases e:r*25+c=n*25+k
 .have a:r=n:=O1;have d:c=k:=O1;subst a;subst d;rw [aK rfl,aK O1];exact s
 .rw [aH e];have:¬(r=n/\c=k):=λ⟨a,d⟩=>e (by rw [a,d]);by_cases g:r<n\/(r=n/\c<k)
  .rw [aK g,aK O1]
  .rw [aH g,aH O1]
theorem Tab.row{l:List Int}{n:Nat}(h:Tab l n k)(f:n<k):Tab l (n+1) 0:=⟨h.len,λr c e d=>by
 rw [h.eq r c e d];by_cases g:r<n\/(r=n/\c<k)
 .rw [aK g,aK O1]
 .rw [aH g];by_cases a:r<n+1\/(r=n+1/\c<0)
  .rw [aK a,Zl4 r c O1];rfl
  .rw [aH a]⟩
theorem Tab.get{l:List Int}{n r c:Nat}(h:Tab l n k)(f:r<25)(d:c<25)(a:r<n\/(r=n/\c<k)){j:Nat}(e:j=r*25+c):l.getD j 0=(Oa r c:Int):=by rw [e,h.eq r c f d,aK a]
theorem Ybi (n:Nat)(k:Nat)(c:1<=n:=by omega)(a:1<=k:=by omega):Oa n k=Oa (n-1) (k-1)+Oa (n-1) k:=by obtain⟨m,rfl⟩:∃m,n=m+1:=⟨n-1,O1⟩;obtain⟨j,rfl⟩:∃j,k=j+1:=⟨k-1,O1⟩;rfl
end Go.Sky
namespace Go.Sky
variable{k b:Nat}{t tb:TypeId}{parts:List (Nat×Value)}{cells:Array Value}{o:Oper}{x y:Operand}{kd:IntKind}{v0 v1 v2:Value}{M M0:Nat->Prop}
structure Tb (l:List Int) (n k:Nat):Prop where
 len:l.length=36
 eq:∀r c,r<6->c<6->l.getD (r*6+c) 0=if r<n\/(r=n/\c<k)then(Oa r c:Int)else 0
theorem Tb.start:Tb (List.replicate 36 0) 0 0:=⟨aX,λr c d a=>by rw [aH O1,aC];rw [jC];split<;>rfl⟩
theorem Tb.step{l:List Int}{n:Nat}{v:Int}(h:Tb l n k)(u:n<6)(s:k<6)(q:v=(Oa n k:Int)){j:Nat}(i:j=n*6+k):Tb (l.set j v) n (k+1):=by
 subst i;have m:=h.len;refine⟨by rw [aT];exact m,λr c p f=>?_⟩;rw [Zhm,h.eq r c p f];by_cases e:r*6+c=n*6+k
 .have a:r=n:=O1;have d:c=k:=O1;subst a;subst d;rw [aK rfl,aK O1];exact q
 .rw [aH e];have:¬(r=n/\c=k):=λ⟨a,d⟩=>e (by rw [a,d]);by_cases g:r<n\/(r=n/\c<k)
  .rw [aK g,aK O1]
  .rw [aH g,aH O1]
theorem Tb.row{l:List Int}{n:Nat}(h:Tb l n k)(f:n<k):Tb l (n+1) 0:=⟨h.len,λr c e d=>by
 rw [h.eq r c e d];by_cases g:r<n\/(r=n/\c<k)
 .rw [aK g,aK O1]
 .rw [aH g];by_cases a:r<n+1\/(r=n+1/\c<0)
  .rw [aK a,Zl4 r c O1];rfl
  .rw [aH a]⟩
theorem Tb.get{l:List Int}{n r c:Nat}(h:Tb l n k)(f:r<6)(d:c<6)(a:r<n\/(r=n/\c<k)){j:Nat}(e:j=r*6+c):l.getD j 0=(Oa r c:Int):=by rw [e,h.eq r c f d,aK a]
theorem Zrc (n:Nat)(k:Nat)(h:n<=5:=by omega):Oa n k<=32:=aB (Zxn n k) (aB (dO O3 h) O3)
theorem Zds {P:Program} {e:TypeId} {n:Nat} {c a:TypeInfo} {z:Value}   (hi:P.info? t=some c) (g:P.underlying t=some (.array n e)) (h:c.zero=some z) (d:P.info? e=some a)
  (f:Instr.fill (λi=>some (i*a.size,a.size)) z.cells parts=some cells):P.built t parts=some cells:=by
 unfold Program.built;simp only [hi,g,h,d,f]
variable {P:Program} {N:Nat} {sc:Nat->Prop} {env env':Qy} {H H':Hp} {Q Q':Exit->Act->World->Prop}
def Zo{α:Type _}(i:Nat)(a b c:α):α:=match i with
 | 0=>a
 | 1=>b
 | _=>c
theorem Be{α:Type _}{p:α->Prop}{i:Nat}{a b c:α}(d:p a)(e:p b)(f:p c):p (Zo i a b c):=by unfold Zo;split<;>assumption
theorem Zob (i:Nat)   {e:TypeId}   {m:Int}  (j:o.op= .index t x y) (n:ev env x=some (.agg #[v0,v1,v2])) (p:ev env y=some (.int kd m))
  (l:P.underlying t=some (.array 3 e)) (g:∀w,(sizeOf e).run P w= .ok 1 w) (f:∀w,(isAgg e).run P w= .ok false w) (c:m=(i:Int)) (h:i<3:=by omega):Mt P N sc o env H (Zo i v0 v1 v2):=λa w hs=>by
 subst c;have d:i=0\/i=1\/i=2:=O1;rcases d with rfl|rfl|rfl<;>simp [execOp,j,hs.ev n,hs.ev p,Instr.index,asIntOf,run_underlying l,g,f,asAgg,part,Zo]
theorem Zg9 {α:Type}  {enc:α->Value}  {f g j:List α} (i c d e n:Nat) (l:lk H c=some (Yw k enc v0 f)) (m:lk H d=some (Yw k enc v1 g)) (p:lk H e=some (Yw k enc v2 j))
  (q:Nat.beq c 0=false) (r:Nat.beq d 0=false) (s:Nat.beq e 0=false):∀a w,Sat N sc env H a w->Sat N sc env ((n,Yw k enc (Zo i v0 v1 v2) (Zo i f g j))::H) a w:=by
 match i with
 | 0=>exact Zb9 c n l q rfl (λw h=>h) (λb h=>h) rfl
 | 1=>exact Zb9 d n m r rfl (λw h=>h) (λb h=>h) rfl
 | i+2=>exact Zb9 e n p s rfl (λw h=>h) (λb h=>h) rfl
theorem Zus (i:Nat)(j:Nat){α:Type}{enc:α->Value}{l:List α}(d:α)(n:o.op= .load t x)(s:ev env x=some (.pointer (some ⟨b,0+j*k,none⟩)))(g:lk H i=some (box b tb (cellsOf enc l).toArray))(e:Enc P t k enc)(m:j<l.length) :
  Mt P N sc o env H (enc (l.getD j d)):=λa w hs=>by
 have hi:l[j]? = some (l.getD j d):=by simp [List.getD,aD m]
 have h:=e.load (l.getD j d) w ⟨b,0+j*k,none⟩ (λq u p=>by have f:=Hj e.cells l j _ hi q u p;rw [Pm,hs.boxc g];simpa using f)
 have c:=hs.ev s;generalize enc (l.getD j d)=r at h ⊢;generalize (⟨b,0+j*k,none⟩:Addr)=v at h c;simp [execOp,n,c,Instr.loadAt,Instr.sureAddr,h]
theorem t_sbe (i:Nat)(j:Nat)(k:Nat) {α:Type}      {enc:α->Value} {l:List α} (z:α) {w0:World}  (q:o.op= .store t x y) (n:o.dst=none)
  (v:ev env x=some (.pointer (some ⟨b,0+j*k,none⟩))) (w:ev env y=some (enc z)) (h:lk H i=some (box b tb (cellsOf enc l).toArray)) (a:Enc P t k enc) (f:j<l.length)
  (g:lk H 0=some (Yo w0 M0)) (s:∀b,w0.heap.size<=b->sc b) (m:M b) (c:i≠0:=by decide) :
  T P N sc M o env H (G:=Unit) (λ_=>True) (λ_=>env) (λ_=>(i,box b tb (cellsOf enc (l.set j z)).toArray)::H):=by
 have p:=Yv a.cells l;have e:(enc z).cells.toList.length=k:=by simp [a.cells]
 have d:(j+1)*k<=l.length*k:=aN _ f;rw [eJ]at d;refine Zh0 ((enc z).cells.toList) q n v w h c rfl a.size e (by rw [e,gY,p];omega) (λu r=>Yi (a.one z u r)) ?_ g s m;unfold Gi;rw [cD,e,Dx a.cells l j z f]
end Go.Sky
namespace Go.Sky
variable{o:Oper}{x:Operand}{t tb te:TypeId}{M M0:Nat->Prop}{cs:Array Value}
variable {P:Program} {N:Nat} {sc:Nat->Prop} {env env':Qy} {H H':Hp} {Q Q':Exit->Act->World->Prop}
theorem d_lea{α:Type}{i b k q:Nat}{enc:α->Value}{l:List α}(f:o.op= .load t x)(j:ev env x=some (.pointer (some ⟨b,0,none⟩)))(a:lk H i=some (box b tb (cellsOf enc l).toArray))(c:Enc P te q enc)(g:∀w,(isAgg t).run P w= .ok true w)(d:∀w,(sizeOf t).run P w= .ok k w)(e:l.length*q=k) :
  Mt P N sc o env H (.agg (cellsOf enc l).toArray):=
 Ya7 (cellsOf enc l) f j a g d (by rw [Yv c.cells l];exact e) (λn u h=>by rw [cD];simpa using h)
theorem t_sea {α:Type}   {y:Operand}  {i b k q:Nat}  {enc:α->Value} {l:List α} {w0:World}  (r:o.op= .store t x y) (m:o.dst=none)
  (v:ev env x=some (.pointer (some ⟨b,0,none⟩))) (B:ev env y=some (.agg (cellsOf enc l).toArray)) (g:lk H i=some (box b tb cs)) (a:i≠0) (d:Enc P te q enc) (n:∀w,(sizeOf t).run P w= .ok k w) (p:l.length*q=k) (j:cs.size=k)
  (f:lk H 0=some (Yo w0 M0)) (s:∀b,w0.heap.size<=b->sc b) (h:M b) :
  T P N sc M o env H (G:=Unit) (λ_=>True) (λ_=>env) (λ_=>(i,box b tb (cellsOf enc l).toArray)::H):=by
 have c:(cellsOf enc l).length=k:=by rw [Yv d.cells l];exact p
 refine Zh0 (cellsOf enc l) r m v B g a rfl n c (by rw [c,cD,j];exact aI _) (λu e=>?_) (by unfold Gi;rw [fB,iN,cD,kT O9,iP]) f s h
 unfold cellsOf at e;obtain⟨z,_,D⟩:=lA.1 e;exact Yi (d.one z u D)
end Go.Sky
namespace Go.Sky
variable {P:Program} {N:Nat} {sc:Nat->Prop} {env env':Qy} {H H':Hp} {Q Q':Exit->Act->World->Prop}
abbrev Zf:=(Int×Int×Int)×(SL×List Int)×(SL×List Int)×(SL×List Int)
abbrev Xv (g:Zf):Value:= .agg #[.int .i64 g.1.1,.int .i64 g.1.2.1,.int .i64 g.1.2.2,Xx g.2.1.1,Xx g.2.2.1.1,Xx g.2.2.2.1]
abbrev qC (z:SL×List Int):Pc:=Yw 1 Yq (Xx z.1) z.2
abbrev qG (g:Zf):Pc:=Ib qC [g.2.1,g.2.2.1,g.2.2.2]
abbrev G0:Zf:=((0,0,0),((none,0,0),[]),((none,0,0),[]),((none,0,0),[]))
def Pp (g:Zf)(z:SL×List Int){v:Value}{ps:List Zf}(j n:Nat)(i:lk H j=some (Xp 6 Xv qG v ps))(c:Nat.beq j 0=false)(d:g∈ps)(e:z∈[g.2.1,g.2.2.1,g.2.2.2]):∀a w,Sat N sc env H a w->Sat N sc env ((n,Yw 1 Yq (Xx z.1) z.2)::H) a w:=
 Zb9 j n i c rfl (λw h=>h.2 g d z e) (λb f=> .inr ⟨g,d,z,e,f⟩) rfl
end Go.Sky
namespace Go.Sky
variable{x s η ε t δ:Rat}{i:Nat}{c y z a b xs:List Int}{over ov Y:Int}{f:Rat->Rat}{fs:List (Rat->Rat)}{ls:List (List Int)}
theorem Ha{x:Int}(h:Oc x):bl x.natAbs<=64:=(Qi 64 _).2 (by obtain⟨d,e⟩:=h;omega)
theorem in_bl{x:Int}(h:bl x.natAbs<=63):Oc x:=by have:=(Qi 63 x.natAbs).1 h;exact⟨O1,O1⟩
theorem bl_pw{n:Int}(h:bl n.natAbs<=100)(hi:i<=10):bl (n^i).natAbs<=1000:=by
 rcases aS i with d|d
 .subst d;rw [cT];decide
 .exact aB (Dm n h i d) (by have:=aN 100 hi;omega)
def Af:List Int->Int
 | []=>1
 | x::r=>x*Af r
def zc6_eq:(Value.agg (List.replicate 36 (Value.int .i64 0)).toArray).cells=Bs (List.replicate 36 0):=rfl
def Zru:(Value.agg (List.replicate 36 (Value.int .i64 0)).toArray).cells.size=36:=rfl
def w60(n j k:Nat):Int:=60/(Oa n k:Int)*(Oa j k:Int)
def ctl(c:List Int)(j m:Nat):Int:=Yg (λk=>c.getD k 0*w60 (c.length-1) j k) m
def Ykd(c:List Int)(j m:Nat):ctl c j (m+1)=ctl c j m+c.getD m 0*w60 (c.length-1) j m:=rfl
theorem Zjn:∀{n k:Nat},k<=n->0<Oa n k
 | n,0,_=>by cases n<;>exact Nat.one_pos
 | n+1,k+1,h=>by have:=Zjn (n:=n) (k:=k) O1;show 0<Oa n k+Oa n (k+1);omega
theorem Zvn (n:Nat)(j:Nat)(k:Nat)(g:j<=5):0<=w60 n j k/\w60 n j k<=1920:=by have h:=Zrc _ k g;unfold w60;have d:(0:Int)<=60/(Oa n k:Int):=lI O3 O1;have e:(60:Int)/(Oa n k:Int)<=60:=mV _ O3;refine⟨eT d O1,?_⟩;have:=kU e (show(Oa j k:Int)<=32 by omega) O1 O3;omega
theorem Zmb (n:Nat)(k:Nat){j:Nat}(d:j<=5):bl (w60 n j k).natAbs<=11:=by have:=Zvn n _ k d;exact(Qi 11 _).2 O1
theorem La(h:∀x∈c,Oc x)(k:Nat):Oc (c.getD k 0):=by
 by_cases d:k<c.length
 .exact h _ (Ze d)
 .rw [aC,bF O1];exact⟨O3,O3⟩
theorem Zcx(h:∀x∈c,Oc x){j m:Nat}(d:j<=5)(e:m<=31):bl (ctl c j m).natAbs<=80:=
 Zju (K:=75) (λk _=>by have g:=Ha (La h k);have l:=Zmb (c.length-1) k d;have:=Ya (c.getD k 0) (w60 (c.length-1) j k);omega) e
def Zma(c:List Int)(over:Int):Bool:=(List.range c.length).all λj=>decide ((ctl c j (j+1)).natAbs<=62914560*over)
theorem Zxt(h:∀j,j<c.length->((ctl c j (j+1)).natAbs:Int)<=62914560*over):Zma c over=true:=by unfold Zma;rw [cI];intro j d;exact aJ (h j (fE.1 d))
theorem Zxu (j:Nat)(d:j<c.length)(h:¬((ctl c j (j+1)).natAbs:Int)<=62914560*over):Zma c over=false:=by
 cases hb:Zma c over with
 | false=>rfl
 | true=>
  unfold Zma at hb;rw [cI]at hb;exact absurd (bH (hb j (fE.2 d))) h
theorem wc_abs{s:Int}:(#[.bool false,.string (Qe s.natAbs)]:Array Value)=wc (s.natAbs:Int):=by have:decide (((s.natAbs:Nat):Int)<0)=false:=aE O1;rw [show wc (s.natAbs:Int)=#[.bool (decide (((s.natAbs:Nat):Int)<0)),.string (Qe ((s.natAbs:Nat):Int).natAbs)]from rfl,this,dK]
theorem sgp(z:Int):0<z.sign↔0<z:=by simpa using sign_pos_iff z
def axB(c:List Int)(over:Int):Bool:=decide (1<=c.length) && decide (c.length<=6) && !(decide (1<c.length) && decide (c.getD (c.length-1) 0=0)) && Zma c over
def Nq(g:Int):List Int->Int
 | []=>g
 | x::r=>Nq (Int.gcd g x) r
def Hk:∀(a b:List Int) (g:Int),Nq g (a ++ b)=Nq (Nq g a) b
 | [],_,_=>rfl
 | x::a,b,g=>Hk a b _
theorem Zaq{l:List Int}{g:Int}(h:i<l.length):Nq g (l.take (i+1))=(Int.gcd (Nq g (l.take i)) (l.getD i 0):Int):=by rw [Po 0 _ h,Hk];rfl
theorem Zgq:∀{l:List Int} {g:Int} {m:Nat},(∀x∈l,bl x.natAbs<=m)->bl g.natAbs<=m->bl (Nq g l).natAbs<=m
 | [],_,_,_,h=>h
 | x::l,g,m,h,hg=>Zgq (l:=l) (λy d=>h y (bG _ d)) (aB (Zgp g x) (by have:=h x (bW ..);omega))
abbrev Cs:=List Int×List Int×List Int
def Zvt(fr d ov:Int):Bool:=decide (0<=fr) && decide (fr<d) && decide (d<=3600000) && decide (1<=ov) && decide (ov<=4294967296)
def Dq(fr d ov:Int)(x y z:List Int):Bool:=Zvt fr d ov && axB x ov && axB y ov && axB z ov && decide (Nq ov (x ++ y ++ z)=1)
def Nr(i:Nat)(x y z:List Int):List Int:=match i with
 | 0=>[]
 | 1=>x
 | 2=>x ++ y
 | _=>x ++ y ++ z
theorem Dw(x y z:List Int)(h:i<3):Nr (i+1) x y z=Nr i x y z ++ Zo i x y z:=by
 match i,h with
 | 0,_=>rfl
 | 1,_=>rfl
 | 2,_=>rfl
theorem Zb8 (i:Nat){fr d:Int}{x:List Int}(h:axB (Zo i x y z) ov=false):Dq fr d ov x y z=false:=by unfold Dq;revert h;unfold Zo;split<;>intro h<;>simp [h]
theorem Ar{fr d:Int}{x:List Int}(h:¬(0<=fr/\fr<d/\d<=3600000/\1<=ov/\ov<=4294967296)):Dq fr d ov x y z=false:=by
 cases hb:Dq fr d ov x y z with
 | false=>rfl
 | true=>
  unfold Dq Zvt at hb;simp only [aO,cK]at hb;exact absurd O1 h
theorem Zmi(h:1<=c.length->c.length<=6->¬(1<c.length/\c.getD (c.length-1) 0=0)->Zma c ov=true->False):axB c ov=false:=by
 cases hb:axB c ov with
 | false=>rfl
 | true=>
  unfold axB at hb;simp only [aO,gJ,jU,cK,iA]at hb;exact(h hb.1.1.1 hb.1.1.2 (λe=>by rcases hb.1.2 with d|d;exact d e.1;exact d e.2) hb.2).elim
theorem Yb1(e:1<=c.length)(g:c.length<=6)(h:¬(1<c.length/\c.getD (c.length-1) 0=0))(j:Zma c ov=true):axB c ov=true:=by
 unfold axB;simp only [aO,gJ,jU,cK,iA];refine⟨⟨⟨e,g⟩,?_⟩,j⟩;by_cases d:1<c.length
 .exact .inr λk=>h ⟨d,k⟩
 .exact .inl d
theorem Yf4{fr g:Int}{x:List Int}(d:0<=fr/\fr<g/\g<=3600000/\1<=ov/\ov<=4294967296)(e:∀k,k<3->axB (Zo k x y z) ov=true):Dq fr g ov x y z=decide (Nq ov (Nr 3 x y z)=1):=by have h:axB x ov=true:=e 0 O3;have j:axB y ov=true:=e 1 O3;have l:axB z ov=true:=e 2 O3;unfold Dq Zvt;rw [aJ d.1,aJ d.2.1,aJ d.2.2.1,aJ d.2.2.2.1,aJ d.2.2.2.2,h,j,l];rfl
def Kk{x:List Int}(d:∀a∈x,Oc a)(e:∀a∈y,Oc a)(g:∀a∈z,Oc a)(i:Nat):∀a∈Zo i x y z,Oc a:=Be (p:=λl=>∀a∈l,Oc a) d e g
theorem bl_fc{x:List Int}(e:∀a∈x,Oc a)(g:∀a∈y,Oc a)(j:∀a∈z,Oc a)(l:bl ov.natAbs<=64)(i k:Nat):bl (Nq (Nq ov (Nr i x y z)) ((Zo i x y z).take k)).natAbs<=64:=by
 refine Zgq (λa d=>Ha (Kk e g j i a (fD d))) (Zgq (λa d=>Ha ?_) l);unfold Nr at d;split at d
 .cases d
 .exact e a d
 .rcases cQ.1 d with h|h
  .exact e a h
  .exact g a h
 .rcases cQ.1 d with h|h
  .rcases cQ.1 h with h|h
   .exact e a h
   .exact g a h
  .exact j a h
abbrev RWL:=List (Bool×ByteArray)
def smallR(r:RWL):Bool:=decide (r.length<=8) && r.all λc=>decide (c.2.size<=6)
noncomputable def dec (r:RWL):List Int:=if h:okP r=true then(okP_ex h).choose else []
noncomputable def bdE (r:RWL):Int:=if okP r=true then Zxo (dec r)else 2
noncomputable def bdZ (r:RWL):Int:=if bdE r=0 then sbound (dec r)else 0
def firstE(r:RWL)(x y d e:Int):Int:=if okP r=true then(if r.length=0\/0<x*e-d*y then 3 else 0)else 2
def chke:Nat->Nat->Nat->Nat->Nat->Bool
 | 0,d,_,A,_=>Nat.ble (A+d*64) 65500
 | f+1,d,e,A,B=>Nat.ble (A+d*64) 65500 && (Nat.beq e 0 || (List.range e).all λl=>chke f e l B (bif Nat.ble l 1 then 2 else A+(d-e+1)*B))
inductive SV:List Int->List Int->Prop
 | one (a:Int):SV [a] [a]
 | step (a:Int) (r t:List Int):SV r t->SV (a::r) (a::t)
 | skip (a u w:Int) (r t:List Int):(a=1\/a=-1)->(-1<=u/\u<=1)->(-1<=w/\w<=1)->SV (-a::r) (-a::t)->SV (a::u::-a::r) (a::w::-a::t)
theorem Zof{s:Int×Int}{a u:Int}(e:a=1\/a=-1)(g:-1<=u/\u<=1):Ml (Ml (Ml s a) u) (-a)=Ml (Ml s a) (-a):=by obtain⟨n,l⟩:=s;have d:u=-1\/u=0\/u=1:=O1;rcases e with rfl|rfl<;>rcases d with rfl|rfl|rfl<;>simp [Ml]
theorem SV.fold(h:SV a b):∀s,a.foldl Ml s=b.foldl Ml s:=by
 induction h with
 | one a=>intro s;rfl
 | step a r t _ d=>intro s;exact d (Ml s a)
 | skip a u w r t e g j _ d=>
  intro s;show(r.foldl Ml (Ml (Ml (Ml s a) u) (-a)))=(t.foldl Ml (Ml (Ml (Ml s a) w) (-a)));rw [Zof e g,Zof e j];exact d (Ml s a)
def SV.chg(h:SV a b):chg a=chg b:=aL Prod.fst (h.fold (0,0))
def Ei(x:Rat):Int:=if x<0 then -1 else if x=0 then 0 else 1
theorem Ygd:-1<=Ei x/\Ei x<=1:=by unfold Ei;split;decide;split<;>decide
theorem Aa(h:0<x):Ei x=1:=by unfold Ei;rw [aH O5,aH O5]
theorem Ac(h:x<0):Ei x=-1:=by unfold Ei;rw [aK h]
def Big(η x:Rat)(f:Rat->Rat):Prop:=η<f x\/f x < -η
def Tri(η x:Rat):(Rat->Rat)->List (Rat->Rat)->Prop
 | _,[]=>True
 | _,[g]=>Big η x g
 | f,g::k::r=>(Big η x g/\Tri η x g (k::r))\/(Big η x k/\f x*k x<0/\Tri η x k r)
def Near(η x y:Rat)(f:Rat->Rat):Prop:=f x-f y<=η/\f y-f x<=η
theorem Zrp{y:Rat}(e:0<=η)(h:Big η x f)(d:Near η x y f):Ei (f x)=Ei (f y)/\(Ei (f x)=1\/Ei (f x)=-1):=by
 obtain⟨g,j⟩:=d;rcases h with h|h
 .rw [Aa O5,Aa O5];exact⟨rfl,.inl rfl⟩
 .rw [Ac O5,Ac O5];exact⟨rfl,.inr rfl⟩
theorem opp_sg{a b:Rat}(h:a*b<0):Ei b=- Ei a:=by
 rcases(show a<0\/a=0\/0<a by grind)with e|e|e
 .rw [Ac e,Aa (by
   rcases(show b<=0\/0<b by grind)with d|d
   .have:=aM (a:=-a) (b:=-b) O5 O5;grind
   .exact d)];rfl
 .subst e;grind
 .rw [Aa e,Ac (by
   rcases(show 0<=b\/b<0 by grind)with d|d
   .have:=aM (a:=a) (b:=b) O5 d;grind
   .exact d)]
theorem Zor{η x y:Rat}(h:0<=η):∀(n:Nat) (f:Rat->Rat) (fs:List (Rat->Rat)),fs.length<=n->Big η x f->(∀g∈f::fs,Near η x y g)->Tri η x f fs->
  SV ((f::fs).map λg=>Ei (g x)) ((f::fs).map λg=>Ei (g y))
 | _,f,[],_,q,d,_=>by have:=(Zrp h q (d f (bW ..))).1;simp only [bT,jM,this];exact SV.one _
 | 0,f,g::r,u,_,_,_=>absurd u O8
 | n+1,f,[g],u,q,d,m=>by have p:=(Zrp h q (d f (bW ..))).1;have e:=Zor h n g [] O8 m (λk o=>d k (bG _ o)) aA;rw [bT,bT,p];exact SV.step _ _ _ e
 | n+1,f,g::k::r,u,q,d,m=>by
  have p:=Zrp h q (d f (bW ..));rcases m with⟨B,m⟩|⟨o,F,m⟩
  .have e:=Zor h n g (k::r) (by simp at u ⊢;omega) B (λk o=>d k (bG _ o)) m;rw [bT (l:=g::k::r),bT (l:=g::k::r),p.1];exact SV.step _ _ _ e
  .have e:=Zor h n k r (by simp at u ⊢;omega) o (λj D=>d j (bG _ (bG _ D))) m;have v:=(Zrp h o (d k O8)).1;have w:=opp_sg F;rw [bT (l:=r),bT (l:=r)]at e;simp only [bT];rw [<-v]at e ⊢;rw [w]at e ⊢;rw [<-p.1];exact SV.skip _ _ _ _ _ p.2 Ygd Ygd e
structure Lnk (η x:Rat) (f g k:Rat->Rat):Prop where
 big:¬Big η x g->Big η x k
 opp:¬Big η x g->f x*k x<0
def Lnks(η x:Rat):(Rat->Rat)->List (Rat->Rat)->Prop
 | _,[]=>True
 | _,[g]=>Big η x g
 | f,g::k::r=>Lnk η x f g k/\Lnks η x g (k::r)
theorem Zlb{η x:Rat} : ∀(n:Nat) (f:Rat->Rat) (fs:List (Rat->Rat)),fs.length<=n->Lnks η x f fs->Tri η x f fs
 | _,f,[],_,_=>trivial
 | 0,f,g::r,e,_=>absurd e O8
 | n+1,f,[g],_,h=>h
 | n+1,f,[g,k],e,h=>by
  by_cases d:Big η x g
  .exact .inl ⟨d,h.2⟩
  .exact .inr ⟨h.1.big d,h.1.opp d,aA⟩
 | n+1,f,g::k::j::r,e,h=>by
  by_cases d:Big η x g
  .exact .inl ⟨d,Zlb n g (k::j::r) (by simp at e ⊢;omega) h.2⟩
  .exact .inr ⟨h.1.big d,h.1.opp d,Zlb n k (j::r) (by simp at e ⊢;omega) h.2.2⟩
def Rl3(s t:Rat)(f g k:Rat->Rat):Prop:=∃m n Q:Rat,0<m/\0<n/\0<Q/\∀x,s<=x->x<=t->∃q,-Q<=q/\q<=Q/\m*f x=q*g x-n*k x
def Rl2(s t:Rat)(f g:Rat->Rat):Prop:=∃m Q:Rat,0<m/\0<Q/\∀x,s<=x->x<=t->∃q,-Q<=q/\q<=Q/\m*f x=q*g x
def Rls(s t:Rat):(Rat->Rat)->List (Rat->Rat)->Prop
 | _,[]=>True
 | f,[g]=>Rl2 s t f g
 | f,g::k::r=>Rl3 s t f g k/\Rls s t g (k::r)
theorem Zbu{q Q g e:Rat}(h:-Q<=q)(j:q<=Q)(k:-e<=g)(l:g<=e)(m:0<=Q):q*g<=Q*e/\-(Q*e)<=q*g:=by have a:=aM (a:=Q-q) (b:=e+g) O5 O5;have b:=aM (a:=Q+q) (b:=e-g) O5 O5;have c:=aM (a:=Q-q) (b:=e-g) O5 O5;have d:=aM (a:=Q+q) (b:=e+g) O5 O5;constructor<;>grind
theorem Zdd{g:Rat->Rat}(h:¬Big η x g):-η<=g x/\g x<=η:=by unfold Big at h;constructor<;>grind
theorem Zxy{g:Rat->Rat}(h:η<=ε)(d:Big ε x g):Big η x g:=by unfold Big at *;grind
theorem Hl{a b:Rat}(h:0<ε)(j:0<a)(k:0<b):∃e:Rat,0<e/\e<=ε/\e*a<=b:=by
 have g:0<b*a⁻¹:=aV k (gX.2 j);have l:b*a⁻¹*a=b:=O5;rcases(show ε<=b*a⁻¹\/b*a⁻¹<=ε by grind)with d|d
 .exact⟨ε,h,O5,by have:=dX d (show 0<=a by grind);grind⟩
 .exact⟨b*a⁻¹,g,d,O5⟩
theorem pair3{g k:Rat->Rat}(h:Rl3 s t f g k)(D:0<ε)(N:∀x,s<=x->x<=t->Big ε x f\/Big ε x g) :
  ∃e,0<e/\(∀x,s<=x->x<=t->Big e x g\/Big e x k)/\∀η,0<η->η<=e->∀x,s<=x->x<=t->Lnk η x f g k:=by
 obtain⟨m,n,Q,w,M,hQ,P⟩:=h;obtain⟨e,B,Z,e3⟩:=Hl D (show 0<Q+n by grind) (Rat.mul_pos w D);have l:∀η,0<η->η<=e->∀x,s<=x->x<=t->¬Big η x g->Big η x k/\f x*k x<0:=λη p r x hs j d=>by
  obtain⟨q,R,S,q3⟩:=P x hs j;obtain⟨H,I⟩:=Zdd d;obtain⟨p1,p2⟩:=Zbu R S H I O5;have v:Big ε x f:=(N x hs j).resolve_right λh=>d (Zxy O5 h);have V:η*(Q+n)<=m*ε:=by have:=dX r (show 0<=Q+n by grind);grind
  have W:0<η*n:=aV p M;rcases v with v|v
  .have F:m*ε<m*f x:=by have:=aV w (show 0<f x-ε by grind);grind
   have G:n*k x < - (n*η):=O5;have u:k x < -η:=by
    rcases(show k x < -η\/-η<=k x by grind)with o|o
    .exact o
    .have:=aM (a:=n) (b:=k x+η) O5 O5;grind
   refine⟨.inr u,?_⟩;have:=aV (a:=f x) (b:=- k x) O5 O5;grind
  .have F:m*f x < - (m*ε):=by have:=aV w (show 0 < -ε-f x by grind);grind
   have G:n*η<n*k x:=O5;have u:η<k x:=by
    rcases(show η<k x\/k x<=η by grind)with o|o
    .exact o
    .have:=aM (a:=n) (b:=η-k x) O5 O5;grind
   refine⟨.inl u,?_⟩;have:=aV (a:=- f x) (b:=k x) O5 O5;grind
 refine⟨e,B,λx hs j=>?_,λη p r x hs j=>⟨λd=>(l η p r x hs j d).1,λd=>(l η p r x hs j d).2⟩⟩;by_cases d:Big e x g
 .exact .inl d
 .exact .inr (l e B O5 x hs j d).1
theorem pair2{g:Rat->Rat}(h:Rl2 s t f g)(l:0<ε)(w:∀x,s<=x->x<=t->Big ε x f\/Big ε x g) :
  ∃e,0<e/\∀η,0<η->η<=e->∀x,s<=x->x<=t->Big η x g:=by
 obtain⟨m,Q,k,v,B⟩:=h;obtain⟨e,o,H,I⟩:=Hl l v (aV k l);refine⟨e,o,λη M u x hs n=>?_⟩;by_cases j:Big η x g
 .exact j
 .exfalso;obtain⟨q,D,F,R⟩:=B x hs n;obtain⟨p,r⟩:=Zdd j;obtain⟨N,P⟩:=Zbu D F p r O5;have d:Big ε x f:=(w x hs n).resolve_right λh=>j (Zxy O5 h);have G:η*Q<=m*ε:=by have:=dX u (show 0<=Q by grind);grind
  rcases d with d|d
  .have:=aV k (show 0<f x-ε by grind);grind
  .have:=aV k (show 0 < -ε-f x by grind);grind
theorem Ztr{s t:Rat} : ∀(n:Nat) (f:Rat->Rat) (fs:List (Rat->Rat)) (ε:Rat),fs.length<=n->Rls s t f fs->0<ε->(∀g r,fs=g::r->∀x,s<=x->x<=t->Big ε x f\/Big ε x g)->
  ∃e,0<e/\∀η,0<η->η<=e->∀x,s<=x->x<=t->Lnks η x f fs
 | _,f,[],ε,_,_,l,_=>⟨ε,l,λ_ _ _ _ _ _=>trivial⟩
 | 0,f,g::r,ε,hl,_,_,_=>absurd hl O8
 | n+1,f,[g],ε,_,h,l,v=>pair2 h l (v g [] rfl)
 | n+1,f,g::k::r,ε,hl,h,l,v=>by
  obtain⟨e,w,D,B⟩:=pair3 h.1 l (v g (k::r) rfl);obtain⟨p,q,j⟩:=Ztr n g (k::r) e (by simp at hl ⊢;omega) h.2 w (λG H u=>by injection u with d o;subst d;exact D)
  rcases(show e<=p\/p<=e by grind)with F|F
  .exact⟨e,w,λη d o x hs m=>⟨B η d o x hs m,j η d O5 x hs m⟩⟩
  .exact⟨p,q,λη d o x hs m=>⟨B η d O5 x hs m,j η d o x hs m⟩⟩
def Lip(s t L:Rat)(f:Rat->Rat):Prop:=∀x y,s<=x->x<=y->y<=t->f x-f y<=L*(y-x)/\f y-f x<=L*(y-x)
def vat(fs:List (Rat->Rat))(x:Rat):Int:=chg (fs.map λg=>Ei (g x))
theorem Yl8{L:Rat}(q:0<L)(w:∀g∈f::fs,Lip s t L g)(m:0<δ)(l:∀x,s<=x->x<=t->Big δ x f)(B:Rls s t f fs) :
  ∃h,0<h/\∀x y,s<=x->x<=y->y<=t->y-x<=h->vat (f::fs) x=vat (f::fs) y:=by
 obtain⟨e,n,o⟩:=Ztr fs.length f fs δ (aI _) B m (λg r _ x hs D=> .inl (l x hs D));obtain⟨η,k,I,M⟩:=Hl m (show(0:Rat)<1 by decide) n;obtain⟨h,p,G,H⟩:=Hl k q k;refine⟨h,p,λx y d j F v=>SV.chg ?_⟩;refine Zor O5 fs.length f fs (aI _) (Zxy O5 (l x d O5)) (λg u=>?_) (Zlb _ _ _ (aI _) (o η k O5 x d O5));obtain⟨a,b⟩:=w g u x y d j F;have:=dX v (show 0<=L by grind);exact⟨O5,O5⟩
theorem Ycc{L:Rat}(w:0<L)(F:∀g∈f::fs,Lip s t L g)(D:0<δ)(B:∀x,s<=x->x<=t->Big δ x f)(H:Rls s t f fs)(m:s<=t) :
  vat (f::fs) s=vat (f::fs) t:=by
 obtain⟨h,u,p⟩:=Yl8 w F D B H;have o:∀n:Nat,∀y,s<=y->y<=t->y-s<=(n:Rat)*h->vat (f::fs) s=vat (f::fs) y:=λn=>by
  induction n with
  | zero=>
    intro y d e j;have:y=s:=by simp at j;grind
    rw [this]
  | succ n r=>
   intro y d e j;have q:((n+1:Nat):Rat)*h=(n:Rat)*h+h:=by push_cast;grind
   rcases(show y-s<=(n:Rat)*h\/(n:Rat)*h<y-s by grind)with k|k
   .exact r y d e k
   .have v:(0:Rat)<=(n:Rat)*h:=aM (by exact_mod_cast bJ n) O5;rcases(show s<=y-h\/y-h<s by grind)with l|l
    .rw [r (y-h) l O5 O5];exact p (y-h) y l O5 e O5
    .exact p s y O5 d e O5
 have d:∃n:Nat,t-s<=(n:Rat)*h:=by
  have e:0<h⁻¹:=gX.2 u;refine⟨((t-s)*h⁻¹).ceil.toNat,?_⟩;have j:=@pT ((t-s)*h⁻¹);have q:((((t-s)*h⁻¹).ceil:Int):Rat)<=((((t-s)*h⁻¹).ceil.toNat:Nat):Rat):=by have:((t-s)*h⁻¹).ceil<=((((t-s)*h⁻¹).ceil.toNat:Nat):Int):=mN _;exact_mod_cast this
  have k:=dX (fH j q) (show 0<=h by grind);have v:(t-s)*h⁻¹*h=t-s:=O5;grind
 obtain⟨n,G⟩:=d;exact o n t m O5 G
def Zb:List Int->Rat->Rat
 | [],_=>0
 | c::p,x=>(c:Rat)+x*Zb p x
theorem Yop(s t:Rat):∃K:Rat,0<K/\∀x,s<=x->x<=t->-K<=x/\x<=K:=by
 rcases(show(0<=s\/s<0) by grind)with h|h<;>rcases(show(0<=t\/t<0) by grind)with d|d
 .exact⟨t+1,O5,λx _ _=>O5⟩
 .exact⟨1,O5,λx _ _=>O5⟩
 .exact⟨t-s+1,O5,λx _ _=>O5⟩
 .exact⟨-s+1,O5,λx _ _=>O5⟩
theorem Zs2(s t:Rat):∀p:List Int,∃B:Rat,0<B/\∀x,s<=x->x<=t->-B<=Zb p x/\Zb p x<=B
 | []=>⟨1,O3,λx _ _=>by unfold Zb;grind⟩
 | c::p=>by obtain⟨B,e,g⟩:=Zs2 s t p;obtain⟨K,n,o⟩:=Yop s t;obtain⟨C,q,h⟩:=Yop (c:Rat) (c:Rat);have r:=h (c:Rat) O5 O5;refine⟨C+K*B,by have:=aV n e;grind,λx hs d=>?_⟩;obtain⟨j,k⟩:=g x hs d;obtain⟨l,m⟩:=o x hs d;obtain⟨f1,f2⟩:=Zbu l m j k O5;unfold Zb;constructor<;>grind
theorem Ci(s t:Rat):∀p:List Int,∃L:Rat,0<L/\Lip s t L (Zb p)
 | []=>⟨1,O3,λx y _ _ _=>by unfold Zb;constructor<;>grind⟩
 | c::p=>by obtain⟨L,o,r⟩:=Ci s t p;obtain⟨B,w,j⟩:=Zs2 s t p;obtain⟨K,m,n⟩:=Yop s t;refine⟨K*L+B,by have:=aV m o;grind,λx y hs d h=>?_⟩;obtain⟨u,v⟩:=r x y hs d h;obtain⟨D,F⟩:=j y O5 h;obtain⟨k,l⟩:=n x hs O5;obtain⟨f1,f2⟩:=Zbu (q:=x) (g:=Zb p x-Zb p y) (e:=L*(y-x)) k l O5 O5 O5;have G:=aM (a:=B-Zb p y) (b:=y-x) O5 O5;have H:=aM (a:=B+Zb p y) (b:=y-x) O5 O5;unfold Zb;constructor<;>grind
theorem Zkq(x:Rat):∀q:List Int,(∀i,cf q i=0)->Zb q x=0
 | [],_=>rfl
 | c::q,h=>by have d:c=0:=h 0;have e:=Zkq x q λi=>h (i+1);unfold Zb;rw [e,d];grind
theorem Oh(x:Rat):∀p q:List Int,(∀i,cf p i=cf q i)->Zb p x=Zb q x
 | [],q,h=>by rw [Zkq x q λi=>(h i).symm.trans (Yr (bJ _))];rfl
 | c::p,[],h=>by rw [Zkq x (c::p) λi=>(h i).trans (Yr (bJ _))];rfl
 | c::p,d::q,h=>by have e:c=d:=h 0;have g:=Oh x p q λi=>h (i+1);unfold Zb;rw [g,e]
def Nx:List Int->List Int->List Int
 | [],q=>q
 | p,[]=>p
 | a::p,b::q=>(a+b)::Nx p q
theorem Zt4(p:List Int):Nx p []=p:=by cases p<;>rfl
theorem Xc(x:Rat):∀p q:List Int,Zb (Nx p q) x=Zb p x+Zb q x
 | [],q=>by unfold Nx;show Zb q x=0+Zb q x;grind
 | a::p,[]=>by rw [Zt4];show Zb (a::p) x=Zb (a::p) x+0;grind
 | a::p,b::q=>by have h:=Xc x p q;unfold Nx Zb;rw [h];push_cast;grind
theorem Nz:∀(p q:List Int) (i:Nat),cf (Nx p q) i=cf p i+cf q i
 | [],q,i=>by unfold Nx;rw [show cf [] i=0 from Yr (bJ _)];omega
 | a::p,[],i=>by rw [Zt4,show cf [] i=0 from Yr (bJ _)];omega
 | a::p,b::q,0=>rfl
 | a::p,b::q,i+1=>Nz p q i
theorem Zi(x:Rat)(c:Int):∀p:List Int,Zb (p.map λa=>c*a) x=(c:Rat)*Zb p x
 | []=>by show(0:Rat)=c*0;grind
 | a::p=>by have h:=Zi x c p;simp only [bT];unfold Zb;rw [h];push_cast;grind
theorem Xz(c:Int):∀(p:List Int) (i:Nat),cf (p.map λa=>c*a) i=c*cf p i
 | [],i=>by simp [cf]
 | a::p,0=>rfl
 | a::p,i+1=>Xz c p i
def lmul:List Int->List Int->List Int
 | [],_=>[]
 | c::p,q=>Nx (q.map λa=>c*a) (0::lmul p q)
theorem Zu(x:Rat):∀p q:List Int,Zb (lmul p q) x=Zb p x*Zb q x
 | [],q=>by show(0:Rat)=0*Zb q x;grind
 | c::p,q=>by have h:=Zu x p q;unfold lmul;rw [Xc,Zi];show(c:Rat)*Zb q x+(((0:Int):Rat)+x*Zb (lmul p q) x)=((c:Rat)+x*Zb p x)*Zb q x;rw [h];grind
theorem Ec:∀(p q:List Int) (i:Nat),cf (lmul p q) i=Yg (λk=>cf p k*cf q (i-k)) (i+1)
 | [],q,i=>by rw [show cf (lmul [] q) i=0 from Yr (bJ _)];exact(Fn λk _=>by rw [show cf [] k=0 from Yr (bJ _),dD]).symm
 | c::p,q,0=>by unfold lmul;rw [Nz,Xz,Yn,He];show c*cf q 0+0=0+c*cf q 0;omega
 | c::p,q,i+1=>by have h:=Ec p q i;unfold lmul;rw [Nz,Xz,Ld];show c*cf q (i+1)+cf (lmul p q) i=c*cf q (i+1)+_;rw [h];congr 1;refine Yx λk d=>?_;show cf p k*cf q (i-k)=cf p k*cf q (i+1-(k+1));rw [show i+1-(k+1)=i-k by omega]
theorem De (a:Int)(c:Int)(x:List Int)(s:List Int)(y:List Int)(z:List Int)(h:∀t,a*cf x t=(ps s*ps y).c t-c*cf z t)(q:Rat):(a:Rat)*Zb x q=Zb s q*Zb y q-(c:Rat)*Zb z q:=by
 have d:∀t,cf (Nx (x.map λb=>a*b) (z.map λb=>c*b)) t=cf (lmul s y) t:=λt=>by rw [Nz,Xz,Xz,Ec,h t,PS.mul_c];show Yg (λk=>cf s k*cf y (t-k)) (t+1)-c*cf z t+c*cf z t=_;omega
 have e:=Oh q _ _ d;rw [Xc,Zi,Zi,Zu]at e;grind
theorem Ycy{x:List Int}(D:Tr x)(p:Tr y)(h:y≠[])(M:y.length<=x.length):Rl3 s t (Zb x) (Zb y) (Zb (Ni x y)):=by
 have Q:=aG.2 h;obtain⟨r1,r2,k,u,I⟩:=Zfi p h x.length x D O1;have hs:=Zg4 x.length D p h M O1;have o:Tr (Zel (Zag x.length x y)):=Qf;obtain⟨m,n,N,P,w⟩:=Zej o;rw [hs]at w;have H:0<Za9 y^k:=jG (Zfo p h);obtain⟨B,F,r⟩:=Zs2 s t u;have l:(0:Rat)<(m:Rat):=by exact_mod_cast N
 have d:(0:Rat)<(n:Rat):=by exact_mod_cast P
 have j:(0:Rat)<((Za9 y^k:Int):Rat):=by exact_mod_cast H
 refine⟨(n:Rat)*((Za9 y^k:Int):Rat),(m:Rat),(n:Rat)*B,aV d j,l,aV d F,λq e g=>⟨(n:Rat)*Zb u q,?_,?_,?_⟩⟩
 .have:=aM (a:=(n:Rat)) (b:=Zb u q+B) O5 (by have:=r q e g;grind);grind
 .have:=aM (a:=(n:Rat)) (b:=B-Zb u q) O5 (by have:=r q e g;grind);grind
 .have G:=De (Za9 y^k) (-1) x u y (Zag x.length x y) (λt=>by rw [I t];omega) q;have v:Zb ((Ni x y).map λb=>m*b) q=Zb ((Zag x.length x y).map λb=>(-n)*b) q:=Oh q _ _ λi=>by rw [Xz,Xz,w i,Di,lF,pM]
  rw [Zi,Zi]at v;push_cast at G v ⊢;grind
theorem rl2_of{g:Rat->Rat}(h:Rl3 s t f g (Zb [])):Rl2 s t f g:=by obtain⟨m,n,Q,k,u,j,l⟩:=h;refine⟨m,Q,k,j,λx d e=>?_⟩;obtain⟨q,o,p,r⟩:=l x d e;refine⟨q,o,p,?_⟩;have:Zb [] x=0:=rfl;rw [this]at r;grind
theorem Znl (s:Rat)(t:Rat) : ∀(f:Nat) (a b:List Int),Tr a->Tr b->cok f a b->∃r,Mu f a b=a::r/\Rls s t (Zb a) (r.map Zb)/\(b=[]->r=[])/\(b≠[]->∃n,r=b::n):=λf=>by
 induction f with
 | zero=>
  intro a b j k h;have d:b=[]:=h;subst d;exact⟨[],rfl,aA,λ_=>rfl,λh=>absurd rfl h⟩
 | succ f w=>
  intro a b j k h;by_cases d:b=[]
  .subst d;exact⟨[],Bf _ _,aA,λ_=>rfl,λh=>absurd rfl h⟩
  .obtain⟨g,D,B,l,v,hs⟩:=Zl3 h d;obtain rfl:f=g:=O1;obtain⟨r,o,p,q,u⟩:=w b (Ni a b) k (Zb3 j) v;have e:=Ycy (s:=s) (t:=t) j k d l;refine⟨b::r,by rw [hs,o],?_,λh=>absurd h d,λ_=>⟨r,rfl⟩⟩;by_cases m:Ni a b=[]
   .rw [q m];rw [m]at e;exact rl2_of e
   .obtain⟨n,rfl⟩:=u m;exact⟨e,p⟩
theorem Zts{L M:Rat}(h:L<=M)(j:Lip s t L f):Lip s t M f:=λx y d e g=>by obtain⟨a,b⟩:=j x y d e g;have:=dX h (show 0<=y-x by grind);constructor<;>grind
theorem Zz6(s t:Rat):∀ls:List (List Int),∃L:Rat,0<L/\∀g∈ls.map Zb,Lip s t L g
 | []=>⟨1,O3,λg d=>by cases d⟩
 | p::ls=>by
  obtain⟨L,j,e⟩:=Zz6 s t ls;obtain⟨M,k,h⟩:=Ci s t p;refine⟨L+M,O5,λg d=>?_⟩;rw [bT]at d;rcases bB.1 d with rfl|d
  .exact Zts O5 h
  .exact Zts O5 (e g d)
theorem Zfg{f:Nat}(k:Tr a)(l:Tr b)(m:cok f a b)(d:s<=t)(n:0<δ)(j:∀x,s<=x->x<=t->Big δ x (Zb a)) :
  vat ((Mu f a b).map Zb) s=vat ((Mu f a b).map Zb) t:=by
 obtain⟨r,g,h,_,_⟩:=Znl s t f a b k l m;obtain⟨L,o,e⟩:=Zz6 s t (Mu f a b);rw [g]at e ⊢;exact Ycc o e n j h d
theorem Zsz(x:Rat)(l:Int):∀p:List Int,Zb (p ++ [l]) x=Zb p x+(l:Rat)*x^p.length
 | []=>by show(l:Rat)+x*0=0+l*x^0;rw [eZ];grind
 | c::p=>by have h:=Zsz x l p;rw [jA,eA,eD];unfold Zb;rw [h];grind
def alt:List Int->List Int
 | []=>[]
 | c::p=>c::(alt p).map λa=>-1*a
theorem Yhh(c:Int)(p:List Int)(X Y:Int)(h:p≠[]):pev (c::p) X Y=c*Y^p.length+X*pev p X Y:=by
 have d:=aG.2 h;unfold pev;rw [eA,Ld,<-Mn];congr 1
 .show c*(X^0*Y^(p.length+1-1-0))=_;rw [cT,fS,show p.length+1-1-0=p.length by omega]
 .refine Yx λi hi=>?_;show cf p i*(X^(i+1)*Y^(p.length+1-1-(i+1)))=X*(cf p i*(X^i*Y^(p.length-1-i)));rw [show p.length+1-1-(i+1)=p.length-1-i by omega,dU];grind
theorem Zpl{X Y:Int}(e:0<Y):∀p:List Int,((pev p X Y:Int):Rat)=Zb p ((X:Rat)/(Y:Rat))*(Y:Rat)^(p.length-1)
 | []=>by show(0:Rat)=0*_;grind
 | [c]=>by
  have:pev [c] X Y=c:=by unfold pev;show 0+c*(X^0*Y^0)=c;rw [cT,cT];omega
  rw [this];show(c:Rat)=(c+X/Y*0)*(Y:Rat)^0;rw [eZ];grind
 | c::d::p=>by
  have h:=Zpl (X:=X) e (d::p);rw [Yhh c (d::p) X Y O8];have g:(Y:Rat)≠0:=by
    have:(0:Rat)<(Y:Rat):=by exact_mod_cast e
    grind
  push_cast;rw [h];show(c:Rat)*(Y:Rat)^(p.length+1)+X*(Zb (d::p) (X/Y)*(Y:Rat)^(p.length+1-1))=((c:Rat)+X/Y*Zb (d::p) (X/Y))*(Y:Rat)^(p.length+1+1-1);rw [show p.length+1-1=p.length by omega,show p.length+1+1-1=p.length+1 by omega,eD];generalize Zb (d::p) (X/Y)=R;generalize (Y:Rat)^p.length=P;have:(X:Rat)/Y*Y=X:=O5;grind
theorem Yfo{z:Int}{r q:Rat}(j:0<q)(h:(z:Rat)=r*q):z.sign=Ei r:=by
 rcases(show r<0\/r=0\/0<r by grind)with d|d|d
 .rw [Ac d];have:=aV (a:=-r) (b:=q) O5 j;have e:(z:Rat)<0:=O5;have g:z<0:=by exact_mod_cast e
  exact fJ g
 .subst d;have e:(z:Rat)=0:=O5;have g:z=0:=by exact_mod_cast e
  subst g;rfl
 .rw [Aa d];have:=aV d j;have e:(0:Rat)<z:=O5;have g:0<z:=by exact_mod_cast e
  exact gK g
theorem Zqm{X:Int}(d:0<Y)(p:List Int):fat X Y p=Ei (Zb p ((X:Rat)/(Y:Rat))):=by
 have:(0:Rat)<(Y:Rat):=by exact_mod_cast d
 exact Yfo (Rat.pow_pos this) (Zpl d p)
theorem Ym2{F:Nat}(m:Tr xs)(j:xs≠[])(h:eok F (gA (Xb xs) (Xa (Xb xs))) (gB (Xb xs) (Xa (Xb xs)))):∃g:List Int,∀x,Zb xs x=Zb (sqf F xs) x*Zb g x:=by
 obtain⟨f1,f2,f3,f4,f5,f6⟩:=Og F m j h;have e:∃k:Int,∀i,cf xs i=k*cf (Xb xs) i:=by
  unfold Xb Hi;split
  .refine⟨-Yz xs,λi=>?_⟩;rw [Xk,<-Hx xs i];grind
  .refine⟨Yz xs,λi=>?_⟩;rw [<-Hx xs i];grind
 obtain⟨k,e⟩:=e;refine⟨(Mg F (Xb xs) (Xa (Xb xs))).map λa=>k*a,λx=>?_⟩;have l:Zb (Xb xs) x=Zb (sqf F xs) x*Zb (Mg F (Xb xs) (Xa (Xb xs))) x:=by
  have:=De 1 0 (Xb xs) (sqf F xs) (Mg F (Xb xs) (Xa (Xb xs))) [] (λt=>by have d:=Iz (sqf F xs) (Mg F (Xb xs) (Xa (Xb xs))) t;rw [<-f4]at d;rw [d];omega) x
  push_cast at this;grind
 have d:Zb xs x=Zb ((Xb xs).map λa=>k*a) x:=Oh x _ _ λi=>by rw [Xz];exact e i
 rw [d,Zi,Zi,l];grind
theorem Ylv{f:List Int->Int}(h:∀p∈ls,Ei (Zb p x)=f p):vat (ls.map Zb) x=chg (ls.map f):=by unfold vat;rw [lQ];exact aL chg (lN λp d=>h p d)
def Ypd{F:Nat}{X:Int}(d:0<Y):cnt F xs X Y=vat ((chn F xs).map Zb) ((X:Rat)/(Y:Rat)):=
 (Ylv λp _=>(Zqm d p).symm).symm
end Go.Sky

