/- Rules, arithmetic and contracts: part 5. No conditions but those that each theorem names. -/
import Derived.Test.YtoaklaecgjlfoaaTm03
import Derived.Scope
set_option linter.all false
namespace Go.Sky
variable{a b p y xs:List Int}
def Psim(a b:List Int):Prop:=∃m n:Int,0<m/\0<n/\∀i,m*cf a i=n*cf b i
def Psim.refl(a:List Int):Psim a a:=⟨1,1,O3,O3,λ_=>rfl⟩
def Psim.symm : Psim a b->Psim b a:=λ⟨m,n,c,d,h⟩=>⟨n,m,d,c,λi=>(h i).symm⟩
theorem Psim.trans{c:List Int} : Psim a b->Psim b c->Psim a c:=λ⟨m,n,d,e,h⟩ ⟨u,v,f,g,k⟩=>
 ⟨m*u,n*v,fZ d f,fZ e g,λi=>by have j:=h i;have l:=k i;grind⟩
def Psim.sim : Psim a b->Sim a b:=λ⟨m,n,c,d,h⟩=>⟨m,n,O,O,h⟩
theorem Gj(h:Tr p):Psim (Zq p) p:=by
 by_cases c:p=[]
 .subst c;exact Psim.refl _
 .exact⟨Zx p,1,by have:=Xo p;have:=Kh h c;omega,O3,λi=>by rw [fB,dC];exact Oe p i⟩
theorem Be(f:Tr a)(g:Tr b)(h:Psim a b):Zq a=Zq b:=by
 by_cases c:a=[]
 .rw [h.sim.nil g c,c]
 .have i:b≠[]:=λe=>c (h.sim.symm.nil f e);obtain⟨m,n,u,v,e⟩:=(Gj f).trans (h.trans (Gj g).symm);have o:=Zs f;have t:=Zs g;have hs:Sim (Zq a) (Zq b):=⟨m,n,O,O,e⟩;have d:Zq a≠[]:=λe=>c (aE (by rw [<-Zi,e];rfl));rcases Zcj o t d (Pf f c) (Pf g i) hs with j|j
  .exact j
  .exfalso;have l:=o.mem d;have k:=e ((Zq a).length-1);have q:=j ((Zq a).length-1);rw [q]at k l;generalize cf (Zq b) ((Zq a).length-1)=z at k l;rw [jY]at k;have r:(m+n)*z=0:=by rw [gU];omega
   rcases dL.1 r with s|s<;>omega
def Kw(y:List Int):Int:=if cf y (y.length-1)<0 then-cf y (y.length-1)else cf y (y.length-1)
def rb(x y:List Int):Int:=if cf y (y.length-1)<0 then-cf x (x.length-1)else cf x (x.length-1)
def Iz(x y:List Int):List Int:=Fh (Ya x (Kw y)) (shm y (rb x y) (x.length-y.length) y.length)
def Kb:Nat->List Int->List Int->List Int
 | 0,x,_=>x
 | f+1,x,y=>if x.length<y.length then x else Kb f (Iz x y) y
theorem Zbr{x:List Int}(e:Tr x)(f:0<y.length)(d:y.length<=x.length):(Iz x y).length<x.length:=by
 have h:=Ks (p:=Iz x y) (n:=x.length-1) λi hi=>by
  unfold Iz;rw [Ht,Yq,Zkf];by_cases c:i=x.length-1
  .subst c;rw [aK O,show x.length-1-(x.length-y.length)=y.length-1 by omega];unfold Kw rb;split
   .grind
   .grind
  .rw [Zr (p:=x) O,aG O];omega
 rw [show tzl (Iz x y)=Iz x y from Ej Ze6]at h;omega
theorem Zid(x:List Int)(t:Nat):Kw y*cf x t=(ps (mono (x.length-y.length) (rb x y))*ps y).c t+cf (Iz x y) t:=by
 unfold Iz;rw [Bm,Ht,Yq,Zkf,Xc];by_cases c:x.length-y.length<=t
 .rw [aK c];by_cases d:t<x.length-y.length+y.length
  .rw [aK ⟨c,d⟩,dC (cf x t)];omega
  .rw [aG O,Zr (p:=y) O,dC (cf x t)];omega
 .rw [aG c,aG O,dC (cf x t)];omega
theorem Fg(d:Tr y)(c:y≠[]):0<Kw y:=by have:=d.mem c;unfold Kw;split<;>omega
theorem Fd{y:List Int}(l:Tr y)(d:y≠[]):∀(f:Nat) (x:List Int),Tr x->x.length<y.length+f->Tr (Kb f x y)/\(Kb f x y).length<y.length/\∃(k:Nat) (s:List Int),∀t,Kw y^k*cf x t=(ps s*ps y).c t+cf (Kb f x y) t
 | 0,x,c,e=>⟨c,e,0,[],λt=>by rw [Qc (λt=>Zr (aW _)),eD];unfold Kb;omega⟩
 | f+1,x,c,e=>by
  unfold Kb;by_cases h:x.length<y.length
  .rw [aK h];exact⟨c,h,0,[],λt=>by rw [Qc (λt=>Zr (aW _)),eD];omega⟩
  .rw [aG h];have m:=Zbr c (aD.2 d) O;obtain⟨g,i,k,s,hs⟩:=Fd l d f (Iz x y) Ze6 O;refine⟨g,i,k+1,Fh (Ya s 1) (Ya (mono (x.length-y.length) (rb x y)) (-(Kw y^k))),λt=>?_⟩;have n:=hs t;have j:=Zid x (y:=y) t;rw [Bl,gG];generalize Kw y^k=K at *;generalize Kw y=a at *;generalize (ps (mono (x.length-y.length) (rb x y))*ps y).c t=M at *;generalize (ps s*ps y).c t=S at *;generalize cf (Iz x y) t=X at *;generalize cf (Kb f (Iz x y) y) t=Z at *;have:K*a*cf x t=K*(a*cf x t):=O2;rw [this,j];grind
theorem Zcx(l:Int)(h:l≠0):∀n:Nat,(l<0/\n%2=1->l^n<0)/\(¬(l<0/\n%2=1)->0<l^n)
 | 0=>⟨λh=>O,λ_=>by rw [eD];decide⟩
 | n+1=>by
  have e:=Zcx l h n;rw [gG];by_cases d:l<0
  .by_cases f:n%2=1
   .have c:=e.1 ⟨d,f⟩;exact⟨λh=>O,λ_=>Int.mul_pos_of_neg_of_neg c d⟩
   .have c:=e.2 O;exact⟨λ_=>Int.mul_neg_of_pos_of_neg c d,λh=>O⟩
  .have c:=e.2 O;exact⟨λh=>O,λ_=>fZ c O⟩
def Gl(p:List Int):List Int:=Ya p (-1)
theorem Nj(p:List Int)(i:Nat):cf (Gl p) i=- cf p i:=by unfold Gl;rw [Yq];omega
theorem Zeb(h:Tr p):Zq (Gl p)=Gl (Zq p):=by
 have e:Zx (Gl p)=Zx p:=by
  have c:Zx (Gl p)∣Zx p:=Nb λi=>by have h:=Qm (Gl p) i;rw [Nj]at h;exact jX.1 h
  have d:Zx p∣Zx (Gl p):=Nb λi=>by rw [Nj];exact jX.2 (Qm p i)
  exact Int.dvd_antisymm (Xo _) (Xo _) c d
 refine(Zs Qk).ext Qk λi=>?_;show cf (Zq (Gl p)) i=cf (Gl (Zq p)) i;rw [Nj,Kn,Nj,e,Kn];exact Int.neg_ediv_of_dvd (Qm p i)
theorem El (f:Nat){x:List Int}(r:Tr x)(m:Tr y)(g:y≠[])(B:y.length<=x.length)(w:x.length<y.length+f):Zq (Gl (Kb f x y))=Pb x y:=by
 obtain⟨N,M,k,s,hs⟩:=Fd m g f x r w;have F:=aD.2 g;obtain⟨G,h⟩:=Ep (p:=x) F B _ (aH _);have D:∀t,cf (Qp x y (x.length-y.length+1)) t=cf (Yn x y) t:=λt=>by unfold Yn;rw [aG O,Py]
 have lp:=Yz x g;have i:=Qr y r;have c:=m.mem g;have n:0<Kw y^k:=Int.pow_pos (Fg m g);have d:=Zcx (cf y (y.length-1)) c (x.length-y.length+1);generalize u:cf y (y.length-1)^(x.length-y.length+1)=L at h d;have v:L≠0:=by rw [<-u];exact Qd c _
 generalize Kw y^k=K at hs n;have j:∀t,(ps (Fh (Ya G K) (Ya s L))*ps y).c t=cf (Fh (Ya (Kb f x y) L) (Ya (Yn x y) K)) t:=λt=>by rw [Bl,Ht,Yq,Yq,<-D t];have o:=hs t;have H:=h t;generalize cf (Qp x y (x.length-y.length+1)) t=A at *;grind
 have z:=Zl7 m g j λt I=>by rw [Ht,Yq,Yq,Zr (p:=Kb f x y) O,Zr (p:=Yn x y) O];omega
 have e:∀t,L*cf (Kb f x y) t=K*cf (Yn x y) t:=λt=>by have o:=j t;rw [Qc z,Ht,Yq,Yq]at o;grind
 unfold Pb;by_cases l:cf y (y.length-1)<0/\(x.length-y.length+1)%2=1
 .rw [aK l];have q:=d.1 l;exact Be Qk i ⟨-L,K,O,n,λt=>by rw [Nj,<-e];grind⟩
 .rw [aG l];have q:=d.2 l;rw [show Ya (Zq (Yn x y)) (-1)=Gl (Zq (Yn x y))from rfl,<-Zeb i];exact Be Qk Qk ⟨L,K,q,n,λt=>by rw [Nj,Nj,jY,e,jY]⟩
theorem Iu{x:List Int}(c:Tr x):Tr (Pb x y):=by
 unfold Pb;split
 .exact Zs (Qr _ c)
 .exact Qk
theorem Zbq{x:List Int}(c:Tr x):(Pb x y).length=(Yn x y).length:=by
 unfold Pb;have h:Tr (Zq (Yn x y)):=Zs (Qr _ c);split
 .exact Zi _
 .rw [<-Zi (Yn x y)];exact((Zd5 (Zq (Yn x y)) (by decide:(-1:Int)≠0)).len h Qk).symm
theorem Zd2{n:Nat}(h:Sz n p):Sz n (Zw p):=λi=>by
 unfold Zw;rw [Ko];split
 .rw [Int.natAbs_neg];exact Lz h i
 .exact Lz h i
theorem Bk(h:Tr p)(c:p≠[]):Zw p≠[]:=λe=>c (aE (by rw [<-Yx h,e];rfl))
theorem Lb{g:List Int}(h:Tr g)(c:g≠[]):0<cf (Nz g) ((Nz g).length-1):=by have d:=h.mem c;rw [Ft h,Ko];have:g.length≠0:=λe=>c (aE e);split<;>omega
theorem Hl(h:Tr p)(c:p≠[]):Zx (Zw p)=1:=by unfold Zw;rw [Di];exact Pf h c
theorem Zed(h:Tr p)(c:Zx p=1)(d:0<cf p (p.length-1)):Zw p=p:=by unfold Zw;rw [Fj c];unfold Nz;rw [aG O]
theorem Xg (F:Nat)(v:Tr xs)(w:xs≠[])(B:eok F (gA (Zw xs) (Zv (Zw xs))) (gB (Zw xs) (Zv (Zw xs)))) :
  pdv (Zw xs) (Qg F (Zw xs) (Zv (Zw xs)))/\Tr (sqf F xs)/\sqf F xs≠[]/\Zw xs=Yj (sqf F xs) (Qg F (Zw xs) (Zv (Zw xs)))/\Qg F (Zw xs) (Zv (Zw xs))≠[]/\Zw (sqf F xs)=sqf F xs:=by
 have hs:Tr (Zw xs):=Xm (Zs v);have j:Tr (Zv (Zw xs)):=Xz hs;have n:=Bk v w;have l:=(Hk hs j B).1;have o:=Gx F hs j;have d:Qg F (Zw xs) (Zv (Zw xs))≠[]:=λe=>n ((e▸l).zero hs);have I:=Bi hs j d;obtain⟨k,s,M,h⟩:=l;obtain⟨q,N⟩:=gauss I _ k s rfl M h;have c:Zw xs=Yj (tzl q) (Qg F (Zw xs) (Zv (Zw xs))):=hs.ext Yo λi=>by rw [Pq,N,Zii]
 obtain⟨H,Q⟩:=Zfn (Xd q) o d;have g:sqf F xs=tzl q:=by unfold sqf;have r:=Q;rw [<-c]at r;exact r
 rw [<-c]at H;have f:tzl q≠[]:=λe=>n (by rw [c,e,Mz]);refine⟨H,by rw [g];exact Xd q,by rw [g];exact f,by rw [g];exact c,d,?_⟩;rw [g];refine Zed (Xd q) ?_ ?_
 .have x:=Hl v w;have t:Zx (tzl q)∣Zx (Zw xs):=Nb λi=>by
   rw [c,Pq,PS.mul_c];have D:∀m,Zx (tzl q)∣Zc (λk=>(ps (tzl q)).c k*(ps (Qg F (Zw xs) (Zv (Zw xs)))).c (i-k)) m:=λm=>by
    induction m with
    | zero=>exact fQ _
    | succ m P=>rw [Zf];exact Int.dvd_add P (eV (Qm (tzl q) m) (fK _ _))
   exact D _
  rw [x]at t;have z:=Xo (tzl q);have G:=kJ O3 t;have u:Zx (tzl q)≠0:=Kh (Xd q) f;omega
 .have R:=aD.2 f;have S:=aD.2 d;have x:0<cf (Zw xs) ((Zw xs).length-1):=Lb (Zs v) (λe=>w (aE (by rw [<-Zi,e];rfl)));have t:0<cf (Qg F (Zw xs) (Zv (Zw xs))) ((Qg F (Zw xs) (Zv (Zw xs))).length-1):=Lb (Zdf F (Ct hs j) (Cr hs j)) (λe=>d (by unfold Qg;rw [e];rfl));have z:=Qb (Xd q) o f d;rw [<-c]at z;have G:cf (Zw xs) ((Zw xs).length-1)=cf (tzl q) ((tzl q).length-1)*cf (Qg F (Zw xs) (Zv (Zw xs))) ((Qg F (Zw xs) (Zv (Zw xs))).length-1):=by rw [z,c,Pq,<-c,show(tzl q).length+(Qg F (Zw xs) (Zv (Zw xs))).length-1-1=((tzl q).length-1)+((Qg F (Zw xs) (Zv (Zw xs))).length-1) by omega];exact Ld _ (λi hi=>Zr O) (λi hi=>Zr O)
  rw [G]at x;rcases fR 0 (cf (tzl q) ((tzl q).length-1))with u|u
  .exact u
  .exfalso;have:=fX u (jC t);omega
def Qx(p:List Int):(Zv p).length=p.length-1:=Yh _ _
theorem Zeu{n:Nat}(c:Sz n p)(g:p.length<=25)(i:Nat):bl (cf p (i+1)*((i:Int)+1)).natAbs<=n+5:=by
 rcases bD (i+1) p.length with h|h
 .have d:=Znt (cf p (i+1)) ((i:Int)+1);have e:=c (i+1);have f:bl ((i:Int)+1).natAbs<=5:=(Oo 5 _).2 O;omega
 .rw [Zr h];simp [Ee]
theorem Zdq(p:List Int)(i:Nat):cf (Zv p) i=cf p (i+1)*((i:Int)+1):=by
 unfold Zv;rw [Le];split
 .rfl
 .rw [Zr O,cK]
theorem Cu{n:Nat}(d:Sz n p)(c:p.length<=25):Sz (n+5) (Zv p):=λi=>by rw [Zdq];exact Zeu d c i
def sgx(c:List (SL×List Int))(f:List Int->Int):List Int:=c.map λz=>f z.2
def fr(p:List Int):Int:=(cf p (p.length-1)).sign
def fl(p:List Int):Int:=if p.length%2=0 then-(cf p (p.length-1)).sign else(cf p (p.length-1)).sign
def fat(x y:Int)(p:List Int):Int:=(pev p x y).sign
def cnt(F:Nat)(xs:List Int)(x y:Int):Int:=chg ((Gu F xs).map (fat x y))
def sright(F:Nat)(xs:List Int):Int:=chg ((Gu F xs).map fr)
def sleft(F:Nat)(xs:List Int):Int:=chg ((Gu F xs).map fl)
theorem Zav(L:List Int):0<=chg L/\chg L<=L.length:=by
 unfold chg;suffices h:∀(l:List Int) (s:Int×Int),s.1<=(l.foldl Qn s).1/\(l.foldl Qn s).1<=s.1+l.length by have:=h L (0,0);simpa using this
 intro l
 induction l with
 | nil=>intro s;simp
 | cons x l c=>
  intro s;have d:=c (Qn s x);have e:=chg1_n s x;simp only [fW,bF];omega
def sm(xs:List Int)(i:Nat):Nat:=(xs.take i).foldl (λm c=>max m c.natAbs) 0
def Zbn{x y:Int}(h:¬Np x y):Me x y=x/Ol x y/\Nq x y=y/Ol x y/\rerr x y=0:=⟨aG h,aG h,aG h⟩
theorem Ziu{x y:Int}(h:¬Np x y)(c:0<y):0<Nq x y:=by rw [(Zbn h).2.1];exact Zg8 c
abbrev R2:=Int×Int
def Yv(a b:R2):R2:=(Me (Me (a.1*b.2+b.1*a.2) (a.2*b.2)*1) (Nq (a.1*b.2+b.1*a.2) (a.2*b.2)*2),Nq (Me (a.1*b.2+b.1*a.2) (a.2*b.2)*1) (Nq (a.1*b.2+b.1*a.2) (a.2*b.2)*2))
def Dk(a b:R2):Prop:=¬Np (a.1*b.2+b.1*a.2) (a.2*b.2)/\¬Np (Me (a.1*b.2+b.1*a.2) (a.2*b.2)*1) (Nq (a.1*b.2+b.1*a.2) (a.2*b.2)*2)
instance (a b:R2):Decidable (Dk a b):=by unfold Dk;infer_instance
def isp(c:R2->Int)(e:Int):Nat->R2->R2->Int->Int->Nat->List (R2×R2)
 | 0,_,_,_,_,_=>[]
 | f+1,a,b,fr,g,d=>if fr=g then []else if fr-g=1/\e<=(d:Int)then [(a,b)]else isp c e f a (Yv a b) fr (c (Yv a b)) (d+1) ++ isp c e f (Yv a b) b (c (Yv a b)) g (d+1)
def Zfu(c:R2->Int)(g:R2->Prop)(e:Int):Nat->R2->R2->Int->Int->Nat->Prop
 | 0,_,_,_,_,_=>False
 | f+1,a,b,fr,h,d=>fr=h\/(fr-h=1/\e<=(d:Int))\/(d<1000/\Dk a b/\g (Yv a b)/\Zfu c g e f a (Yv a b) fr (c (Yv a b)) (d+1)/\Zfu c g e f (Yv a b) b (c (Yv a b)) h (d+1))
instance ispDec (c:R2->Int) (e:R2->Prop) [DecidablePred e] (g:Int):∀f a b fr h d,Decidable (Zfu c e g f a b fr h d)
 | 0,_,_,_,_,_=>inferInstanceAs (Decidable False)
 | f+1,a,b,fr,h,d=>@instDecidableOr _ _ _ (@instDecidableOr _ _ _ (@instDecidableAnd _ _ _ (@instDecidableAnd _ _ _ (@instDecidableAnd _ _ _ (@instDecidableAnd _ _ (ispDec c e g f a (Yv a b) fr (c (Yv a b)) (d+1)) (ispDec c e g f (Yv a b) b (c (Yv a b)) h (d+1)))))))
def okQ(z:R2):Prop:=bl z.1.natAbs<=65536/\bl z.2.natAbs<=65536/\0<z.2
def evok(c:List (SL×List Int))(m:R2):Prop:=∀z∈c,¬Ez z.2 m.1 m.2
def cvx(c:List (SL×List Int))(m:R2):Int:=chg (sgx c (fat m.1 m.2))
def cvc(F:Nat)(xs:List Int)(m:R2):Int:=cnt F xs m.1 m.2
def evc(F:Nat)(xs:List Int)(m:R2):Prop:=∀p∈Gu F xs,¬Ez p m.1 m.2
def slow(a:R2):R2:=(Me a.1 a.2,Nq a.1 a.2)
def sisol(F:Nat)(xs:List Int)(f:Nat)(a b:R2)(c:Int):List (R2×R2):=isp (cvc F xs) c f (slow a) (slow b) (cvc F xs a) (cvc F xs b) 0
def isOK(F:Nat)(xs:List Int)(f:Nat)(a b:R2)(c:Int):Prop:=Km F xs/\evc F xs a/\evc F xs b/\¬Np a.1 a.2/\¬Np b.1 b.2/\Zfu (cvc F xs) (evc F xs) c f (slow a) (slow b) (cvc F xs a) (cvc F xs b) 0/\(sisol F xs f a b c).length<=1000000
open Go.RowKit Below
variable {P:Program} {N:Nat} {sc:Nat->Prop} {env env':Yd} {H H':Hp} {Q Q':Exit->Act->World->Prop} {M:Nat->Prop}
def CalM(P:Program)(f:FuncId)(args:Array Value)(d:List Pc){G:Type}(φ:G->Prop)(val:G->Value)(h c:G->Pc):Prop:=
 ∀w,(∀p∈d,p.holds w)->Calls P f args w λe i=>∃g,e= .returned (val g)/\φ g/\Below w.heap.size w i/\(h g).holds i/\(∀b,(h g).fp b->w.heap.size<=b)/\
  (c g).holds i/\(c g).own=false/\(∀b,(c g).fp b->w.heap.size<=b\/∃q∈d,q.fp b)/\∀b,(h g).fp b->(c g).fp b->False
def FPostM(P:Program)(j:Func)(d:World)(h:List Pc){G:Type}(φ:G->Prop)(val:G->Value)(f c:G->Pc):Exit->Act->World->Prop:=
 bodyPost P j λe i=>∃g,e= .returned (val g)/\φ g/\Below d.heap.size d i/\(f g).holds i/\(∀b,(f g).fp b->d.heap.size<=b)/\
  (c g).holds i/\(c g).own=false/\(∀b,(c g).fp b->d.heap.size<=b\/∃q∈h,q.fp b)/\∀b,(f g).fp b->(c g).fp b->False
abbrev qD (z:SL×Nat):Pc:=d9p (Qu z.1) z.2
abbrev JE:=(R2×R2)×(SL×SL×SL×SL)
abbrev encJ (y:JE):Value:= .agg #[.bool (decide (y.1.1.1<0)),Qu y.2.1,.bool (decide (y.1.1.2<0)),Qu y.2.2.1,.bool (decide (y.1.2.1<0)),Qu y.2.2.2.1,.bool (decide (y.1.2.2<0)),Qu y.2.2.2.2]
abbrev qJ (y:JE):Pc:=Gm qD [(y.2.1,y.1.1.1.natAbs),(y.2.2.1,y.1.1.2.natAbs),(y.2.2.2.1,y.1.2.1.natAbs),(y.2.2.2.2,y.1.2.2.natAbs)]
abbrev J0:JE:=(((0,0),(0,0)),((none,0,0),(none,0,0),(none,0,0),(none,0,0)))
end Go.Sky
namespace Go.Sky
variable {P:Program} {N:Nat} {sc:Nat->Prop} {env env':Yd} {H H':Hp} {Q Q':Exit->Act->World->Prop}
def Zmy{c:Code}(h:E P N sc c (Exit.noGoto Q) env H):E P N sc (.scope c) Q env H:=λa w hs=>wp_scope_straight (h a w hs)
def x_ngn(h:X N sc .normal Q env H):X N sc .normal (Exit.noGoto Q) env H:=h
def Zmz{l:Nat}(h:X N sc .normal Q env H):E P N sc (.label l) Q env H:=λa w hs=>wp_label (h a w hs)
end Go.Sky
namespace Go.Sky
variable {P:Program} {N:Nat} {sc:Nat->Prop} {env env':Yd} {H H':Hp} {Q Q':Exit->Act->World->Prop}
def wcel(l:List Int):Array Value:=(l.map (Value.int .i64)).toArray
def Pp:Nat->Nat->Nat
 | _,0=>1
 | 0,_+1=>0
 | n+1,k+1=>Pp n k+Pp n (k+1)
theorem Zb4:∀n k,n<k->Pp n k=0
 | _,0,h=>absurd h (aZ _)
 | 0,_+1,_=>rfl
 | n+1,k+1,h=>by show Pp n k+Pp n (k+1)=0;rw [Zb4 n k O,Zb4 n (k+1) O]
structure Tab (l:List Int) (n k:Nat):Prop where
 len:l.length=625
 eq:∀r c,r<25->c<25->l.getD (r*25+c) 0=if r<n\/(r=n/\c<k)then(Pp r c:Int)else 0
theorem Zar{l:List Int}{i j:Nat}{v:Int}(hi:i<l.length:=by omega):(l.set i v).getD j 0=if j=i then v else l.getD j 0:=by
 rw [aA,aA,dY];by_cases h:i=j
 .subst h;rw [aK rfl,aK hi,aK rfl];rfl
 .rw [aG h,aG (λe=>h e.symm)]
theorem Tab.start:Tab (List.replicate 625 0) 0 0:=⟨bJ,λr c b a=>by rw [aG O,aA];rw [cT];split<;>rfl⟩
theorem Tab.step{l:List Int}{n k:Nat}{v:Int}(h:Tab l n k)(q:n<25)(p:k<25)(o:v=(Pp n k:Int)){j:Nat}(f:j=n*25+k):Tab (l.set j v) n (k+1):=by
 subst f;have i:=h.len;refine⟨by rw [aS];exact i,λr c m d=>?_⟩;rw [Zar,h.eq r c m d];by_cases e:r*25+c=n*25+k
 .have a:r=n:=O;have b:c=k:=O;subst a;subst b;rw [aK rfl,aK O];exact o
 .rw [aG e];have:¬(r=n/\c=k):=λ⟨a,b⟩=>e (by rw [a,b]);by_cases g:r<n\/(r=n/\c<k)
  .rw [aK g,aK O]
  .rw [aG g,aG O]
theorem Tab.row{l:List Int}{n k:Nat}(h:Tab l n k)(e:n<k):Tab l (n+1) 0:=⟨h.len,λr c d b=>by
 rw [h.eq r c d b];by_cases g:r<n\/(r=n/\c<k)
 .rw [aK g,aK O]
 .rw [aG g];by_cases a:r<n+1\/(r=n+1/\c<0)
  .rw [aK a,Zb4 r c O];rfl
  .rw [aG a]⟩
end Go.Sky
namespace Go.Sky
structure Tb (l:List Int) (n k:Nat):Prop where
 len:l.length=36
 eq:∀r c,r<6->c<6->l.getD (r*6+c) 0=if r<n\/(r=n/\c<k)then(Pp r c:Int)else 0
def Tb.start:Tb (List.replicate 36 0) 0 0:=⟨bJ,λr c b a=>by rw [aG O,aA];rw [cT];split<;>rfl⟩
def Tb.step{l:List Int}{n k:Nat}{v:Int}(h:Tb l n k)(q:n<6)(p:k<6)(o:v=(Pp n k:Int)){j:Nat}(f:j=n*6+k):Tb (l.set j v) n (k+1):=by
 subst f;have i:=h.len;refine⟨by rw [aS];exact i,λr c m d=>?_⟩;rw [Zar,h.eq r c m d];by_cases e:r*6+c=n*6+k
 .have a:r=n:=O;have b:c=k:=O;subst a;subst b;rw [aK rfl,aK O];exact o
 .rw [aG e];have:¬(r=n/\c=k):=λ⟨a,b⟩=>e (by rw [a,b]);by_cases g:r<n\/(r=n/\c<k)
  .rw [aK g,aK O]
  .rw [aG g,aG O]
def Tb.row{l:List Int}{n k:Nat}(h:Tb l n k)(e:n<k):Tb l (n+1) 0:=⟨h.len,λr c d b=>by
 rw [h.eq r c d b];by_cases g:r<n\/(r=n/\c<k)
 .rw [aK g,aK O]
 .rw [aG g];by_cases a:r<n+1\/(r=n+1/\c<0)
  .rw [aK a,Zb4 r c O];rfl
  .rw [aG a]⟩
variable {P:Program} {N:Nat} {sc:Nat->Prop} {env env':Yd} {H H':Hp} {Q Q':Exit->Act->World->Prop}
def Xh{α:Type _}(i:Nat)(a b c:α):α:=match i with
 | 0=>a
 | 1=>b
 | _=>c
theorem Zcm{α:Type _}{p:α->Prop}{i:Nat}{a b c:α}(d:p a)(e:p b)(f:p c):p (Xh i a b c):=by unfold Xh;split<;>assumption
end Go.Sky
namespace Go.Sky
variable {P:Program} {N:Nat} {sc:Nat->Prop} {env env':Yd} {H H':Hp} {Q Q':Exit->Act->World->Prop}
end Go.Sky
namespace Go.Sky
variable {P:Program} {N:Nat} {sc:Nat->Prop} {env env':Yd} {H H':Hp} {Q Q':Exit->Act->World->Prop}
abbrev Zk:=(Int×Int×Int)×(SL×List Int)×(SL×List Int)×(SL×List Int)
abbrev Zmw (g:Zk):Value:= .agg #[.int .i64 g.1.1,.int .i64 g.1.2.1,.int .i64 g.1.2.2,Qu g.2.1.1,Qu g.2.2.1.1,Qu g.2.2.2.1]
abbrev qC (z:SL×List Int):Pc:=Ou 1 Zo (Qu z.1) z.2
abbrev qG (g:Zk):Pc:=Gm qC [g.2.1,g.2.2.1,g.2.2.2]
abbrev G0:Zk:=((0,0,0),((none,0,0),[]),((none,0,0),[]),((none,0,0),[]))
end Go.Sky
namespace Go.Sky
variable{c y a b xs:List Int}{s η ε δ:Rat}{k:Rat->Rat}{fs:List (Rat->Rat)}{Y:Int}{ls:List (List Int)}
def Lo:List Int->Int
 | []=>1
 | x::r=>x*Lo r
def w60(n j k:Nat):Int:=60/(Pp n k:Int)*(Pp j k:Int)
def ctl(c:List Int)(j m:Nat):Int:=Zc (λk=>c.getD k 0*w60 (c.length-1) j k) m
theorem Zgd:∀{n k:Nat},k<=n->0<Pp n k
 | n,0,_=>by cases n<;>exact Nat.one_pos
 | n+1,k+1,h=>by have:=Zgd (n:=n) (k:=k) O;show 0<Pp n k+Pp n (k+1);omega
def Zhk(c:List Int)(d:Int):Bool:=(List.range c.length).all λj=>decide ((ctl c j (j+1)).natAbs<=62914560*d)
theorem bndB_t{d:Int}(h:∀j,j<c.length->((ctl c j (j+1)).natAbs:Int)<=62914560*d):Zhk c d=true:=by unfold Zhk;rw [dG];intro j e;exact aQ (h j (bR.1 e))
def axB(c:List Int)(d:Int):Bool:=decide (1<=c.length) && decide (c.length<=6) && !(decide (1<c.length) && decide (c.getD (c.length-1) 0=0)) && Zhk c d
def Zbu(g:Int):List Int->Int
 | []=>g
 | x::r=>Zbu (Int.gcd g x) r
theorem Zb9:∀{l:List Int} {g:Int} {m:Nat},(∀x∈l,bl x.natAbs<=m)->bl g.natAbs<=m->bl (Zbu g l).natAbs<=m
 | [],_,_,_,h=>h
 | x::l,g,m,h,hg=>Zb9 (l:=l) (λy d=>h y (bC _ d)) (aM (Znu g x) (by have:=h x (bM ..);omega))
abbrev Cs:=List Int×List Int×List Int
def timB(fr e d:Int):Bool:=decide (0<=fr) && decide (fr<e) && decide (e<=3600000) && decide (1<=d) && decide (d<=4294967296)
def segB(fr e d:Int)(x y z:List Int):Bool:=timB fr e d && axB x d && axB y d && axB z d && decide (Zbu d (x ++ y ++ z)=1)
def Gp(i:Nat)(x y z:List Int):List Int:=match i with
 | 0=>[]
 | 1=>x
 | 2=>x ++ y
 | _=>x ++ y ++ z
theorem axB_t{e:Int}(f:1<=c.length)(g:c.length<=6)(h:¬(1<c.length/\c.getD (c.length-1) 0=0))(i:Zhk c e=true):axB c e=true:=by
 unfold axB;simp only [bH,gD,jL,cD,jB];refine⟨⟨⟨f,g⟩,?_⟩,i⟩;by_cases d:1<c.length
 .exact .inr λj=>h ⟨d,j⟩
 .exact .inl d
def Zmp{x z:List Int}(d:∀a∈x,Ir a)(e:∀a∈y,Ir a)(f:∀a∈z,Ir a)(i:Nat):∀a∈Xh i x y z,Ir a:=Zcm (p:=λl=>∀a∈l,Ir a) d e f
abbrev RWL:=List (Bool×ByteArray)
def smallR(r:RWL):Bool:=decide (r.length<=8) && r.all λc=>decide (c.2.size<=6)
noncomputable def dec (r:RWL):List Int:=if h:okP r=true then(okP_ex h).choose else []
noncomputable def bdE (r:RWL):Int:=if okP r=true then chk0 (dec r)else 2
noncomputable def bdZ (r:RWL):Int:=if bdE r=0 then sbound (dec r)else 0
def firstE(r:RWL)(x y d e:Int):Int:=if okP r=true then(if r.length=0\/0<x*e-d*y then 3 else 0)else 2
def chke:Nat->Nat->Nat->Nat->Nat->Bool
 | 0,d,_,A,_=>Nat.ble (A+d*64) 65500
 | f+1,d,e,A,B=>Nat.ble (A+d*64) 65500 && (Nat.beq e 0 || (List.range e).all λl=>chke f e l B (bif Nat.ble l 1 then 2 else A+(d-e+1)*B))
inductive SV:List Int->List Int->Prop
 | one (a:Int):SV [a] [a]
 | step (a:Int) (r t:List Int):SV r t->SV (a::r) (a::t)
 | skip (a u w:Int) (r t:List Int):(a=1\/a=-1)->(-1<=u/\u<=1)->(-1<=w/\w<=1)->SV (-a::r) (-a::t)->SV (a::u::-a::r) (a::w::-a::t)
theorem Zaw{s:Int×Int}{a u:Int}(e:a=1\/a=-1)(f:-1<=u/\u<=1):Qn (Qn (Qn s a) u) (-a)=Qn (Qn s a) (-a):=by obtain⟨n,l⟩:=s;have d:u=-1\/u=0\/u=1:=O;rcases e with rfl|rfl<;>rcases d with rfl|rfl|rfl<;>simp [Qn]
theorem SV.fold(h:SV a b):∀s,a.foldl Qn s=b.foldl Qn s:=by
 induction h with
 | one a=>intro s;rfl
 | step a r t _ d=>intro s;exact d (Qn s a)
 | skip a u w r t e f g _ d=>
  intro s;show(r.foldl Qn (Qn (Qn (Qn s a) u) (-a)))=(t.foldl Qn (Qn (Qn (Qn s a) w) (-a)));rw [Zaw e f,Zaw e g];exact d (Qn s a)
def SV.chg(h:SV a b):chg a=chg b:=aU Prod.fst (h.fold (0,0))
def Ot(x:Rat):Int:=if x<0 then -1 else if x=0 then 0 else 1
theorem Zib{x:Rat}:-1<=Ot x/\Ot x<=1:=by unfold Ot;split;decide;split<;>decide
theorem Lk{x:Rat}(h:0<x):Ot x=1:=by unfold Ot;rw [aG O2,aG O2]
theorem Ll{x:Rat}(h:x<0):Ot x=-1:=by unfold Ot;rw [aK h]
def Big(η x:Rat)(f:Rat->Rat):Prop:=η<f x\/f x < -η
def Tri(η x:Rat):(Rat->Rat)->List (Rat->Rat)->Prop
 | _,[]=>True
 | _,[g]=>Big η x g
 | f,g::k::r=>(Big η x g/\Tri η x g (k::r))\/(Big η x k/\f x*k x<0/\Tri η x k r)
def Near(η x y:Rat)(f:Rat->Rat):Prop:=f x-f y<=η/\f y-f x<=η
theorem Zca{x y:Rat}{f:Rat->Rat}(e:0<=η)(h:Big η x f)(d:Near η x y f):Ot (f x)=Ot (f y)/\(Ot (f x)=1\/Ot (f x)=-1):=by
 obtain⟨g,i⟩:=d;rcases h with h|h
 .rw [Lk O2,Lk O2];exact⟨rfl,.inl rfl⟩
 .rw [Ll O2,Ll O2];exact⟨rfl,.inr rfl⟩
theorem opp_sg{a b:Rat}(h:a*b<0):Ot b=- Ot a:=by
 rcases(show a<0\/a=0\/0<a by grind)with e|e|e
 .rw [Ll e,Lk (by
   rcases(show b<=0\/0<b by grind)with d|d
   .have:=aC (a:=-a) (b:=-b) O2 O2;grind
   .exact d)];rfl
 .subst e;grind
 .rw [Lk e,Ll (by
   rcases(show 0<=b\/b<0 by grind)with d|d
   .have:=aC (a:=a) (b:=b) O2 d;grind
   .exact d)]
theorem Za6{η x y:Rat}(h:0<=η):∀(n:Nat) (f:Rat->Rat) (fs:List (Rat->Rat)),fs.length<=n->Big η x f->(∀g∈f::fs,Near η x y g)->Tri η x f fs->
  SV ((f::fs).map λg=>Ot (g x)) ((f::fs).map λg=>Ot (g y))
 | _,f,[],_,p,d,_=>by have:=(Zca h p (d f (bM ..))).1;simp only [bK,gF,this];exact SV.one _
 | 0,f,g::r,q,_,_,_=>absurd q O6
 | n+1,f,[g],q,p,d,i=>by have o:=(Zca h p (d f (bM ..))).1;have e:=Za6 h n g [] O6 i (λk m=>d k (bC _ m)) aB;rw [bK,bK,o];exact SV.step _ _ _ e
 | n+1,f,g::k::r,q,p,d,i=>by
  have o:=Zca h p (d f (bM ..));rcases i with⟨v,i⟩|⟨m,z,i⟩
  .have e:=Za6 h n g (k::r) (by simp at q ⊢;omega) v (λk m=>d k (bC _ m)) i;rw [bK (l:=g::k::r),bK (l:=g::k::r),o.1];exact SV.step _ _ _ e
  .have e:=Za6 h n k r (by simp at q ⊢;omega) m (λj w=>d j (bC _ (bC _ w))) i;have t:=(Zca h m (d k O6)).1;have u:=opp_sg z;rw [bK (l:=r),bK (l:=r)]at e;simp only [bK];rw [<-t]at e ⊢;rw [u]at e ⊢;rw [<-o.1];exact SV.skip _ _ _ _ _ o.2 Zib Zib e
structure Lnk (η x:Rat) (f g k:Rat->Rat):Prop where
 big:¬Big η x g->Big η x k
 opp:¬Big η x g->f x*k x<0
def Lnks(η x:Rat):(Rat->Rat)->List (Rat->Rat)->Prop
 | _,[]=>True
 | _,[g]=>Big η x g
 | f,g::k::r=>Lnk η x f g k/\Lnks η x g (k::r)
theorem Bn{η x:Rat} : ∀(n:Nat) (f:Rat->Rat) (fs:List (Rat->Rat)),fs.length<=n->Lnks η x f fs->Tri η x f fs
 | _,f,[],_,_=>trivial
 | 0,f,g::r,e,_=>absurd e O6
 | n+1,f,[g],_,h=>h
 | n+1,f,[g,k],e,h=>by
  by_cases d:Big η x g
  .exact .inl ⟨d,h.2⟩
  .exact .inr ⟨h.1.big d,h.1.opp d,aB⟩
 | n+1,f,g::k::j::r,e,h=>by
  by_cases d:Big η x g
  .exact .inl ⟨d,Bn n g (k::j::r) (by simp at e ⊢;omega) h.2⟩
  .exact .inr ⟨h.1.big d,h.1.opp d,Bn n k (j::r) (by simp at e ⊢;omega) h.2.2⟩
def Rl3(s t:Rat)(f g k:Rat->Rat):Prop:=∃m n Q:Rat,0<m/\0<n/\0<Q/\∀x,s<=x->x<=t->∃q,-Q<=q/\q<=Q/\m*f x=q*g x-n*k x
def Rl2(s t:Rat)(f g:Rat->Rat):Prop:=∃m Q:Rat,0<m/\0<Q/\∀x,s<=x->x<=t->∃q,-Q<=q/\q<=Q/\m*f x=q*g x
def Rls(s t:Rat):(Rat->Rat)->List (Rat->Rat)->Prop
 | _,[]=>True
 | f,[g]=>Rl2 s t f g
 | f,g::k::r=>Rl3 s t f g k/\Rls s t g (k::r)
theorem Ig{q Q g e:Rat}(f:-Q<=q)(h:q<=Q)(i:-e<=g)(j:g<=e)(l:0<=Q):q*g<=Q*e/\-(Q*e)<=q*g:=by have a:=aC (a:=Q-q) (b:=e+g) O2 O2;have b:=aC (a:=Q+q) (b:=e-g) O2 O2;have c:=aC (a:=Q-q) (b:=e-g) O2 O2;have d:=aC (a:=Q+q) (b:=e+g) O2 O2;constructor<;>grind
theorem Hm{x:Rat}{g:Rat->Rat}(h:¬Big η x g):-η<=g x/\g x<=η:=by unfold Big at h;constructor<;>grind
theorem Ze0{x:Rat}{g:Rat->Rat}(h:η<=ε)(d:Big ε x g):Big η x g:=by unfold Big at *;grind
theorem Pg{a b:Rat}(h:0<ε)(g:0<a)(i:0<b):∃e:Rat,0<e/\e<=ε/\e*a<=b:=by
 have f:0<b*a⁻¹:=aN i (dW.2 g);have j:b*a⁻¹*a=b:=O2;rcases(show ε<=b*a⁻¹\/b*a⁻¹<=ε by grind)with d|d
 .exact⟨ε,h,O2,by have:=bX d (show 0<=a by grind);grind⟩
 .exact⟨b*a⁻¹,f,d,O2⟩
theorem pair3{t:Rat}{f g:Rat->Rat}(h:Rl3 s t f g k)(z:0<ε)(I:∀x,s<=x->x<=t->Big ε x f\/Big ε x g) :
  ∃e,0<e/\(∀x,s<=x->x<=t->Big e x g\/Big e x k)/\∀η,0<η->η<=e->∀x,s<=x->x<=t->Lnk η x f g k:=by
 obtain⟨m,n,Q,v,H,Z,M⟩:=h;obtain⟨e,w,V,W⟩:=Pg z (show 0<Q+n by grind) (Rat.mul_pos v z);have j:∀η,0<η->η<=e->∀x,s<=x->x<=t->¬Big η x g->Big η x k/\f x*k x<0:=λη o p x hs i d=>by
  obtain⟨q,N,P,q3⟩:=M x hs i;obtain⟨F,G⟩:=Hm d;obtain⟨p1,p2⟩:=Ig N P F G O2;have u:Big ε x f:=(I x hs i).resolve_right λh=>d (Ze0 O2 h);have R:η*(Q+n)<=m*ε:=by have:=bX p (show 0<=Q+n by grind);grind
  have S:0<η*n:=aN o H;rcases u with u|u
  .have B:m*ε<m*f x:=by have:=aN v (show 0<f x-ε by grind);grind
   have D:n*k x < - (n*η):=O2;have r:k x < -η:=by
    rcases(show k x < -η\/-η<=k x by grind)with l|l
    .exact l
    .have:=aC (a:=n) (b:=k x+η) O2 O2;grind
   refine⟨.inr r,?_⟩;have:=aN (a:=f x) (b:=- k x) O2 O2;grind
  .have B:m*f x < - (m*ε):=by have:=aN v (show 0 < -ε-f x by grind);grind
   have D:n*η<n*k x:=O2;have r:η<k x:=by
    rcases(show η<k x\/k x<=η by grind)with l|l
    .exact l
    .have:=aC (a:=n) (b:=η-k x) O2 O2;grind
   refine⟨.inl r,?_⟩;have:=aN (a:=- f x) (b:=k x) O2 O2;grind
 refine⟨e,w,λx hs i=>?_,λη o p x hs i=>⟨λd=>(j η o p x hs i d).1,λd=>(j η o p x hs i d).2⟩⟩;by_cases d:Big e x g
 .exact .inl d
 .exact .inr (j e w O2 x hs i d).1
theorem pair2{t:Rat}{f g:Rat->Rat}(h:Rl2 s t f g)(l:0<ε)(w:∀x,s<=x->x<=t->Big ε x f\/Big ε x g) :
  ∃e,0<e/\∀η,0<η->η<=e->∀x,s<=x->x<=t->Big η x g:=by
 obtain⟨m,Q,j,v,z⟩:=h;obtain⟨e,o,G,H⟩:=Pg l v (aN j l);refine⟨e,o,λη I u x hs n=>?_⟩;by_cases i:Big η x g
 .exact i
 .exfalso;obtain⟨q,B,D,P⟩:=z x hs n;obtain⟨p,r⟩:=Hm i;obtain⟨M,N⟩:=Ig B D p r O2;have d:Big ε x f:=(w x hs n).resolve_right λh=>i (Ze0 O2 h);have F:η*Q<=m*ε:=by have:=bX u (show 0<=Q by grind);grind
  rcases d with d|d
  .have:=aN j (show 0<f x-ε by grind);grind
  .have:=aN j (show 0 < -ε-f x by grind);grind
theorem Zc4{s t:Rat} : ∀(n:Nat) (f:Rat->Rat) (fs:List (Rat->Rat)) (ε:Rat),fs.length<=n->Rls s t f fs->0<ε->(∀g r,fs=g::r->∀x,s<=x->x<=t->Big ε x f\/Big ε x g)->
  ∃e,0<e/\∀η,0<η->η<=e->∀x,s<=x->x<=t->Lnks η x f fs
 | _,f,[],ε,_,_,j,_=>⟨ε,j,λ_ _ _ _ _ _=>trivial⟩
 | 0,f,g::r,ε,hl,_,_,_=>absurd hl O6
 | n+1,f,[g],ε,_,h,j,u=>pair2 h j (u g [] rfl)
 | n+1,f,g::k::r,ε,hl,h,j,u=>by
  obtain⟨e,v,z,w⟩:=pair3 h.1 j (u g (k::r) rfl);obtain⟨o,p,i⟩:=Zc4 n g (k::r) e (by simp at hl ⊢;omega) h.2 v (λD F q=>by injection q with d m;subst d;exact z)
  rcases(show e<=o\/o<=e by grind)with B|B
  .exact⟨e,v,λη d m x hs l=>⟨w η d m x hs l,i η d O2 x hs l⟩⟩
  .exact⟨o,p,λη d m x hs l=>⟨w η d O2 x hs l,i η d m x hs l⟩⟩
def Lip(s t L:Rat)(f:Rat->Rat):Prop:=∀x y,s<=x->x<=y->y<=t->f x-f y<=L*(y-x)/\f y-f x<=L*(y-x)
def Ip(fs:List (Rat->Rat))(x:Rat):Int:=chg (fs.map λg=>Ot (g x))
theorem Zlh{t L:Rat}{f:Rat->Rat}(q:0<L)(w:∀g∈f::fs,Lip s t L g)(m:0<δ)(l:∀x,s<=x->x<=t->Big δ x f)(z:Rls s t f fs) :
  ∃h,0<h/\∀x y,s<=x->x<=y->y<=t->y-x<=h->Ip (f::fs) x=Ip (f::fs) y:=by
 obtain⟨e,n,o⟩:=Zc4 fs.length f fs δ (aH _) z m (λg r _ x hs B=> .inl (l x hs B));obtain⟨η,j,H,I⟩:=Pg m (show(0:Rat)<1 by decide) n;obtain⟨h,p,F,G⟩:=Pg j q j;refine⟨h,p,λx y d i D v=>SV.chg ?_⟩;refine Za6 O2 fs.length f fs (aH _) (Ze0 O2 (l x d O2)) (λg u=>?_) (Bn _ _ _ (aH _) (o η j O2 x d O2));obtain⟨a,b⟩:=w g u x y d i D;have:=bX v (show 0<=L by grind);exact⟨O2,O2⟩
theorem Zgs{t L:Rat}{f:Rat->Rat}(w:0<L)(D:∀g∈f::fs,Lip s t L g)(B:0<δ)(z:∀x,s<=x->x<=t->Big δ x f)(G:Rls s t f fs)(m:s<=t) :
  Ip (f::fs) s=Ip (f::fs) t:=by
 obtain⟨h,u,p⟩:=Zlh w D B z G;have o:∀n:Nat,∀y,s<=y->y<=t->y-s<=(n:Rat)*h->Ip (f::fs) s=Ip (f::fs) y:=λn=>by
  induction n with
  | zero=>
    intro y d e i;have:y=s:=by simp at i;grind
    rw [this]
  | succ n r=>
   intro y d e i;have q:((n+1:Nat):Rat)*h=(n:Rat)*h+h:=by push_cast;grind
   rcases(show y-s<=(n:Rat)*h\/(n:Rat)*h<y-s by grind)with j|j
   .exact r y d e j
   .have v:(0:Rat)<=(n:Rat)*h:=aC (by exact_mod_cast aW n) O2;rcases(show s<=y-h\/y-h<s by grind)with l|l
    .rw [r (y-h) l O2 O2];exact p (y-h) y l O2 e O2
    .exact p s y O2 d e O2
 have d:∃n:Nat,t-s<=(n:Rat)*h:=by
  have e:0<h⁻¹:=dW.2 u;refine⟨((t-s)*h⁻¹).ceil.toNat,?_⟩;have i:=@lI ((t-s)*h⁻¹);have q:((((t-s)*h⁻¹).ceil:Int):Rat)<=((((t-s)*h⁻¹).ceil.toNat:Nat):Rat):=by have:((t-s)*h⁻¹).ceil<=((((t-s)*h⁻¹).ceil.toNat:Nat):Int):=iM _;exact_mod_cast this
  have j:=bX (kZ i q) (show 0<=h by grind);have v:(t-s)*h⁻¹*h=t-s:=O2;grind
 obtain⟨n,F⟩:=d;exact o n t m O2 F
def Za:List Int->Rat->Rat
 | [],_=>0
 | c::p,x=>(c:Rat)+x*Za p x
theorem Zms(s t:Rat):∃K:Rat,0<K/\∀x,s<=x->x<=t->-K<=x/\x<=K:=by
 rcases(show(0<=s\/s<0) by grind)with h|h<;>rcases(show(0<=t\/t<0) by grind)with d|d
 .exact⟨t+1,O2,λx _ _=>O2⟩
 .exact⟨1,O2,λx _ _=>O2⟩
 .exact⟨t-s+1,O2,λx _ _=>O2⟩
 .exact⟨-s+1,O2,λx _ _=>O2⟩
theorem Zcs(s t:Rat):∀p:List Int,∃B:Rat,0<B/\∀x,s<=x->x<=t->-B<=Za p x/\Za p x<=B
 | []=>⟨1,O3,λx _ _=>by unfold Za;grind⟩
 | c::p=>by obtain⟨B,e,f⟩:=Zcs s t p;obtain⟨K,m,n⟩:=Zms s t;obtain⟨C,o,g⟩:=Zms (c:Rat) (c:Rat);have q:=g (c:Rat) O2 O2;refine⟨C+K*B,by have:=aN m e;grind,λx hs d=>?_⟩;obtain⟨h,i⟩:=f x hs d;obtain⟨j,l⟩:=n x hs d;obtain⟨f1,f2⟩:=Ig j l h i O2;unfold Za;constructor<;>grind
theorem Mg(s t:Rat):∀p:List Int,∃L:Rat,0<L/\Lip s t L (Za p)
 | []=>⟨1,O3,λx y _ _ _=>by unfold Za;constructor<;>grind⟩
 | c::p=>by obtain⟨L,n,o⟩:=Mg s t p;obtain⟨B,v,h⟩:=Zcs s t p;obtain⟨K,l,m⟩:=Zms s t;refine⟨K*L+B,by have:=aN l n;grind,λx y hs d f=>?_⟩;obtain⟨r,u⟩:=o x y hs d f;obtain⟨w,z⟩:=h y O2 f;obtain⟨i,j⟩:=m x hs O2;obtain⟨f1,f2⟩:=Ig (q:=x) (g:=Za p x-Za p y) (e:=L*(y-x)) i j O2 O2 O2;have D:=aC (a:=B-Za p y) (b:=y-x) O2 O2;have F:=aC (a:=B+Za p y) (b:=y-x) O2 O2;unfold Za;constructor<;>grind
theorem Cz(x:Rat):∀q:List Int,(∀i,cf q i=0)->Za q x=0
 | [],_=>rfl
 | c::q,h=>by have d:c=0:=h 0;have e:=Cz x q λi=>h (i+1);unfold Za;rw [e,d];grind
theorem Xx(x:Rat):∀p q:List Int,(∀i,cf p i=cf q i)->Za p x=Za q x
 | [],q,h=>by rw [Cz x q λi=>(h i).symm.trans (Zr (aW _))];rfl
 | c::p,[],h=>by rw [Cz x (c::p) λi=>(h i).trans (Zr (aW _))];rfl
 | c::p,d::q,h=>by have e:c=d:=h 0;have f:=Xx x p q λi=>h (i+1);unfold Za;rw [f,e]
def Xp:List Int->List Int->List Int
 | [],q=>q
 | p,[]=>p
 | a::p,b::q=>(a+b)::Xp p q
theorem Zda(p:List Int):Xp p []=p:=by cases p<;>rfl
theorem Zt(x:Rat):∀p q:List Int,Za (Xp p q) x=Za p x+Za q x
 | [],q=>by unfold Xp;show Za q x=0+Za q x;grind
 | a::p,[]=>by rw [Zda];show Za (a::p) x=Za (a::p) x+0;grind
 | a::p,b::q=>by have h:=Zt x p q;unfold Xp Za;rw [h];push_cast;grind
theorem Qj:∀(p q:List Int) (i:Nat),cf (Xp p q) i=cf p i+cf q i
 | [],q,i=>by unfold Xp;rw [show cf [] i=0 from Zr (aW _)];omega
 | a::p,[],i=>by rw [Zda,show cf [] i=0 from Zr (aW _)];omega
 | a::p,b::q,0=>rfl
 | a::p,b::q,i+1=>Qj p q i
theorem Zb(x:Rat)(c:Int):∀p:List Int,Za (p.map λa=>c*a) x=(c:Rat)*Za p x
 | []=>by show(0:Rat)=c*0;grind
 | a::p=>by have h:=Zb x c p;simp only [bK];unfold Za;rw [h];push_cast;grind
theorem Yb(c:Int):∀(p:List Int) (i:Nat),cf (p.map λa=>c*a) i=c*cf p i
 | [],i=>by simp [cf]
 | a::p,0=>rfl
 | a::p,i+1=>Yb c p i
def lmul:List Int->List Int->List Int
 | [],_=>[]
 | c::p,q=>Xp (q.map λa=>c*a) (0::lmul p q)
theorem Zd(x:Rat):∀p q:List Int,Za (lmul p q) x=Za p x*Za q x
 | [],q=>by show(0:Rat)=0*Za q x;grind
 | c::p,q=>by have h:=Zd x p q;unfold lmul;rw [Zt,Zb];show(c:Rat)*Za q x+(((0:Int):Rat)+x*Za (lmul p q) x)=((c:Rat)+x*Za p x)*Za q x;rw [h];grind
theorem On:∀(p q:List Int) (i:Nat),cf (lmul p q) i=Zc (λk=>cf p k*cf q (i-k)) (i+1)
 | [],q,i=>by rw [show cf (lmul [] q) i=0 from Zr (aW _)];exact(Pn λk _=>by rw [show cf [] k=0 from Zr (aW _),cK]).symm
 | c::p,q,0=>by unfold lmul;rw [Qj,Yb,Zf,Mu];show c*cf q 0+0=0+c*cf q 0;omega
 | c::p,q,i+1=>by have h:=On p q i;unfold lmul;rw [Qj,Yb,Qo];show c*cf q (i+1)+cf (lmul p q) i=c*cf q (i+1)+_;rw [h];congr 1;refine Zj λk d=>?_;show cf p k*cf q (i-k)=cf p k*cf q (i+1-(k+1));rw [show i+1-(k+1)=i-k by omega]
theorem Nf (a:Int)(c:Int)(x:List Int)(s:List Int)(y:List Int)(z:List Int)(h:∀t,a*cf x t=(ps s*ps y).c t-c*cf z t)(q:Rat):(a:Rat)*Za x q=Za s q*Za y q-(c:Rat)*Za z q:=by
 have d:∀t,cf (Xp (x.map λb=>a*b) (z.map λb=>c*b)) t=cf (lmul s y) t:=λt=>by rw [Qj,Yb,Yb,On,h t,PS.mul_c];show Zc (λk=>cf s k*cf y (t-k)) (t+1)-c*cf z t+c*cf z t=_;omega
 have e:=Xx q _ _ d;rw [Zt,Zb,Zb,Zd]at e;grind
theorem Zgu{t:Rat}{x:List Int}(w:Tr x)(o:Tr y)(g:y≠[])(H:y.length<=x.length):Rl3 s t (Za x) (Za y) (Za (Pb x y)):=by
 have N:=aD.2 g;obtain⟨r1,r2,k,u,G⟩:=Fd o g x.length x w O;have hs:=El x.length w o g H O;have l:Tr (Gl (Kb x.length x y)):=Qk;obtain⟨m,n,I,M,v⟩:=Gj l;rw [hs]at v;have F:0<Kw y^k:=Int.pow_pos (Fg o g);obtain⟨B,z,p⟩:=Zcs s t u;have j:(0:Rat)<(m:Rat):=by exact_mod_cast I
 have d:(0:Rat)<(n:Rat):=by exact_mod_cast M
 have h:(0:Rat)<((Kw y^k:Int):Rat):=by exact_mod_cast F
 refine⟨(n:Rat)*((Kw y^k:Int):Rat),(m:Rat),(n:Rat)*B,aN d h,j,aN d z,λq e f=>⟨(n:Rat)*Za u q,?_,?_,?_⟩⟩
 .have:=aC (a:=(n:Rat)) (b:=Za u q+B) O2 (by have:=p q e f;grind);grind
 .have:=aC (a:=(n:Rat)) (b:=B-Za u q) O2 (by have:=p q e f;grind);grind
 .have D:=Nf (Kw y^k) (-1) x u y (Kb x.length x y) (λt=>by rw [G t];omega) q;have r:Za ((Pb x y).map λb=>m*b) q=Za ((Kb x.length x y).map λb=>(-n)*b) q:=Xx q _ _ λi=>by rw [Yb,Yb,v i,Nj,jY,Int.neg_mul]
  rw [Zb,Zb]at r;push_cast at D r ⊢;grind
theorem rl2_of{t:Rat}{f g:Rat->Rat}(h:Rl3 s t f g (Za [])):Rl2 s t f g:=by obtain⟨m,n,Q,j,u,i,l⟩:=h;refine⟨m,Q,j,i,λx d e=>?_⟩;obtain⟨q,o,p,r⟩:=l x d e;refine⟨q,o,p,?_⟩;have:Za [] x=0:=rfl;rw [this]at r;grind
theorem Zak (s:Rat)(t:Rat) : ∀(f:Nat) (a b:List Int),Tr a->Tr b->cok f a b->∃r,Ql f a b=a::r/\Rls s t (Za a) (r.map Za)/\(b=[]->r=[])/\(b≠[]->∃n,r=b::n):=λf=>by
 induction f with
 | zero=>
  intro a b i j h;have d:b=[]:=h;subst d;exact⟨[],rfl,aB,λ_=>rfl,λh=>absurd rfl h⟩
 | succ f w=>
  intro a b i j h;by_cases d:b=[]
  .subst d;exact⟨[],Kt _ _,aB,λ_=>rfl,λh=>absurd rfl h⟩
  .obtain⟨g,z,x,l,v,hs⟩:=Zdo h d;obtain rfl:f=g:=O;obtain⟨r,o,p,q,u⟩:=w b (Pb a b) j (Iu i) v;have e:=Zgu (s:=s) (t:=t) i j d l;refine⟨b::r,by rw [hs,o],?_,λh=>absurd h d,λ_=>⟨r,rfl⟩⟩;by_cases m:Pb a b=[]
   .rw [q m];rw [m]at e;exact rl2_of e
   .obtain⟨n,rfl⟩:=u m;exact⟨e,p⟩
theorem Zc5{t L M:Rat}{f:Rat->Rat}(h:L<=M)(i:Lip s t L f):Lip s t M f:=λx y d e g=>by obtain⟨a,b⟩:=i x y d e g;have:=bX h (show 0<=y-x by grind);constructor<;>grind
theorem Zfs(s t:Rat):∀ls:List (List Int),∃L:Rat,0<L/\∀g∈ls.map Za,Lip s t L g
 | []=>⟨1,O3,λg d=>by cases d⟩
 | p::ls=>by
  obtain⟨L,h,e⟩:=Zfs s t ls;obtain⟨M,i,f⟩:=Mg s t p;refine⟨L+M,O2,λg d=>?_⟩;rw [bK]at d;rcases dA.1 d with rfl|d
  .exact Zc5 O2 f
  .exact Zc5 O2 (e g d)
theorem Fb{t:Rat}{f:Nat}(j:Tr a)(l:Tr b)(m:cok f a b)(d:s<=t)(n:0<δ)(i:∀x,s<=x->x<=t->Big δ x (Za a)) :
  Ip ((Ql f a b).map Za) s=Ip ((Ql f a b).map Za) t:=by
 obtain⟨r,g,h,_,_⟩:=Zak s t f a b j l m;obtain⟨L,o,e⟩:=Zfs s t (Ql f a b);rw [g]at e ⊢;exact Zgs o e n i h d
theorem Zcr(x:Rat)(l:Int):∀p:List Int,Za (p ++ [l]) x=Za p x+(l:Rat)*x^p.length
 | []=>by show(l:Rat)+x*0=0+l*x^0;rw [lA];grind
 | c::p=>by have h:=Zcr x l p;rw [gM,bF,lB];unfold Za;rw [h];grind
def alt:List Int->List Int
 | []=>[]
 | c::p=>c::(alt p).map λa=>-1*a
theorem Zio(c:Int)(p:List Int)(X Y:Int)(h:p≠[]):pev (c::p) X Y=c*Y^p.length+X*pev p X Y:=by
 have d:=aD.2 h;unfold pev;rw [bF,Qo,<-Xl];congr 1
 .show c*(X^0*Y^(p.length+1-1-0))=_;rw [eD,fB,show p.length+1-1-0=p.length by omega]
 .refine Zj λi hi=>?_;show cf p i*(X^(i+1)*Y^(p.length+1-1-(i+1)))=X*(cf p i*(X^i*Y^(p.length-1-i)));rw [show p.length+1-1-(i+1)=p.length-1-i by omega,gG];grind
theorem Zfm{X Y:Int}(e:0<Y):∀p:List Int,((pev p X Y:Int):Rat)=Za p ((X:Rat)/(Y:Rat))*(Y:Rat)^(p.length-1)
 | []=>by show(0:Rat)=0*_;grind
 | [c]=>by
  have:pev [c] X Y=c:=by unfold pev;show 0+c*(X^0*Y^0)=c;rw [eD,eD];omega
  rw [this];show(c:Rat)=(c+X/Y*0)*(Y:Rat)^0;rw [lA];grind
 | c::d::p=>by
  have h:=Zfm (X:=X) e (d::p);rw [Zio c (d::p) X Y O6];have f:(Y:Rat)≠0:=by
    have:(0:Rat)<(Y:Rat):=by exact_mod_cast e
    grind
  push_cast;rw [h];show(c:Rat)*(Y:Rat)^(p.length+1)+X*(Za (d::p) (X/Y)*(Y:Rat)^(p.length+1-1))=((c:Rat)+X/Y*Za (d::p) (X/Y))*(Y:Rat)^(p.length+1+1-1);rw [show p.length+1-1=p.length by omega,show p.length+1+1-1=p.length+1 by omega,lB];generalize Za (d::p) (X/Y)=R;generalize (Y:Rat)^p.length=P;have:(X:Rat)/Y*Y=X:=O2;grind
theorem Zh5{z:Int}{r q:Rat}(g:0<q)(h:(z:Rat)=r*q):z.sign=Ot r:=by
 rcases(show r<0\/r=0\/0<r by grind)with d|d|d
 .rw [Ll d];have:=aN (a:=-r) (b:=q) O2 g;have e:(z:Rat)<0:=O2;have f:z<0:=by exact_mod_cast e
  exact Int.sign_eq_neg_one_of_neg f
 .subst d;have e:(z:Rat)=0:=O2;have f:z=0:=by exact_mod_cast e
  subst f;rfl
 .rw [Lk d];have:=aN d g;have e:(0:Rat)<z:=O2;have f:0<z:=by exact_mod_cast e
  exact Int.sign_eq_one_of_pos f
theorem Zbz{X:Int}(d:0<Y)(p:List Int):fat X Y p=Ot (Za p ((X:Rat)/(Y:Rat))):=by
 have:(0:Rat)<(Y:Rat):=by exact_mod_cast d
 exact Zh5 (Rat.pow_pos this) (Zfm d p)
theorem Zlt{F:Nat}(l:Tr xs)(h:xs≠[])(f:eok F (gA (Zw xs) (Zv (Zw xs))) (gB (Zw xs) (Zv (Zw xs)))):∃g:List Int,∀x,Za xs x=Za (sqf F xs) x*Za g x:=by
 obtain⟨f1,f2,f3,f4,f5,f6⟩:=Xg F l h f;have e:∃k:Int,∀i,cf xs i=k*cf (Zw xs) i:=by
  unfold Zw Nz;split
  .refine⟨-Zx xs,λi=>?_⟩;rw [Yq,<-Oe xs i];grind
  .refine⟨Zx xs,λi=>?_⟩;rw [<-Oe xs i];grind
 obtain⟨k,e⟩:=e;refine⟨(Qg F (Zw xs) (Zv (Zw xs))).map λa=>k*a,λx=>?_⟩;have j:Za (Zw xs) x=Za (sqf F xs) x*Za (Qg F (Zw xs) (Zv (Zw xs))) x:=by
  have:=Nf 1 0 (Zw xs) (sqf F xs) (Qg F (Zw xs) (Zv (Zw xs))) [] (λt=>by have d:=Pq (sqf F xs) (Qg F (Zw xs) (Zv (Zw xs))) t;rw [<-f4]at d;rw [d];omega) x
  push_cast at this;grind
 have d:Za xs x=Za ((Zw xs).map λa=>k*a) x:=Xx x _ _ λi=>by rw [Yb];exact e i
 rw [d,Zb,Zb,j];grind
theorem Zk7{x:Rat}{f:List Int->Int}(h:∀p∈ls,Ot (Za p x)=f p):Ip (ls.map Za) x=chg (ls.map f):=by unfold Ip;rw [gJ];exact aU chg (kD λp d=>h p d)
def Znd{F:Nat}{X:Int}(d:0<Y):cnt F xs X Y=Ip ((Gu F xs).map Za) ((X:Rat)/(Y:Rat)):=
 (Zk7 λp _=>(Zbz d p).symm).symm
end Go.Sky

