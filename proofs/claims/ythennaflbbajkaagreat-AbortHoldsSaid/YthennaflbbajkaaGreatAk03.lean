/- Rules, arithmetic and contracts: part 4. No conditions but those that each theorem names. -/
import Derived.Test.YthennaflbbajkaaGreatAk02
import Derived.Scope
set_option linter.all false
namespace Go.Sky
variable{a b s c:List Int}
theorem Ak (k:Nat){f:Nat->Int} : ∀{n:Nat},k<n->(∀i,i<n->i≠k->f i=0)->Ye f n=f k
 | 0,d,_=>absurd d (bJ _)
 | n+1,d,h=>by
  rw [Yi];by_cases e:k=n
  .subst e;rw [Es λi hi=>h i O1 O1,mZ]
  .rw [h n O8 (λx=>e x.symm),Ak _ O1 (λi hi=>h i O1),bP]
theorem Av{p q:List Int}{a b:Nat}(e:∀i,a<i->cf p i=0)(f:∀i,b<i->cf q i=0):(ps p*ps q).c (a+b)=cf p a*cf q b:=by
 rw [PS.mul_c,Ak a O1 λi hi d=>?_]
 .grind [Lo]
 .rw [Lo,Lo];grind
theorem Zlu(s e:List Int)(c d:Int)(f:PS)(t:Nat):(ps (Bq (Yo s c) (Yo e d))*f).c t=c*(ps s*f).c t-d*(ps e*f).c t:=by rw [PS.mul_c,PS.mul_c,PS.mul_c,<-Mr,cS,<-iG,<-Mr,<-Dz];refine Xl λk _=>?_;rw [Lo,Lo,Lo,Bx,Qp,Qp];grind
theorem Yoq{q r:List Int}(j:Tr q)(f:q≠[])(h:∀t,(ps s*ps q).c t=cf r t)(o:∀t,q.length-1<=t->cf r t=0):∀t,cf s t=0:=by
 have d:=j.mem f;have hs:tzl s=[]:=by
  rcases Zjk _ with g|⟨u,y,g⟩
  .omega
  .have k:=Qt s;have e:tzl s≠[]:=O11;have l:=k.mem e;have m:=Av (p:=tzl s) (q:=q) (a:=(tzl s).length-1) (b:=q.length-1) (λi hi=>Yx O1) (λi hi=>Yx O1);have n:ps _=ps s:=PS.ext' λi=>Hm s i;grind [Int.mul_eq_zero]
 grind [Ik]
theorem Ki(h:∀t,cf s t=0)(f:PS)(t:Nat):(ps s*f).c t=0:=by simp_all [PS.mul_c,Es,Lo,cQ]
theorem Mj{p q:List Int}(f:Tr p)(g:Tr q)(d:p≠[])(e:q≠[]):(Pa p q).length=p.length+q.length-1:=by have h:=aN.2 d;have j:=aN.2 e;unfold Pa;rw [Za2,Yz];right;rw [Yz,Ih,aO O1,show p.length+q.length-1-1=(p.length-1)+(q.length-1) by omega,Av (λi hi=>Yx O1) (λi hi=>Yx O1)];exact bF (f.mem d) (g.mem e)
def mono(s:Nat)(c:Int):List Int:=List.replicate s 0 ++ [c]
theorem Zj4(s:Nat)(c:Int)(i:Nat):cf (mono s c) i=if i=s then c else 0:=by
 unfold mono;rw [Zov];split
 .unfold cf;grind
 .split
  .rename_i d;subst d;simp [cf]
  grind [Yx]
theorem Zlx(s:Nat)(c:Int)(f:PS)(t:Nat):(ps (mono s c)*f).c t=if s<=t then c*f.c (t-s)else 0:=by
 rw [PS.mul_c];split
 .rw [Ak s O1 λi _ d=>by rw [Lo,Zj4,aF d,cQ],Lo,Zj4,aO rfl]
 .exact Es λk e=>by rw [Lo,Zj4,aF O1,cQ]
theorem Zh0{p q:List Int}(o:0<q.length)(n:q.length<=p.length):∀j,j<=p.length-q.length+1->∃s:List Int,∀t,cf q (q.length-1)^j*cf p t=(ps s*ps q).c t+cf (Oe p q j) t
 | 0,_=>⟨[],λt=>by rw [Ki (λt=>Yx (bI _))];unfold Oe;simp⟩
 | j+1,y=>by
  obtain⟨s,r⟩:=Zh0 o n j O1;refine⟨Bq (Yo s (cf q (q.length-1))) (Yo (mono (p.length-1-j-(q.length-1)) (cf (Oe p q j) (p.length-1-j))) (-1)),λt=>?_⟩;rw [Zlu,Zlx];have d:=r t;show _=_+cf (Zk5 q _ _) t;rw [eJ];rcases bA t p.length with h|h
  .rw [Zvz (by grind [Kj])];generalize p.length-1-j-(q.length-1)=f;generalize cf (Oe p q j) t=k at d ⊢;generalize (ps s*ps q).c t=X at d ⊢;generalize cf q _^j=L at d ⊢;generalize cf q _=l at d ⊢;have e:L*l*cf p t=l*X+k*l:=O5;rw [e];by_cases m:f<=t
   .rw [aO m,Lo];by_cases x:t<f+q.length
    .omega
    .rw [Yx (p:=q) (i:=t-_) O1];simp
   omega
  .have g:=Yx h;have u:cf (Oe p q j) t=0:=Yx (by grind [Kj]);have v:cf (Zk5 q (Oe p q j) (p.length-1-j)) t=0:=Yx (by grind [Zg3,Kj]);have w:cf q (t-(p.length-1-j-(q.length-1)))=0:=Yx O1;rw [g,u,bP]at d;rw [g,v,Lo,w,<-d];simp
theorem Zbe(p:List Int){q:List Int}(e:q≠[]):∃(k:Nat) (s:List Int),∀t,cf q (q.length-1)^k*cf p t=(ps s*ps q).c t+cf (Qw p q) t:=by
 have d:=aN.2 e;rcases bA p.length q.length with h|h
 .refine⟨0,[],λt=>?_⟩;rw [Ki (λt=>Yx (bI _))];unfold Qw;grind
 .obtain⟨s,hs⟩:=Zh0 d h _ (aI _);refine⟨p.length-q.length+1,s,λt=>?_⟩;unfold Qw;simp_all [aF,Hm]
theorem Ps(p:List Int){q:List Int}(e:q≠[]):(Qw p q).length<q.length:=by
 have d:=aN.2 e;unfold Qw;split
 .omega
 .have:=Zby (p:=Oe p q _) λi hi=>Zk4 d O1 _ (aI _) i O1;omega
theorem Hc{p q:List Int}(d:Tr p):Tr (Qw p q):=by unfold Qw;grind [Qt]
def Sim(a b:List Int):Prop:=∃m n:Int,m≠0/\n≠0/\∀i,m*cf a i=n*cf b i
def Sim.refl(a:List Int):Sim a a:=⟨1,1,O1,O1,λ_=>rfl⟩
def Sim.symm : Sim a b->Sim b a:=λ⟨m,n,d,e,h⟩=>⟨n,m,e,d,λi=>(h i).symm⟩
def Sim.trans : Sim a b->Sim b c->Sim a c:=λ⟨m,n,d,e,h⟩ ⟨u,v,f,g,k⟩=>
 ⟨m*u,n*v,bF d f,bF e g,λi=>O5⟩
theorem Sim.zero(h:Sim a b){i:Nat}(hi:cf a i=0):cf b i=0:=by obtain⟨m,n,d,e,h⟩:=h;grind [Int.mul_eq_zero]
theorem Sim.len_le(h:Sim a b)(e:Tr b):b.length<=a.length:=by
 rcases bA a.length b.length with f|f
 .exfalso;have d:b≠[]:=aN.1 O1;exact e.mem d (h.zero (Yx O1))
 omega
def Sim.len(h:Sim a b)(d:Tr a)(e:Tr b):a.length=b.length:=jT (h.symm.len_le d) (h.len_le e)
theorem Sim.nil(h:Sim a b)(d:Tr b)(e:a=[]):b=[]:=by have:=h.len_le d;simp_all
theorem Zcn(c:Int):∀(p:List Int) (g:Int),0<=g->(p.map (· * c)).foldl (λg c=>(Int.gcd g c:Int)) (g*c.natAbs)=p.foldl (λg c=>(Int.gcd g c:Int)) g*c.natAbs
 | [],g,_=>rfl
 | x::p,g,hg=>by
  rw [cP,fX,fX,<-Zcn c p _ O8];congr 1;have:Int.gcd (g*(c.natAbs)) (x*c)=Int.gcd g x*c.natAbs:=by unfold Int.gcd;grind [Int.natAbs_mul,Int.natAbs_natCast,Nat.gcd_mul_right]
  omega
theorem Zh5(p:List Int)(c:Int):Xq (p.map (· * c))=Xq p*c.natAbs:=by have:=Zcn c p 0 (eA _);rw [cQ]at this;exact this
theorem Gw(p:List Int)(i:Nat):cf (Yw p) i*Xq p=cf p i:=by grind [Zdq,Int.ediv_mul_cancel,Kx]
theorem Yc8:Yw []=[]:=rfl
theorem Ap{p:List Int}(h:Tr p)(d:p≠[]):Xq p≠0:=λe=>h.mem d ((Zc8 p).1 e _)
theorem Gh{p:List Int}(h:Tr p)(d:p≠[]):Xq (Yw p)=1:=by
 have f:=Ap h d;have e:=Zh5 (Yw p) (Xq p);rw [show(Yw p).map _=p from Ia (by rw [bM,Yp]) λi _=>by grind [Zfy,Gw]]at e;have g:=Ma p;have j:Xq p*(Xq (Yw p)-1)=0:=by grind
 all_goals grind [Int.mul_eq_zero]
theorem Zgn{p:List Int}(h:Xq p=1):Yw p=p:=Ia (Yp p) λi _=>by rw [Zdq,h,nA]
theorem Zfj{p:List Int}(h:Tr p):Yw (Yw p)=Yw p:=by
 by_cases d:p=[]
 .subst d;rfl
 grind [Zgn,Gh]
theorem Qx{p:List Int}(h:Tr p):Sim (Yw p) p:=by
 by_cases d:p=[]
 .subst d;exact Sim.refl _
 .exact⟨Xq p,1,Ap h d,O1,λi=>by grind [Gw]⟩
def Xu(p:List Int):List Int:=Gl (Yw p)
theorem Zs7{x y:List Int}(o:Tr x)(p:Tr y)(q:x≠[])(d:Xq x=1)(f:Xq y=1)(h:Sim x y):x=y\/∀i,cf x i=- cf y i:=by
 have r:=h.len o p;obtain⟨m,n,t,l,e⟩:=h;have g:=Zh5 x m;have j:=Zh5 y n;rw [show x.map _=y.map (· * n)from Ia O5 λi _=>by grind [Zfy,Int.mul_comm],j,d,f]at g
 have k:m=n\/m=-n:=O1;rcases k with rfl|rfl
 .grind [Ia,Int.eq_of_mul_eq_mul_left]
 .exact .inr λi=>iU l O5
theorem Ax(g:List Int)(i:Nat):cf (Gl g) i=if g.length≠0/\cf g (g.length-1)<0 then-cf g i else cf g i:=by unfold Gl;grind [Qp]
theorem Mg{g:List Int}(h:Tr g):Tr (Gl g):=by unfold Gl;grind [Nu]
theorem Hj(g:List Int):Sim (Gl g) g:=by
 by_cases h:g.length≠0/\cf g (g.length-1)<0
 .exact⟨-1,1,O1,O1,λi=>by simp_all [Ax,aO]⟩
 .exact⟨1,1,O1,O1,λi=>by rw [Ax,aF h]⟩
theorem Zu3:∀(f:Nat) {a b:List Int},Tr a->Tr b->Tr (eu f a b)
 | 0,_,_,h,_=>h
 | f+1,a,b,d,e=>by
  unfold eu;split
  .exact d
  .exact Zu3 f e (Xj (Hc d))
theorem Ya9:∀(f:Nat) {a b:List Int},Tr a->Tr b->Yw a=a->Yw b=b->Yw (eu f a b)=eu f a b
 | 0,_,_,_,_,h,_=>h
 | f+1,a,b,d,i,e,g=>by
  unfold eu;split
  .exact e
  .exact Ya9 f i (Xj (Hc d)) g (Zfj (Hc d))
theorem Zko{p q:List Int}(d:Tr p)(e:Tr q):Tr (gA p q):=by unfold gA;all_goals grind [Xj]
theorem Zkn{p q:List Int}(d:Tr p)(e:Tr q):Tr (gB p q):=by unfold gB;all_goals grind [Xj]
theorem Yhb{F:Nat}{p q:List Int}(d:Tr p)(e:Tr q):Mz F p q=Xu (eu F (gA p q) (gB p q)):=by
 unfold Mz Xu;rw [Ya9 F (Zko d e) (Zkn d e)]
 .unfold gA;grind [Zfj]
 .unfold gB;grind [Zfj]
def chk:Nat->Nat->Nat->Nat->Nat->Bool
 | 0,_,d,_,_=>Nat.beq d 0
 | f+1,e,d,A,B=>Nat.beq d 0 || (bif Nat.blt e d then chk f d e B A else
   Nat.ble (A+(e-d+1)*B) 65537 && (List.range d).all λl=>chk f d l B (bif Nat.ble l 1 then 2 else A+(e-d+1)*B))
theorem cp_nf{p:List Int}{x y z:Int}{n m:Nat}(d:Sz n p)(j:bl x.natAbs<=m)(k:bl y.natAbs<=m)(l:bl z.natAbs<=m)(i:p.length<=25)(h:n+24*(m+1)+8<=65536):Pd p+(p.length-1)*(Pd [x,y,z]+1)+8<=65536:=by
 have e:=Og d;have f:Pd [x,y,z]<=m:=by simp only [Pd];omega
 have g:(p.length-1)*(Pd [x,y,z]+1)<=24*(m+1):=aU O1 O1;omega
theorem cp_not{p:List Int}{x y z:Int}(h:Pd p+(p.length-1)*(Pd [x,y,z]+1)+8<=65536):¬Zmu p x y z:=λd=>by have:=d.2;omega
theorem Zfm(p:List Int)(x y z:Int):(Ky p x y z).length<=p.length:=by
 unfold Ky;split
 .simp
 grind [Nat.le_trans,Ge,Zdc]
theorem Zuf(x y:Int):Nw x y∣x:=by
 unfold Nw;split
 all_goals grind [Int.neg_dvd,Int.gcd_dvd_left]
theorem Zue(x y:Int):Nw x y∣y:=by
 unfold Nw;split
 all_goals grind [Int.neg_dvd,Int.gcd_dvd_right]
def s8(l:List Int):Prop:=∀x∈l,(Xo x.natAbs).size<=8
abbrev Z0:SL×List Int:=((none,0,0),[])
theorem vp_eu:∀(f:Nat) {a b:List Int},Vp a->Vp b->eok f a b->Vp (eu f a b)
 | 0,_,_,h,_,_=>h
 | f+1,a,b,d,e,h=>by
  unfold eu;split
  .exact d
  .rcases h with h|h
   .contradiction
   .exact vp_eu f e (Hb (Zcu d h.1)) h.2
theorem Ye1{g:List Int}(h:Vp g):Vp (Gl g):=by
 unfold Gl;split
 .refine⟨λi=>by rw [Qp];exact Zcj h.sz i,Nu _ _,aB Kg h.len⟩
 omega
def Ymt{F:Nat}{p q:List Int}(d:Vp p)(e:Vp q)(h:eok F (gA p q) (gB p q)):Vp (Mz F p q):=Ye1 (vp_eu F (vp_gA d e) (vp_gB d e) h)
def pevn(p:List Int)(x y:Int)(n:Nat):Int:=Ye (λi=>cf p i*(x^i*y^(n-1-i))) n
def dn(p:List Int)(y:Int):Int:=y^(p.length-1)
theorem Cb(q:List Int):Pa [] q=[]:=Zgp (.inl rfl)
theorem Zfl(p:List Int):Pa p []=[]:=Zgp (.inr rfl)
theorem Yih(N D:Int):N/Nw N D*D=N*(D/Nw N D):=by grind [Int.ediv_mul_cancel,Zuf,Zue]
theorem Ydq{N D:Int}(h:0<D):0<D/Nw N D:=by
 have f:Nw N D=(Int.gcd N D):=aF O1;have g:=iW (Zue N D);rw [f]at g ⊢;generalize D/(Int.gcd N D)=d at *;rcases iQ 0 d with e|e
 .omega
 .have:d*(Int.gcd N D)<=0:=eZ e O8;omega
section
variable {p q:List Int}
theorem Zfu(l:Tr p)(f:Tr q)(h:p≠[])(d:q≠[]):∀j,j<=p.length->∀t,cf (Pi (Pa p q) q j) t=(ps (p.take (p.length-j))*ps q).c t
 | 0,_,t=>by rw [gP,cK];exact Gz p q t
 | j+1,y,t=>by
  have n:=Zfu l f h d j O1;have z:=aN.2 d;have v:=Mj l f h d;have r:Pi (Pa p q) q (j+1)=Zom q (Pi (Pa p q) q j) (p.length-1-j):=by show Zom q _ _=_;grind
  have w:=f.mem d;have m:cf (Pi (Pa p q) q j) (p.length-1-j+q.length-1)=cf p (p.length-1-j)*cf q (q.length-1):=by rw [n,show p.length-1-j+q.length-1=(p.length-1-j)+(q.length-1) by omega,Av (λi hi=>by rw [Dh,aF O1]) (λi hi=>Yx O1),Dh,aO O1]
  have e:dq q (Pi (Pa p q) q j) (p.length-1-j)=cf p (p.length-1-j):=by unfold dq;simp_all
  have u:(ps (p.take (p.length-j))*ps q).c t=(ps (p.take (p.length-(j+1)))*ps q).c t+(ps (mono (p.length-1-j) (cf p (p.length-1-j)))*ps q).c t:=by rw [PS.mul_c,PS.mul_c,PS.mul_c,<-Dz];refine Xl λk _=>?_;rw [Lo,Lo,Lo,Lo,Dh,Dh,Zj4];grind
  rw [r];unfold Zom;rw [Ih,Za9,v,e,n,u,Zlx,Lo];by_cases g:t<p.length+q.length-1
  .rw [aO g];by_cases o:p.length-1-j<=t
   .rw [aO o];by_cases x:t<p.length-1-j+q.length
    .omega
    .rw [Yx (p:=q) O1];simp
   omega
  .rw [aF g,PS.mul_c];refine(Es λk _=>?_).symm;rw [Lo,Lo,Dh];split
   .rw [Yx (p:=q) O1,eI]
   omega
theorem Zz3(f:Tr p)(g:Tr q)(e:q≠[]):pdv (Pa p q) q/\Hs (Pa p q) q=p:=by
 by_cases d:p=[]
 .subst d;rw [Cb];exact⟨.inl rfl,rfl⟩
 have r:=aN.2 d;have t:=aN.2 e;have o:=Mj f g d e;have m:=g.mem e;have n:∀k,k<=p.length-1->cf (Pi _ q (p.length-1-k)) (k+q.length-1)=cf p k*cf q _:=λk j=>by rw [Zfu f g d e _ O1,show k+q.length-1=k+(q.length-1) by omega,Av (λi hi=>by rw [Dh,aF O1]) (λi hi=>Yx O1),Dh,aO O1]
 have l:(Pa p q).length-q.length=p.length-1:=O1;have h:Pa p q≠[]:=aN.1 O1;refine⟨.inr ⟨O1,λk j=>?_,?_⟩,?_⟩
 .unfold Hl;simp_all
 .rw [l,show p.length-1+1=p.length by omega];refine(Ik _).2 λi=>?_;rw [Zfu f g d e _ (aI _),kB];simp [Ki,Yx,bI]
 .rw [Ztt h];unfold Yg3;rw [l,show p.length-1+1=p.length by omega,Aq λk j=>?_,Zgz,Za2 f];unfold Ybo dq;grind [Int.mul_ediv_cancel]
end
def Dv(g a:List Int):Prop:=∃(k:Int) (s:List Int),k≠0/\∀t,k*cf a t=(ps s*ps g).c t
theorem Zt2(f:PS)(t:Nat):(ps [1]*f).c t=f.c t:=by rw [PS.mul_c,Ak 0 O8 λi _ d=>by rw [Lo,Yx O5,cQ],Lo,show cf [1] 0=1 from rfl,jC,gP]
theorem Dv.refl(a:List Int):Dv a a:=⟨1,[1],O1,λt=>by rw [Zt2,jC,Lo]⟩
theorem Dv.nil(g:List Int):Dv g []:=⟨1,[],O1,λt=>by simp [Ki,Yx,bI]⟩
theorem Dv.sim{g:List Int} : Dv g a->Sim a b->Dv g b:=λ⟨k,s,d,h⟩ ⟨m,n,j,f,e⟩=>
 ⟨k*n,Yo s m,bF d f,λt=>by rw [PS.mul_c,show(λi=>(ps _).c i*(ps g).c _)=λi=>m*((ps s).c i*(ps g).c (t-i))from nM λi=>by grind [Lo,Qp],Mr,<-PS.mul_c];grind⟩
theorem Dv.lin{g:List Int}(e:Dv g a)(f:Dv g b)(s:List Int)(L:Int)(d:L≠0)(h:∀t,L*cf c t=(ps s*ps a).c t+cf b t):Dv g c:=by
 obtain⟨k,u,j,r⟩:=e;obtain⟨m,v,l,w⟩:=f;refine⟨L*(k*m),Za7 (Yo (Pa s u) m) (Yo v k),bF d (bF j l),λt=>?_⟩;have n:k*(ps s*ps a).c t=(ps (Pa s u)*ps g).c t:=by rw [Yn7,PS.mul_assoc',PS.mul_c,PS.mul_c,<-Mr];grind [Xl,Lo]
 have o:(ps (Za7 (Yo (Pa s u) m) (Yo v k))*ps g).c t=m*(ps (Pa s u)*ps g).c t+k*(ps v*ps g).c t:=by rw [PS.mul_c,PS.mul_c,PS.mul_c,<-Mr,<-Mr,<-Dz];refine Xl λi _=>?_;rw [Lo,Lo,Lo,Lo,Zry,Qp,Qp];grind
 grind
theorem eu_dv:∀(f:Nat) {a b:List Int},Tr a->Tr b->eok f a b->Dv (eu f a b) a/\Dv (eu f a b) b
 | 0,a,b,j,d,h=>by rw [show b=[]from h];exact⟨Dv.refl _,Dv.nil _⟩
 | f+1,a,b,j,d,h=>by
  by_cases i:b=[]
  .grind [Zmk,Dv.refl,Dv.nil]
  .rcases h with h|h
   .grind
   .have e:eu (f+1) a b=eu f b (Yw (Qw a b)):=by
     conv=>lhs;unfold eu
     grind
    rw [e];have t1:=Hc (q:=b) j;obtain⟨g,l⟩:=eu_dv f d (Xj t1) h.2;obtain⟨k,s,hs⟩:=Zbe a i;exact⟨g.lin (l.sim (Qx t1)) s _ (Iv (d.mem i) k) hs,g⟩
theorem Dv.of_sim{g d:List Int} : Dv g a->Sim g d->Dv d a:=λ⟨k,s,f,h⟩ ⟨m,n,i,j,e⟩=>
 ⟨m*k,Yo s n,bF i f,λt=>by grind [Int.mul_assoc,PS.mul_c,Mr,Xl,Lo,Qp]⟩
theorem Dv.zero(e:Tr a)(h:Dv [] a):a=[]:=by obtain⟨k,s,f,h⟩:=h;rw [<-Za2 e,Ik];intro i;have d:=h i;rw [PS.mul_comm',Ki (λt=>Yx (bI _))]at d;grind [Int.mul_eq_zero]
theorem Zd5{F:Nat}{p q:List Int}(g:Tr p)(i:Tr q)(h:eok F (gA p q) (gB p q)):Dv (Mz F p q) p/\Dv (Mz F p q) q:=by
 have j:=Zko g i;have k:=Zkn g i;obtain⟨d,e⟩:=eu_dv F j k h;have hs:Sim _ (Mz F p q):=(Hj _).symm;have d:=d.of_sim hs;have e:=e.of_sim hs;by_cases f:p.length<q.length
 .rw [show gA p q=Yw q from aO f]at d;rw [show gB p q=Yw p from aO f]at e;exact⟨e.sim (Qx g),d.sim (Qx i)⟩
 .rw [show gA p q=Yw p from aF f]at d;rw [show gB p q=Yw q from aF f]at e;exact⟨d.sim (Qx g),e.sim (Qx i)⟩
def Zf6 (F:Nat){p q:List Int}(d:Tr p)(e:Tr q):Tr (Mz F p q):=Mg (Zu3 F (Zko d e) (Zkn d e))
theorem Zws{p:List Int}{c:Int}(h:c≠0):Sim p (Yo p c):=⟨c,1,h,O1,λi=>by grind [Qp]⟩
def fin8(d A:Nat):Bool:=Nat.ble d 2 || Nat.ble (64+(9-d)*A) 65536
def chk2:Nat->Nat->Nat->Nat->Nat->Bool
 | 0,d,_,A,_=>fin8 d A
 | f+1,d,e,A,B=>bif Nat.beq e 0 then fin8 d A else bif Nat.blt d e then chk2 f e d B A else
   (List.range e).all λl=>chk2 f e l B (bif Nat.ble l 1 then 2 else A+(d-e+1)*B)
theorem Zb8{g:List Int}(h:Tr g):(Gl g).length=g.length:=(Hj g).len (Mg h) h
theorem Ziy(g:List Int):Xq (Gl g)=Xq g:=by
 have d:Xq (Gl g)∣Xq g:=Ce λi=>by
  have h:=Kx (Gl g) i;rw [Ax]at h;split at h
  all_goals simp_all
 have e:Xq g∣Xq (Gl g):=Ce λi=>by
  rw [Ax];split
  all_goals grind [Int.dvd_neg,Kx]
 exact Int.dvd_antisymm (Ma _) (Ma _) d e
theorem Zlk{F:Nat}{p q:List Int}(f:Tr p)(g:Tr q)(d:Mz F p q≠[]):Xq (Mz F p q)=1:=by rw [Yhb f g]at d ⊢;unfold Xu at d ⊢;rw [Ziy];refine Gh (Zu3 F (Zko f g) (Zkn f g)) λe=>d ?_;rw [e];rfl
end Go.Sky
namespace Go.Sky
variable{a b p x y xs:List Int}{i:Nat}{s:Int}{ls:List (SL×List Int)}
def Zbd(xs:List Int):Prop:=xs.length=0\/(xs.length+2)*(xs.length+2)*(Pd xs+16)<=65536
instance (xs:List Int):Decidable (Zbd xs):=by unfold Zbd;infer_instance
def sqf(F:Nat)(xs:List Int):List Int:=Hs (Xu xs) (Mz F (Xu xs) (Xg (Xu xs)))
def Ynf(F:Nat)(xs:List Int):Prop:=(∀i,i<xs.length->bl (cf (Xu xs) (i+1)*((i:Int)+1)).natAbs<=65536)/\¬Zog (Xu xs) (Xg (Xu xs))/\eok F (gA (Xu xs) (Xg (Xu xs))) (gB (Xu xs) (Xg (Xu xs)))/\
 Bv (Xu xs) (Mz F (Xu xs) (Xg (Xu xs)))=0/\pdv (Xu xs) (Mz F (Xu xs) (Xg (Xu xs)))
def Ms(x y:List Int):List Int:=if cf y (y.length-1)<0/\(x.length-y.length+1)%2=1 then Yw (Qw x y)else Yo (Yw (Qw x y)) (-1)
def cok:Nat->List Int->List Int->Prop
 | 0,_,y=>y=[]
 | f+1,x,y=>y=[]\/(Bv x y=0/\y.length<=x.length/\cok f y (Ms x y))
def Mx:Nat->List Int->List Int->List (List Int)
 | 0,x,_=>[x]
 | f+1,x,y=>if y=[]then [x]else x::Mx f y (Ms x y)
theorem Am(f:Nat)(x:List Int):Mx f x []=[x]:=by cases f<;>rfl
theorem Zmx{f:Nat}(h:cok f a b)(c:b≠[]):∃g,f=g+1/\Bv a b=0/\b.length<=a.length/\cok g b (Ms a b)/\Mx f a b=a::Mx g b (Ms a b):=by
 cases f with
 | zero=>exact absurd h c
 | succ g=>
  rcases h with h|h
  .exact absurd h c
  .exact⟨g,rfl,h.1,h.2.1,h.2.2,by show(if b=[]then [a]else _)=_;rw [aF c]⟩
def chn(F:Nat)(xs:List Int):List (List Int):=Mx F (sqf F xs) (Yw (Xg (sqf F xs)))
def Zad(F:Nat)(xs:List Int):Prop:=Ynf F xs/\(∀i,i<xs.length->bl (cf (sqf F xs) (i+1)*((i:Int)+1)).natAbs<=65536)/\cok F (sqf F xs) (Yw (Xg (sqf F xs)))
theorem Ye0(h:Vp p):Vp (Xu p):=by
 unfold Xu;have c:=Hb h;refine⟨λi=>?_,Mg c.tr,by rw [Zb8 c.tr];exact c.len⟩;rw [Ax];split
 .rw [iD];exact c.sz i
 .exact c.sz i
theorem Pp(h:Tr p):(Xu p).length=p.length:=by unfold Xu;rw [Zb8 (Xj h),Yp]
theorem Zsq(d:Vp x)(c:Bv x y=0):Vp (Ms x y):=by
 have h:=Hb (Zcu d c);unfold Ms;split
 .exact h
 .exact⟨λi=>by rw [Qp];exact Zcj h.sz i,Nu _ _,aB Kg h.len⟩
def Mo(s:Int×Int)(x:Int):Int×Int:=if x=0 then s else(if x=-s.2 then s.1+1 else s.1,x)
def chg(l:List Int):Int:=(l.foldl Mo (0,0)).1
def Zfp{α β:Type}(f:α->β->α)(a:α)(l:List β)(x:β):(l ++ [x]).foldl f a=f (l.foldl f a) x:=O8
theorem chg1_n(s:Int×Int)(x:Int):(Mo s x).1=s.1\/(Mo s x).1=s.1+1:=by
 unfold Mo;split
 .exact .inl rfl
 .dsimp only;split
  .exact .inr rfl
  .exact .inl rfl
def sgs(ls:List (List Int))(x y:Int):List Int:=ls.map λp=>(pev p x y).sign
def sgr(ls:List (List Int)):List Int:=ls.map λp=>(cf p (p.length-1)).sign
def sgl(ls:List (List Int)):List Int:=ls.map λp=>if p.length%2=0 then-(cf p (p.length-1)).sign else(cf p (p.length-1)).sign
def smost(xs:List Int):Nat:=(xs.take (xs.length-1)).foldl (λm c=>max m c.natAbs) 0
def sbound(xs:List Int):Int:=((smost xs/(cf xs (xs.length-1)).natAbs:Nat):Int)+2
def Zyc(xs:List Int):Int:=if xs.length=0 then 3 else if Zbd xs then 0 else 7
def ef(z:Int×Int):Bool:=decide (512<bl z.1.natAbs) || decide (512<bl z.2.natAbs)
def chk2r(xs:List Int)(x y c d:Int):Int:=if xs.length=0 then 3 else if 0<x*d-c*y then 3 else if Zbd xs/\ef (x,y)=false/\ef (c,d)=false then 0 else 7
theorem Yqt(c:xs≠[])(h:Zbd xs):Zyc xs=0:=by unfold Zyc;rw [aF (λe=>c (aK e)),aO h]
theorem Yad(h:¬cf (Yw xs) ((Yw xs).length-1)<0):Xu xs=Yw xs:=by unfold Xu Gl;rw [aF O1]
theorem Yae(c:(Yw xs).length≠0)(h:cf (Yw xs) ((Yw xs).length-1)<0):Xu xs=Yo (Yw xs) (-1):=by unfold Xu Gl;rw [aO ⟨c,h⟩]
theorem Zfq (P:Nat->Prop) : ∀n,P n->∃m,P m/\∀k,k<m->¬P k:=by
 intro n
 induction n using Nat.strongRecOn with
 | _ n f=>
  intro h;by_cases e:∃k,k<n/\P k
  .obtain⟨k,d,c⟩:=e;exact f k d c
  .exact⟨n,h,λk d c=>e ⟨k,d,c⟩⟩
theorem Yds{n:Nat}(h:2<=n):∃p,2<=p/\p∣n/\∀d,2<=d->d∣n->p<=d:=by
 obtain⟨p,⟨f,g⟩,j⟩:=Zfq (λd=>2<=d/\d∣n) n ⟨h,Nat.dvd_refl n⟩;exact⟨p,f,g,λd k e=>by
  rcases bA d p with c|c
  .exact absurd ⟨k,e⟩ (j d c)
  .exact c⟩
theorem Zum{n p:Nat}(q:2<=p)(j:p∣n)(k:∀d,2<=d->d∣n->p<=d)(u:0<n){x y:Int}(h:(p:Int)∣x*y):(p:Int)∣x\/(p:Int)∣y:=by
 by_cases g:(p:Int)∣x
 .exact .inl g
 .right;have m:Nat.gcd p x.natAbs=1:=by
   have f:=Nat.gcd_dvd_left p x.natAbs;have o:0<Nat.gcd p x.natAbs:=Nat.gcd_pos_of_pos_left _ O1;rcases bA (Nat.gcd p x.natAbs) 2 with c|c
   .omega
   .have r:=k _ c (Nat.dvd_trans f j);have t:=kW O1 f;exfalso;refine g (fU.1 ?_);rw [eP];have l:Nat.gcd p x.natAbs=p:=O1;rw [<-l];exact Nat.gcd_dvd_right _ _
  have e:=fU.2 h;rw [eP,bR]at e;refine fU.1 ?_;rw [eP];exact(show Nat.Coprime p x.natAbs from m).dvd_of_dvd_mul_left e
theorem gauss{g:List Int}(hg:Xq g=1):∀(n:Nat) (k:Int) (s:List Int),k.natAbs=n->k≠0->(∀t,k*cf a t=(ps s*ps g).c t)->∃q:List Int,∀t,cf a t=(ps q*ps g).c t:=by
 intro n
 induction n using Nat.strongRecOn with
 | _ n ih=>
  intro k s o S h;rcases bA n 2 with P|P
  .have G:k*k=1:=by have:k=1\/k=-1:=O1;rcases this with e|e<;>subst e<;>rfl
   refine⟨Yo s k,λt=>?_⟩;have e:(ps (Yo s k)*ps g).c t=k*(ps s*ps g).c t:=by rw [PS.mul_c,PS.mul_c,<-Mr];exact Xl λi _=>by rw [Lo,Lo,Lo,Qp];grind
   rw [e,<-h,<-gE,G,jC]
  .obtain⟨p,V,W,pm⟩:=Yds P;have I:∀{x y:Int},(p:Int)∣x*y->(p:Int)∣x\/(p:Int)∣y:=Zum V W pm O1;have r:(p:Int)∣k:=fU.1 (by rw [eP,o];exact W);have w:∃j,¬(p:Int)∣cf g j:=aZ λu=>by have:(p:Int)∣Xq g:=Ce λi=>aZ λhy=>u ⟨i,hy⟩;rw [hg]at this;have:=mK O4 this;omega
   obtain⟨j0,D⟩:=w;obtain⟨j,hj,F⟩:=Zfq (λj=>¬(p:Int)∣cf g j) j0 D;have hs:∀i,(p:Int)∣cf s i:=λi0=>aZ λz=>by
    obtain⟨i,hi,B⟩:=Zfq (λi=>¬(p:Int)∣cf s i) i0 z;have Q:=h (i+j);rw [PS.mul_c]at Q;have N:∀m,m<=i+j+1->(p:Int)∣Ye (λk=>if k=i then 0 else(ps s).c k*(ps g).c (i+j-k)) m:=λm=>by
     induction m with
     | zero=>intro _;exact kC _
     | succ m M=>
      intro hm;rw [Yi];refine Int.dvd_add (M O1) ?_;split
      .exact kC _
      .rename_i a0;rw [Lo,Lo];rcases bA m i with v|v
       .exact eW (aZ λu=>B m v u) (kP _ _)
       .exact eW (aZ λu=>F (i+j-m) O1 u) (Int.dvd_mul_left _ _)
    have Y:Ye (λk=>(ps s).c k*(ps g).c (i+j-k)) (i+j+1)=Ye (λk=>if k=i then 0 else(ps s).c k*(ps g).c (i+j-k)) (i+j+1)+cf s i*cf g j:=by
     have Z:Ye (λk=>(ps s).c k*(ps g).c (i+j-k)) (i+j+1)=Ye (λk=>(if k=i then 0 else(ps s).c k*(ps g).c (i+j-k))+(if k=i then(ps s).c k*(ps g).c (i+j-k)else 0)) (i+j+1):=
      Xl λk _=>by split<;>omega
     rw [Z,Dz,Ak i (f:=λk=>if k=i then(ps s).c k*(ps g).c (i+j-k)else 0) O1 (λq _ hq=>aF hq),aO rfl,Lo,Lo,show i+j-i=j by omega]
    rw [Y]at Q;have v:(p:Int)∣cf s i*cf g j:=by have l:cf s i*cf g j=k*cf a (i+j)-Ye (λk=>if k=i then 0 else(ps s).c k*(ps g).c (i+j-k)) (i+j+1):=O1;rw [l];exact Int.dvd_sub (eW r (kP _ _)) (N _ (aI _))
    rcases I v with l|l
    .exact hi l
    .exact hj l
   obtain⟨d,c⟩:=r;have H:(p:Int)≠0:=O1;refine ih d.natAbs ?_ d (s.map (· / (p:Int))) rfl ?_ ?_
   .rw [<-o,c,bR,eP];have:0<d.natAbs:=by
     rcases bB d.natAbs with R|R
     .rw [show d=0 by omega]at c;simp at c;exact absurd c S
     .exact R
    have:=aQ d.natAbs V;omega
   .intro e;rw [e]at c;simp at c;exact S c
   .intro t;refine iU H ?_;rw [<-gE,<-c,h,PS.mul_c,PS.mul_c,<-Mr];refine Xl λi _=>?_;rw [Lo,Lo,Lo,Zfy _ _ O8,<-gE,mC (hs i)]
def ev1:List Int->Int->Int
 | [],_=>0
 | c::r,t=>c+t*ev1 r t
def sdv:List Int->Int->List Int
 | [],_=>[]
 | [_],_=>[]
 | _::c::r,t=>ev1 (c::r) t::sdv (c::r) t
theorem Zl5:∀(u:List Int) (t:Int),(sdv u t).length=u.length-1
 | [],_=>rfl
 | [_],_=>rfl
 | _::c::r,t=>by unfold sdv;rw [eF,Zl5 _ t];simp
theorem Ya7:∀(u:List Int) (t x:Int),ev1 u x=ev1 u t+(x-t)*ev1 (sdv u t) x
 | [],t,x=>by simp [ev1,sdv]
 | [c],t,x=>by simp [ev1,sdv]
 | a::c::r,t,x=>by have d:=Ya7 (c::r) t x;show a+x*ev1 _ x=a+t*ev1 _ t+(x-t)*(ev1 _ t+x*ev1 _ x);grind
theorem Yb4(a:Int)(u:List Int)(i:Nat):cf (a::u) i=if i=0 then a else cf u (i-1):=by
 cases i with
 | zero=>rfl
 | succ i=>rfl
theorem Zdr(i:Nat):cf [] i=0:=Yx (bI _)
theorem Yk9:∀(u:List Int) (t:Int) (i:Nat),cf u (i+1)=cf (sdv u t) i-t*cf (sdv u t) (i+1)
 | [],t,i=>by unfold sdv;simp [Zdr]
 | [c],t,i=>by unfold sdv;simp [Yb4,aF,Zdr]
 | a::c::r,t,i=>by
  cases i with
  | zero=>
   show c=ev1 _ t-t*cf _ 0
   match r with
   | []=>simp [ev1,sdv,cf]
   | d::r'=>unfold sdv;rw [Yb4];show c=(c+t*ev1 _ t)-_;simp
  | succ i=>
   exact Yk9 _ t i
theorem Yqw:∀(u:List Int) (t:Int),cf u 0=ev1 u t-t*cf (sdv u t) 0
 | [],t=>by simp [ev1,sdv,cf]
 | [c],t=>by simp [ev1,sdv,cf]
 | a::c::r,t=>by show a=(a+t*ev1 _ t)-t*ev1 _ t;simp
theorem Ztk:∀(n:Nat) (u:List Int) (R:List Int),u.length=n->(∃i,cf u i≠0)->R.Nodup->(∀t∈R,ev1 u t=0)->R.length<n
 | 0,u,R,d,c,_,_=>by grind [List.eq_nil_of_length_eq_zero,Zdr]
 | n+1,u,[],d,c,_,_=>O8
 | n+1,u,t::R,d,c,hd,hR=>by
  have h:=hR t (bX ..);have j:=Zl5 u t;have g:∃i,cf (sdv u t) i≠0:=aZ λe=>by
   obtain⟨i,hi⟩:=c;cases i with
   | zero=>grind [Yqw]
   | succ i=>grind [Yk9]
  have:=Ztk n _ R O1 g (lO.1 hd).2 λx e=>by have f:=hR x (bN _ e);rw [Ya7 u t x]at f;grind [Int.mul_eq_zero,List.nodup_cons]
  grind
def kk:Nat->Nat
 | 0=>0
 | d+1=>30*kk d+1
def pts:List Int:=[0,1,2,3,4,5,6,7,8,9,10,11,12,13,14]
def Psim(a b:List Int):Prop:=∃m n:Int,0<m/\0<n/\∀i,m*cf a i=n*cf b i
def Psim.refl(a:List Int):Psim a a:=⟨1,1,O1,O1,λ_=>rfl⟩
def Psim.symm : Psim a b->Psim b a:=λ⟨m,n,c,d,h⟩=>⟨n,m,d,c,λi=>(h i).symm⟩
def Psim.trans{c:List Int} : Psim a b->Psim b c->Psim a c:=λ⟨m,n,d,e,h⟩ ⟨u,v,f,g,k⟩=>
 ⟨m*u,n*v,dU d f,dU e g,λi=>O5⟩
def Psim.sim : Psim a b->Sim a b:=λ⟨m,n,c,d,h⟩=>⟨m,n,O1,O1,h⟩
theorem Zfi(h:Tr p):Psim (Yw p) p:=by
 by_cases c:p=[]
 .subst c;exact Psim.refl _
 .exact⟨Xq p,1,by have:=Ma p;grind [Ap],O1,λi=>by grind [Gw]⟩
theorem Zlh(f:Tr a)(g:Tr b)(h:Psim a b):Yw a=Yw b:=by
 by_cases c:a=[]
 .rw [h.sim.nil g c,c]
 .have j:=λe=>c (h.sim.symm.nil f e);obtain⟨m,n,u,v,e⟩:=(Zfi f).trans (h.trans (Zfi g).symm);have l:=Xj f;have t:=Xj g;have hs:Sim _ _:=⟨m,n,O1,O1,e⟩;have d:Yw a≠[]:=λe=>c (aK (by grind [Yp]));rcases Zs7 l t d (Gh f c) (Gh g j) hs with k|k
  .omega
  .have o:=l.mem d;have q:=e ((Yw a).length-1);have r:=k ((Yw a).length-1);rw [r]at q o;grind [Int.mul_neg,Int.add_mul,Int.mul_eq_zero]
def Zc3(y:List Int):Int:=if cf y (y.length-1)<0 then-cf y (y.length-1)else cf y (y.length-1)
def rb(x y:List Int):Int:=if cf y (y.length-1)<0 then-cf x (x.length-1)else cf x (x.length-1)
def Ziv(x y:List Int):List Int:=Bq (Yo x (Zc3 y)) (shm y (rb x y) (x.length-y.length) y.length)
def Zb2:Nat->List Int->List Int->List Int
 | 0,x,_=>x
 | f+1,x,y=>if x.length<y.length then x else Zb2 f (Ziv x y) y
theorem Zqn(e:Tr x)(f:0<y.length)(d:y.length<=x.length):(Ziv x y).length<x.length:=by
 have h:=Zby (p:=Ziv x y) (n:=x.length-1) λi hi=>by
  unfold Ziv;rw [Bx,Qp,Yk8];by_cases c:i=x.length-1
  .unfold Zc3 rb;grind
  .rw [Yx O1,aF O1];simp
 rw [show tzl _=Ziv x y from Za2 Zy6]at h;omega
theorem Ygl(x:List Int)(t:Nat):Zc3 y*cf x t=(ps (mono (x.length-y.length) (rb x y))*ps y).c t+cf (Ziv x y) t:=by
 unfold Ziv;rw [Zlx,Bx,Qp,Yk8,Lo];by_cases c:x.length-y.length<=t
 .by_cases d:t<x.length-y.length+y.length
  .grind
  .rw [Yx (p:=y) O1,jI _];simp
 grind
theorem Zgl(d:Tr y)(c:y≠[]):0<Zc3 y:=by have:=d.mem c;unfold Zc3;split<;>omega
theorem Zge{y:List Int}(l:Tr y)(d:y≠[]):∀(f:Nat) (x:List Int),Tr x->x.length<y.length+f->Tr (Zb2 f x y)/\(Zb2 f x y).length<y.length/\∃(k:Nat) (s:List Int),∀t,Zc3 y^k*cf x t=(ps s*ps y).c t+cf (Zb2 f x y) t
 | 0,x,c,e=>⟨c,e,0,[],λt=>by rw [Ki (λt=>Yx (bI _))];unfold Zb2;simp⟩
 | f+1,x,c,e=>by
  unfold Zb2;by_cases h:x.length<y.length
  .rw [aO h];exact⟨c,h,0,[],λt=>by simp [Ki,Yx,bI,eT]⟩
  .rw [aF h];have m:=Zqn c (aN.2 d) O1;obtain⟨g,j,k,s,hs⟩:=Zge l d f (Ziv x y) Zy6 O1;refine⟨g,j,k+1,Bq (Yo s 1) (Yo (mono (x.length-y.length) (rb x y)) (-(Zc3 y^k))),λt=>?_⟩;grind [Ygl,Zlu,Int.pow_succ]
theorem Ztu(l:Int)(h:l≠0):∀n:Nat,(l<0/\n%2=1->l^n<0)/\(¬(l<0/\n%2=1)->0<l^n)
 | 0=>⟨λh=>O1,λ_=>O8⟩
 | n+1=>by
  have e:=Ztu l h n;rw [eJ];by_cases d:l<0
  .by_cases f:n%2=1
   .have c:=e.1 ⟨d,f⟩;exact⟨λh=>O1,λ_=>Int.mul_pos_of_neg_of_neg c d⟩
   .have c:=e.2 O1;exact⟨λ_=>Int.mul_neg_of_pos_of_neg c d,λh=>O1⟩
  .have c:=e.2 O1;exact⟨λh=>O1,λ_=>dU c O1⟩
def Zh4(p:List Int):List Int:=Yo p (-1)
theorem Zay(p:List Int)(i:Nat):cf (Zh4 p) i=- cf p i:=by unfold Zh4;grind [Qp]
theorem Zw5(h:Tr p):Yw (Zh4 p)=Zh4 (Yw p):=by
 have e:=by
  have c:Xq (Zh4 p)∣Xq p:=Ce λi=>by have h:=Kx (Zh4 p) i;simp_all [Zay,Int.dvd_neg]
  have d:Xq p∣Xq (Zh4 p):=Ce λi=>by simp [Zay,Int.dvd_neg,Kx]
  exact Int.dvd_antisymm (Ma _) (Ma _) c d
 refine(Xj (Nu _ _)).ext (Nu _ _) λi=>?_;show cf (Yw (Zh4 p)) i=cf _ i;simp_all [Zay,Zdq,Int.neg_ediv_of_dvd,Kx]
theorem Zhx (f:Nat)(u:Tr x)(m:Tr y)(g:y≠[])(B:y.length<=x.length)(w:x.length<y.length+f):Yw (Zh4 (Zb2 f x y))=Ms x y:=by
 obtain⟨N,M,k,s,hs⟩:=Zge m g f x u w;have F:=aN.2 g;obtain⟨G,o⟩:=Zh0 (p:=x) F B _ (aI _);have D:∀t,cf (Oe x y (x.length-y.length+1)) t=cf (Qw x y) t:=λt=>by unfold Qw;simp_all [aF,Hm]
 have lp:=Ps x g;have h:=Hc (q:=y) u;have c:=m.mem g;have n:0<Zc3 y^k:=iH (Zgl m g);have d:=Ztu (cf y (y.length-1)) c (x.length-y.length+1);generalize H:cf y (y.length-1)^(x.length-y.length+1)=L at o d;generalize Zc3 y^k=K at hs n;have j:∀t,(ps (Bq (Yo G K) (Yo s L))*ps y).c t=cf (Bq (Yo (Zb2 f x y) L) (Yo (Qw x y) K)) t:=λt=>by rw [Zlu,Bx,Qp,Qp,<-D t];grind
 have z:=Yoq m g j λt I=>by rw [Bx,Qp,Qp,Yx (p:=Zb2 f x y) O1,Yx (p:=Qw x y) O1];simp
 have e:∀t,L*cf (Zb2 f x y) t=K*cf (Qw x y) t:=λt=>by have v:=j t;rw [Ki z,Bx,Qp,Qp]at v;grind
 unfold Ms;by_cases l:cf y (y.length-1)<0/\(x.length-y.length+1)%2=1
 .rw [aO l];have r:=d.1 l;exact Zlh (Nu _ _) h ⟨-L,K,O1,n,λt=>by grind [Zay]⟩
 .rw [aF l];have r:=d.2 l;rw [show Yo (Yw (Qw x y)) (-1)=Zh4 (Yw (Qw x y))from rfl,<-Zw5 h];exact Zlh (Nu _ _) (Nu _ _) ⟨L,K,r,n,λt=>by simp_all [Zay,nH]⟩
theorem Zcw(c:Tr x):Tr (Ms x y):=by unfold Ms;grind [Xj,Hc,Nu]
theorem Zb7(c:Tr x):(Ms x y).length=(Qw x y).length:=by
 unfold Ms;have h:Tr (Yw (Qw x y)):=Xj (Hc c);split
 .simp [Yp]
 .rw [<-Yp (Qw x y)];exact((Zws O1).len h (Nu _ _)).symm
theorem Zwn{n:Nat}(h:Sz n p):Sz n (Xu p):=λi=>by
 unfold Xu;rw [Ax];split
 .rw [iD];exact Cq h i
 .exact Cq h i
theorem Zlr(h:Tr p)(c:p≠[]):Xu p≠[]:=λe=>c (aK (by grind [Pp]))
theorem Ar{g:List Int}(h:Tr g)(c:g≠[]):0<cf (Gl g) ((Gl g).length-1):=by have d:=h.mem c;grind [Zb8,Ax,List.eq_nil_of_length_eq_zero]
theorem Zd6(h:Tr p)(c:p≠[]):Xq (Xu p)=1:=by unfold Xu;grind [Ziy,Gh]
theorem Zxb(h:Tr p)(c:Xq p=1)(d:0<cf p (p.length-1)):Xu p=p:=by unfold Xu;rw [Zgn c];unfold Gl;grind
theorem Np (F:Nat)(o:Tr xs)(r:xs≠[])(v:eok F (gA (Xu xs) (Xg (Xu xs))) (gB (Xu xs) (Xg (Xu xs)))) :
  pdv (Xu xs) (Mz F (Xu xs) (Xg (Xu xs)))/\Tr (sqf F xs)/\sqf F xs≠[]/\Xu xs=Pa (sqf F xs) (Mz F (Xu xs) (Xg (Xu xs)))/\Mz F (Xu xs) (Xg (Xu xs))≠[]/\Xu (sqf F xs)=sqf F xs:=by
 have hs:Tr (Xu xs):=Mg (Xj o);have f:=Mp hs;have l:=Zlr o r;have g:=(Zd5 hs f v).1;have n:=Zf6 F hs f;have c:Mz F (Xu xs) (Xg (Xu xs))≠[]:=λe=>l ((e▸g).zero hs);have H:=Zlk hs f c;obtain⟨k,s,I,h⟩:=g;obtain⟨q,P⟩:=gauss H _ k s rfl I h;have d:Xu xs=Pa (tzl q) (Mz F (Xu xs) (Xg (Xu xs))):=hs.ext (Qq _ _) λi=>by grind [Gz,Ygz]
 obtain⟨B,S⟩:=Zz3 (Qt q) n c;have w:sqf F xs=tzl q:=by unfold sqf;grind
 rw [<-d]at B;have j:tzl q≠[]:=λe=>l (by grind [Cb]);refine⟨B,by grind [Qt],O5,O5,c,?_⟩;rw [w];refine Zxb (Qt q) ?_ ?_
 .have D:=Zd6 o r;have t:Xq (tzl q)∣Xq (Xu xs):=Ce λi=>by
   rw [d,Gz,PS.mul_c];have N:∀m,Xq (tzl q)∣Ye (λk=>(ps (tzl q)).c k*(ps (Mz F (Xu xs) (Xg (Xu xs)))).c (i-k)) m:=λm=>by
    induction m with
    | zero=>exact kC _
    | succ m M=>exact Int.dvd_add M (eW (Kx (tzl q) m) (kP _ _))
   grind
  have u:=Ma (tzl q);have G:=mK O1 t;grind [Ap,Qt]
 .have Q:=aN.2 j;have R:=aN.2 c;have D:0<cf (Xu xs) ((Xu xs).length-1):=Ar (Xj o) (λe=>r (aK (by grind [Yp])));have t:0<cf (Mz F (Xu xs) (Xg (Xu xs))) ((Mz F (Xu xs) _).length-1):=Ar (Zu3 F (Zko hs f) (Zkn hs f)) (λe=>c (by unfold Mz;rw [e];rfl));have u:=Mj (Qt q) n j c;rw [<-d]at u;have G:cf (Xu xs) ((Xu xs).length-1)=cf (tzl q) ((tzl q).length-1)*cf (Mz F (Xu xs) (Xg (Xu xs))) ((Mz F (Xu xs) (Xg (Xu xs))).length-1):=by rw [u,d,Gz,<-d,show(tzl q).length+(Mz F (Xu xs) (Xg (Xu xs))).length-1-1=((tzl q).length-1)+((Mz F (Xu xs) (Xg (Xu xs))).length-1) by omega];grind [Av,Yx]
  rcases iQ 0 _ with z|z
  .omega
  .exfalso;have:=eZ z (eC t);omega
def Nx(p:List Int):(Xg p).length=p.length-1:=Yz _ _
theorem Zx3{n:Nat}(c:Sz n p)(g:p.length<=25)(i:Nat):bl (cf p (i+1)*((i:Int)+1)).natAbs<=n+5:=by
 rcases bA (i+1) p.length with h|h
 .have d:=Xz (cf p (i+1)) ((i)+1);have e:=c (i+1);have f:bl ((i:Int)+1).natAbs<=5:=(Qs 5 _).2 O1;omega
 grind [Yx,Fa]
theorem Zhj(p:List Int)(i:Nat):cf (Xg p) i=cf p (i+1)*((i:Int)+1):=by unfold Xg;simp_all [Ih,Yx,cQ]
theorem Zba{n:Nat}(d:Sz n p)(c:p.length<=25):Sz (n+5) (Xg p):=λi=>by simp_all [Zhj,Zx3]
theorem Zf4(h:Vp p)(c:∀i,i<p.length->bl (cf p (i+1)*((i:Int)+1)).natAbs<=65536):Vp (Xg p):=by
 refine⟨λi=>?_,Mp h.tr,by rw [Nx];have:=h.len;omega⟩;rw [Zhj];by_cases hi:i<p.length
 .grind
 .rw [Yx O1];simp [Fa]
def sf_t(h:xs.length=0):Value.bool (decide (Zbd xs))= .bool true:=aH _ (aE (.inl h))
theorem sf_i{n:Int}(h:xs.length≠0)(c:n=(((xs.length+2)*(xs.length+2)*(Pd xs+16):Nat):Int)):Value.bool (decide (Zbd xs))= .bool (decide (n<=65536)):=aH _ (bW.2 (by show(xs.length=0\/(xs.length+2)*(xs.length+2)*(Pd xs+16)<=65536)↔_;omega))
theorem Ycu(h:(Qw x y).length=0):Ms x y=[]:=by have c:=aK h;unfold Ms;rw [c];split<;>rfl
theorem Yng(e:y.length<=x.length)(c:(cf y (y.length-1)).sign<0)(d:((x.length:Int)-(y.length:Int)+1)%2=1):Ms x y=Yw (Qw x y):=by unfold Ms;grind
theorem Zzb(c:¬(cf y (y.length-1)).sign<0):Ms x y=Yo (Yw (Qw x y)) (-1):=by unfold Ms;grind
theorem Zza(d:y.length<=x.length)(c:¬((x.length:Int)-(y.length:Int)+1)%2=1):Ms x y=Yo (Yw (Qw x y)) (-1):=by unfold Ms;grind
theorem Zwj{F:Nat}(j:Vp xs)(k:xs≠[])(h:Ynf F xs):Vp (sqf F xs):=by
 obtain⟨_,_,_,d,c⟩:=h;have g:=Ye0 j;unfold sqf Hs;split
 .grind
 .rename_i l;rcases c with c|c
  .grind
  .have e:=(Zeh d).2 c.1;refine⟨?_,Qt _,?_⟩
   .rw [<-Zhd];exact(Zy7 e c.2.1).tzl
   .have f:=Ge (Zni (Xu xs) (Mz F (Xu xs) (Xg (Xu xs))) ((Xu xs).length-(Mz F (Xu xs) (Xg (Xu xs))).length+1));rw [Zhd,Zdb]at f;have:=g.len;grind [Zeh]
theorem Zl3{F:Nat}(d:Vp xs)(h:Ynf F xs):(sqf F xs).length<=xs.length:=by
 obtain⟨_,_,_,e,c⟩:=h;have j:=Pp d.tr;unfold sqf Hs;split
 .simp
 .rename_i f;rcases c with c|c
  .grind
  .have g:=Ge (Zni (Xu xs) (Mz F (Xu xs) (Xg (Xu xs))) ((Xu xs).length-(Mz F (Xu xs) (Xg (Xu xs))).length+1));grind [Zhd,Zdb,Zeh]
theorem Yb2{L:List Int}{n l:Int}(hi:i<L.length)(h:(n,l)=(L.take i).foldl Mo (0,0))(hs:L.getD i 0=s)(c:s=0):(n,l)=(L.take (i+1)).foldl Mo (0,0):=by rw [Pu 0 L i hi,Zfp,<-h];unfold Mo;grind
theorem Yb1{L:List Int}{n l:Int}(hi:i<L.length)(h:(n,l)=(L.take i).foldl Mo (0,0))(hs:L.getD i 0=s)(c:s≠0)(d:s=-l):(n+1,s)=(L.take (i+1)).foldl Mo (0,0):=by rw [Pu 0 L i hi,Zfp,<-h];unfold Mo;grind
theorem Yb0{L:List Int}{n l:Int}(hi:i<L.length)(h:(n,l)=(L.take i).foldl Mo (0,0))(hs:L.getD i 0=s)(c:s≠0)(d:¬s=-l):(n,s)=(L.take (i+1)).foldl Mo (0,0):=by rw [Pu 0 L i hi,Zfp,<-h];unfold Mo;grind
theorem Yqv{L:List Int}{n l:Int}(hi:L.length<=i)(h:(n,l)=(L.take i).foldl Mo (0,0)):n=chg L:=by rw [cN hi]at h;unfold chg;grind
theorem Yf9{z:Int}:-1<=z.sign/\z.sign<=1:=by grind
theorem Yh9{α:Type}{d:α}{f:α->Int}{ls:List α}(h:i<ls.length):(ls.map f).getD i 0=f (ls.getD i d):=by grind
def sgx(ls:List (SL×List Int))(f:List Int->Int):List Int:=ls.map λz=>f z.2
def Zta(ls:List (SL×List Int))(f:List Int->Int)(h:i<ls.length):(sgx ls f).getD i 0=f (ls.getD i ((none,0,0),[])).2:=Yh9 h
def Zl4(ls:List (SL×List Int))(f:List Int->Int):(sgx ls f).length=ls.length:=bM ..
def fr(p:List Int):Int:=(cf p (p.length-1)).sign
def fl(p:List Int):Int:=if p.length%2=0 then-(cf p (p.length-1)).sign else(cf p (p.length-1)).sign
def fat(x y:Int)(p:List Int):Int:=(pev p x y).sign
def fat_r(x y:Int)(p:List Int):-1<=fat x y p/\fat x y p<=1:=Yf9
theorem Znk:∀(f:Nat) {x y:List Int},Vp x->Vp y->cok f x y->∀p∈Mx f x y,Vp p
 | 0,x,y,d,_,_,p,c=>by rw [cE.1 c];omega
 | f+1,x,y,d,e,h,p,c=>by
  unfold Mx at c;split at c
  .rw [cE.1 c];exact d
  .rcases h with h|h
   .contradiction
   .rcases aW.1 c with rfl|c
    .exact d
    .exact Znk f e (Zsq d h.1) h.2.2 p c
theorem vp_chn{F:Nat}(j:Vp xs)(d:xs≠[])(h:Zad F xs):∀p∈chn F xs,Vp p:=by obtain⟨e,f,g⟩:=h;have c:=Zwj j d e;exact Znk F c (Hb (Zf4 c (λi hi=>f i (by grind [Zl3])))) g
def cnt(F:Nat)(xs:List Int)(x y:Int):Int:=chg ((chn F xs).map (fat x y))
def sright(F:Nat)(xs:List Int):Int:=chg ((chn F xs).map fr)
def sleft(F:Nat)(xs:List Int):Int:=chg ((chn F xs).map fl)
theorem Zze{C:List (List Int)}(h:ls.map Prod.snd=C)(f:List Int->Int):sgx ls f=C.map f:=by rw [<-h,gO];rfl
def Lf{C:List (List Int)}{p:List Int->Prop}(h:ls.map Prod.snd=C)(c:∀q∈C,p q):∀z∈ls,p z.2:=λz d=>c _ (h▸List.mem_map_of_mem d)
theorem Zij(L:List Int):0<=chg L/\chg L<=L.length:=by
 unfold chg;suffices h:∀(l:List Int) (s:Int×Int),s.1<=(l.foldl Mo s).1/\(l.foldl Mo s).1<=s.1+l.length by grind
 intro l
 induction l with
 | nil=>simp
 | cons x l c=>
  intro s;have d:=c (Mo s x);have e:=chg1_n s x;simp only [fX,eF];omega
theorem Ze2:∀(f:Nat) (x y:List Int),(Mx f x y).length<=f+1
 | 0,x,y=>aI _
 | f+1,x,y=>by
  unfold Mx;split
  .simp
  .have:=Ze2 f y (Ms x y);simp;omega
def sm(xs:List Int)(i:Nat):Nat:=(xs.take i).foldl (λm c=>max m c.natAbs) 0
def Za8{x y:Int}(h:¬Li x y):Fe x y=x/Nw x y/\Hd x y=y/Nw x y/\Ygu x y=0:=⟨aF h,aF h,aF h⟩
theorem nr_bl{x y:Int}(h:¬Li x y):bl (Fe x y).natAbs<=65536/\bl (Hd x y).natAbs<=65536:=by obtain⟨c,d,_⟩:=Za8 h;rw [c,d];unfold Li at h;omega
theorem Zqa{x y:Int}(h:¬Li x y)(c:0<y):0<Hd x y:=by simp_all [Za8,Ydq]
abbrev R2:=Int×Int
def Pv(a b:R2):R2:=(Fe (Fe (a.1*b.2+b.1*a.2) (a.2*b.2)*1) (Hd (a.1*b.2+b.1*a.2) (a.2*b.2)*2),Hd (Fe (a.1*b.2+b.1*a.2) (a.2*b.2)*1) (Hd (a.1*b.2+b.1*a.2) (a.2*b.2)*2))
def Ze1(a b:R2):Prop:=¬Li (a.1*b.2+b.1*a.2) (a.2*b.2)/\¬Li (Fe (a.1*b.2+b.1*a.2) (a.2*b.2)*1) (Hd (a.1*b.2+b.1*a.2) (a.2*b.2)*2)
instance (a b:R2):Decidable (Ze1 a b):=by unfold Ze1;infer_instance
def Ydm{a b:R2}(h:Ze1 a b):Ygu (Fe (a.1*b.2+b.1*a.2) (a.2*b.2)*1) (Hd (a.1*b.2+b.1*a.2) (a.2*b.2)*2)=0:=(Za8 h.2).2.2
def isp(c:R2->Int)(e:Int):Nat->R2->R2->Int->Int->Nat->List (R2×R2)
 | 0,_,_,_,_,_=>[]
 | f+1,a,b,fr,g,d=>if fr=g then []else if fr-g=1/\e<=(d:Int)then [(a,b)]else isp c e f a (Pv a b) fr (c (Pv a b)) (d+1) ++ isp c e f (Pv a b) b (c (Pv a b)) g (d+1)
def Yaw(c:R2->Int)(g:R2->Prop)(e:Int):Nat->R2->R2->Int->Int->Nat->Prop
 | 0,_,_,_,_,_=>False
 | f+1,a,b,fr,h,d=>fr=h\/(fr-h=1/\e<=(d:Int))\/(d<1000/\Ze1 a b/\g (Pv a b)/\Yaw c g e f a (Pv a b) fr (c (Pv a b)) (d+1)/\Yaw c g e f (Pv a b) b (c (Pv a b)) h (d+1))
instance ispDec (c:R2->Int) (e:R2->Prop) [DecidablePred e] (g:Int):∀f a b fr to d,Decidable (Yaw c e g f a b fr to d)
 | 0,_,_,_,_,_=>inferInstanceAs (Decidable False)
 | f+1,a,b,fr,to,d=>@instDecidableOr _ _ _ (@instDecidableOr _ _ _ (@instDecidableAnd _ _ _ (@instDecidableAnd _ _ _ (@instDecidableAnd _ _ _ (@instDecidableAnd _ _ (ispDec c e g f a (Pv a b) fr (c (Pv a b)) (d+1)) (ispDec c e g f (Pv a b) b (c (Pv a b)) to (d+1)))))))
def okQ(z:R2):Prop:=bl z.1.natAbs<=65536/\bl z.2.natAbs<=65536/\0<z.2
def evok(ls:List (SL×List Int))(m:R2):Prop:=∀z∈ls,¬Kl z.2 m.1 m.2
def cvx(ls:List (SL×List Int))(m:R2):Int:=chg (sgx ls (fat m.1 m.2))
def cvc(F:Nat)(xs:List Int)(m:R2):Int:=cnt F xs m.1 m.2
def evc(F:Nat)(xs:List Int)(m:R2):Prop:=∀p∈chn F xs,¬Kl p m.1 m.2
def slow(a:R2):R2:=(Fe a.1 a.2,Hd a.1 a.2)
def sisol(F:Nat)(xs:List Int)(f:Nat)(a b:R2)(c:Int):List (R2×R2):=isp (cvc F xs) c f (slow a) (slow b) (cvc F xs a) (cvc F xs b) 0
def isOK(F:Nat)(xs:List Int)(f:Nat)(a b:R2)(c:Int):Prop:=Zad F xs/\evc F xs a/\evc F xs b/\¬Li a.1 a.2/\¬Li b.1 b.2/\Yaw (cvc F xs) (evc F xs) c f (slow a) (slow b) (cvc F xs a) (cvc F xs b) 0/\(sisol F xs f a b c).length<=1000000
open Go.RowKit Below
variable {P:Program} {N:Nat} {sc:Nat->Prop} {env env':Qm} {H H':Hp} {Q Q':Exit->Act->World->Prop} {M:Nat->Prop}
def CalM(P:Program)(f:FuncId)(args:Array Value)(pre:List Pc){G:Type}(φ:G->Prop)(val:G->Value)(d c:G->Pc):Prop:=
 ∀w,(∀p∈pre,p.holds w)->Calls P f args w λe h=>∃g,e= .returned (val g)/\φ g/\Below w.heap.size w h/\(d g).holds h/\(∀b,(d g).fp b->w.heap.size<=b)/\
  (c g).holds h/\(c g).own=false/\(∀b,(c g).fp b->w.heap.size<=b\/∃q∈pre,q.fp b)/\∀b,(d g).fp b->(c g).fp b->False
def FPostM(P:Program)(fn:Func)(w0:World)(pre:List Pc){G:Type}(φ:G->Prop)(val:G->Value)(d c:G->Pc):Exit->Act->World->Prop:=
 bodyPost P fn λe f=>∃g,e= .returned (val g)/\φ g/\Below w0.heap.size w0 f/\(d g).holds f/\(∀b,(d g).fp b->w0.heap.size<=b)/\
  (c g).holds f/\(c g).own=false/\(∀b,(c g).fp b->w0.heap.size<=b\/∃q∈pre,q.fp b)/\∀b,(d g).fp b->(c g).fp b->False
theorem Zff{β:Type}{q:β->Pc}{zs ys:List β}(i j n:Nat)(hi:lk H i=some (Hx q zs))(l:lk H j=some (Hx q ys))(d:Nat.beq i 0=false)(e:Nat.beq j 0=false) :
  ∀a w,Sat N sc env H a w->Sat N sc env ((n,Hx q (zs ++ ys))::H) a w:=
 Zwx i j n hi l d e rfl rfl (λw g k y f=>by
  rcases dB.1 f with h|h
  .exact g y h
  .exact k y h) (λb c=>by
  obtain⟨y,f,c⟩:=c;rcases dB.1 f with h|h
  .exact .inl ⟨y,h,c⟩
  .exact .inr ⟨y,h,c⟩) rfl
abbrev qD (z:SL×Nat):Pc:=d9p (Xa z.1) z.2
abbrev JE:=(R2×R2)×(SL×SL×SL×SL)
abbrev encJ (y:JE):Value:= .agg #[.bool (decide (y.1.1.1<0)),Xa y.2.1,.bool (decide (y.1.1.2<0)),Xa y.2.2.1,.bool (decide (y.1.2.1<0)),Xa y.2.2.2.1,.bool (decide (y.1.2.2<0)),Xa y.2.2.2.2]
abbrev qJ (y:JE):Pc:=Hx qD [(y.2.1,y.1.1.1.natAbs),(y.2.2.1,y.1.1.2.natAbs),(y.2.2.2.1,y.1.2.1.natAbs),(y.2.2.2.2,y.1.2.2.natAbs)]
abbrev J0:JE:=(((0,0),(0,0)),((none,0,0),(none,0,0),(none,0,0),(none,0,0)))
end Go.Sky
namespace Go.Sky
variable{M M0:Nat->Prop}{x y:Operand}{t tb:TypeId}{cs:Array Value}{v:Value}{vs:List Value}{zs:List (SL×List Int)}{r:List Pc}{z:SL×List Int}
variable {P:Program} {N:Nat} {sc:Nat->Prop} {env env':Qm} {H H':Hp} {Q Q':Exit->Act->World->Prop}
theorem Ztf(w:World)(g:Nat)(cs:Array Value)(t:TypeId){fr:Nat×Nat}(a:w.heap[g]? = some (.cells cs t fr)):w.setRow g cs=w:=by
 obtain⟨b,c⟩:=aM.1 a;have h:(w.setRow g cs).heap=w.heap:=by
  apply Array.ext_getElem?;intro i;by_cases h:g=i
  .subst h;rw [setRow_heap w g cs cs t fr a,a]
  .unfold World.setRow;dsimp only;rw [Array.getElem?_modify,aF h]
 have e:w.setRow g cs={ w with heap:=(w.setRow g cs).heap }:=rfl;rw [e,h]
theorem Zns (i:Nat)  {o:Oper}   {b j k:Nat}    (s:o.op= .store t x y) (p:o.dst=none)
  (D:ev env x=some (.pointer (some ⟨b,j,none⟩))) (F:ev env y=some v) (m:lk H i=some (Oq b tb cs)) (B:v.cells=vs.toArray) (q:∀w,(sizeOf t).run P w= .ok k w) (d:vs.length=k)
  (c:Nat.ble (j+vs.length) cs.size=true) (l:∀u∈vs,u.oneCell'=true) (e:Fi cs j vs=cs) :
  T P N sc M o env H (G:=Unit) (λ_=>True) (λ_=>env) (λ_=>H):=λa w hs K Q n=>by
 have g:w.heap[b]? = some (.cells cs tb (0,0)):=hs.hold i _ m;have f:=run_storeCells_at P b j tb vs 0 cs w g (by simpa using gR c) l;simp only [gN]at f;have h:(execOp a.eval o).run P w= .ok .skip (w.setRow b (Fi cs j vs)):=by simp [execOp,s,hs.ev D,hs.ev F,Instr.storeAt,Instr.sureAddr,storeVar,B,q,d,f,Fi]
 rw [e,Ztf w b cs tb g]at h;unfold Oper.wp;rw [h];show K (a.put o.dst _) _;rw [p];exact n () _ _ aA (hs.put_none undef) (Chg.refl _ _)
def t_stp1  {o:Oper}   {i b j:Nat}   {w0:World}  (m:o.op= .store t x y) (k:o.dst=none)
  (p:ev env x=some (.pointer (some ⟨b,j,none⟩))) (q:ev env y=some v) (g:lk H i=some (box b tb cs)) (d:i≠0) (l:∀w,(sizeOf t).run P w= .ok 1 w) (c:Nat.ble (j+1) cs.size=true) (e:One N sc env H v)
  (f:lk H 0=some (Zy w0 M0)) (n:∀b,w0.heap.size<=b->sc b) (h:M b) :
  T P N sc M o env H (G:=Unit) (λ_=>True) (λ_=>env) (λ_=>(i,box b tb (Fi cs j [v]))::H):=λa w hs=>
 t_stp (cs':=#[]) (vs:=[v]) m k p q g d (Zn (e a w hs)) l rfl c ⟨e,aA⟩ f n h a w hs
def Yg2{al:Bool}(i:Nat)(hi:lk H i=some (Xv 1 Pf (λy:SL×List Int=>Yt 2 wv (Xa y.1) y.2) v zs))(a:Nat.beq i 0=false)(b:z∈zs)(h:PreOk H al r):PreOk H al (Yt 2 wv (Xa z.1) z.2::r):=Yg1 (q:=λy:SL×List Int=>Yt 2 wv (Xa y.1) y.2) (z:=z) i hi a b h
end Go.Sky
namespace Go.Sky
variable{v:Int}{x y:Operand}{t tb:TypeId}{b k i:Nat}{kd:IntKind}{M M0:Nat->Prop}{w0:World}{cs:Array Value}
variable {P:Program} {N:Nat} {sc:Nat->Prop} {env env':Qm} {H H':Hp} {Q Q':Exit->Act->World->Prop}
def Co(l:List Int):Array Value:=(l.map (Value.int .i64)).toArray
theorem Ycm(l:List Int):(Co l).size=l.length:=by simp [Co]
theorem Yey{l:List Int}{j:Nat}(h:j<l.length):(Co l)[j]? = some (.int .i64 (l.getD j 0)):=by simp [Co,aL h,aJ]
theorem Yex{l:List Int}{j:Nat}(h:j<l.length):Fi (Co l) j [.int .i64 v]=Co (l.set j v):=by unfold Fi Co;grind
theorem Lx (i:Nat) {o:Oper}  {e:TypeId} {d c:Nat}  {m:Int} (j:o.op= .indexAddr t x y) (n:ev env x=some (.pointer (some ⟨b,d,none⟩))) (p:ev env y=some (.int kd m))
  (l:P.underlying t=some (.array c e)) (h:∀w,(sizeOf e).run P w= .ok k w) (f:m=(i:Int):=by omega) (g:i<c:=by omega):Ld P N sc o env H (.pointer (some ⟨b,d+i*k,none⟩)):=λa w hs=>by
 subst f;simp [execOp,j,hs.ev n,hs.ev p,Instr.indexAt,Instr.sureAddr,asIntOf,run_underlying l,h,g,Od]
theorem Zhg (i:Nat){o:Oper}{j:Nat}{l:List Int}(d:o.op= .load t x)(f:ev env x=some (.pointer (some ⟨b,j,none⟩)))(a:lk H i=some (box b tb (Co l)))(e:∀w,(isAgg t).run P w= .ok false w)(c:j<l.length:=by omega) :
  Ld P N sc o env H (.int .i64 (l.getD j 0)):=Zmt _ d f a e (Yey c)
theorem d_lwa{o:Oper}{l:List Int}(d:o.op= .load t x)(g:ev env x=some (.pointer (some ⟨b,0,none⟩)))(a:lk H i=some (box b tb (Co l)))(e:∀w,(isAgg t).run P w= .ok true w)(c:∀w,(sizeOf t).run P w= .ok k w)(h:l.length=k) :
  Ld P N sc o env H (.agg (Co l)):=
 Ybp d g a e c O5 (λn u f=>by simpa [Co]using f)
theorem Zpb (i:Nat)  {o:Oper}   {j:Nat} {l:List Int}    (m:o.op= .store t x y) (f:o.dst=none)
  (q:ev env x=some (.pointer (some ⟨b,j,none⟩))) (r:ev env y=some (.int .i64 v)) (d:lk H i=some (box b tb (Co l))) (h:∀w,(sizeOf t).run P w= .ok 1 w) 
  (c:lk H 0=some (Zy w0 M0)) (p:∀b,w0.heap.size<=b->sc b) (e:M b) (a:i≠0:=by decide) (g:j<l.length:=by omega) :
  T P N sc M o env H (G:=Unit) (λ_=>True) (λ_=>env) (λ_=>(i,box b tb (Co (l.set j v)))::H):=by
 rw [<-Yex g];exact Zip m f q r d a rfl h rfl (by grind [Ycm]) (λu n=>Zj (by rw [List.mem_singleton.1 n];rfl)) rfl c p e
theorem Yfa (i:Nat)  {o:Oper}     {l:List Int}   (h:o.op= .store t x y) (f:o.dst=none)
  (n:ev env x=some (.pointer (some ⟨b,0,none⟩))) (p:ev env y=some (.agg (Co l))) (d:lk H i=some (box b tb cs)) (g:∀w,(sizeOf t).run P w= .ok k w) (r:l.length=k) (q:cs.size=k)
  (c:lk H 0=some (Zy w0 M0)) (m:∀b,w0.heap.size<=b->sc b) (e:M b) (a:i≠0:=by decide) :
  T P N sc M o env H (G:=Unit) (λ_=>True) (λ_=>env) (λ_=>(i,box b tb (Co l))::H):=
 Zip h f n p d a rfl g O5 O5 (λu j=>Zj (by obtain⟨z,_,rfl⟩:=dP.1 j;rfl)) (by unfold Fi Co;grind) c m e
def Ob:Nat->Nat->Nat
 | _,0=>1
 | 0,_+1=>0
 | n+1,k+1=>Ob n k+Ob n (k+1)
theorem Zya:∀n k,Ob n k<=2^n
 | 0,0=>O4
 | _+1,0=>dM _
 | 0,_+1=>bI _
 | n+1,k+1=>by have a:=Zya n k;have c:=Zya n (k+1);show Ob n k+Ob n _<=2^(n+1);omega
theorem Zmy:∀n k,n<k->Ob n k=0
 | _,0,h=>absurd h (bJ _)
 | 0,_+1,_=>rfl
 | n+1,k+1,h=>by show Ob n k+Ob n _=0;rw [Zmy n k O1,Zmy n _ O1]
structure Tab (l:List Int) (n k:Nat):Prop where
 len:l.length=625
 eq:∀r c,r<25->c<25->l.getD (r*25+c) 0=if r<n\/(r=n/\c<k)then(Ob r c:Int)else 0
theorem Zig{l:List Int}{j:Nat}(hi:i<l.length:=by omega):(l.set i v).getD j 0=if j=i then v else l.getD j 0:=by grind
theorem Tab.start:Tab (List.replicate 625 0) 0 0:=⟨aX,λr c d a=>by grind⟩
theorem Tab.step{l:List Int}{n:Nat}(h:Tab l n k)(m:n<25)(f:k<25)(o:v=(Ob n k:Int)){j:Nat}(e:j=n*25+k):Tab (l.set j v) n (k+1):=by have g:=h.len;refine⟨O5,λr c d a=>?_⟩;rw [Zig,h.eq r c d a];grind
theorem Tab.row{l:List Int}{n:Nat}(h:Tab l n k)(f:n<k):Tab l (n+1) 0:=⟨h.len,λr c e d=>by
 rw [h.eq r c e d];by_cases g:r<n\/(r=n/\c<k)
 .omega
 .rw [aF g];by_cases a:r<n+1\/(r=n+1/\c<0)
  .rw [aO a,Zmy r c O1];rfl
  omega⟩
theorem Tab.get{l:List Int}{n r c:Nat}(h:Tab l n k)(f:r<25)(d:c<25)(a:r<n\/(r=n/\c<k)){j:Nat}(e:j=r*25+c):l.getD j 0=(Ob r c:Int):=by rw [e,h.eq r c f d,aO a]
theorem Ybz (n:Nat)(k:Nat)(c:1<=n:=by omega)(a:1<=k:=by omega):Ob n k=Ob (n-1) (k-1)+Ob (n-1) k:=by obtain⟨m,rfl⟩:∃m,n=m+1:=⟨n-1,O1⟩;obtain⟨j,rfl⟩:∃j,k=j+1:=⟨k-1,O1⟩;rfl
end Go.Sky
namespace Go.Sky
variable{k b:Nat}{t tb:TypeId}{parts:List (Nat×Value)}{cells:Array Value}{x y:Operand}{kd:IntKind}{v0 v1 v2:Value}{M M0:Nat->Prop}
structure Tb (l:List Int) (n k:Nat):Prop where
 len:l.length=36
 eq:∀r c,r<6->c<6->l.getD (r*6+c) 0=if r<n\/(r=n/\c<k)then(Ob r c:Int)else 0
theorem Tb.start:Tb (List.replicate 36 0) 0 0:=⟨aX,λr c d a=>by rw [aF O1,aJ];rw [List.getElem?_replicate];split<;>rfl⟩
theorem Tb.step{l:List Int}{n:Nat}{v:Int}(h:Tb l n k)(s:n<6)(q:k<6)(p:v=(Ob n k:Int)){j:Nat}(i:j=n*6+k):Tb (l.set j v) n (k+1):=by
 subst i;have m:=h.len;refine⟨by rw [cH];exact m,λr c o f=>?_⟩;rw [Zig,h.eq r c o f];by_cases e:r*6+c=n*6+k
 .have a:r=n:=O1;have d:c=k:=O1;subst a;subst d;rw [aO rfl,aO O1];exact p
 .rw [aF e];have:¬(r=n/\c=k):=λ⟨a,d⟩=>e (by rw [a,d]);by_cases g:r<n\/(r=n/\c<k)
  .rw [aO g,aO O1]
  .rw [aF g,aF O1]
theorem Tb.row{l:List Int}{n:Nat}(h:Tb l n k)(f:n<k):Tb l (n+1) 0:=⟨h.len,λr c e d=>by
 rw [h.eq r c e d];by_cases g:r<n\/(r=n/\c<k)
 .rw [aO g,aO O1]
 .rw [aF g];by_cases a:r<n+1\/(r=n+1/\c<0)
  .rw [aO a,Zmy r c O1];rfl
  .rw [aF a]⟩
theorem Tb.get{l:List Int}{n r c:Nat}(h:Tb l n k)(f:r<6)(d:c<6)(a:r<n\/(r=n/\c<k)){j:Nat}(e:j=r*6+c):l.getD j 0=(Ob r c:Int):=by rw [e,h.eq r c f d,aO a]
theorem Zyb (k:Nat){n:Nat}(h:n<=5:=by omega):Ob n k<=32:=aB (Zya n k) (aB (dC O4 h) O4)
theorem Zbn {P:Program} {e:TypeId} {n:Nat} {c a:TypeInfo} {z:Value}   (hi:P.info? t=some c) (g:P.underlying t=some (.array n e)) (h:c.zero=some z) (d:P.info? e=some a)
  (f:Instr.fill (λi=>some (i*a.size,a.size)) z.cells parts=some cells):P.built t parts=some cells:=by
 unfold Program.built;simp only [hi,g,h,d,f]
variable {P:Program} {N:Nat} {sc:Nat->Prop} {env env':Qm} {H H':Hp} {Q Q':Exit->Act->World->Prop}
def Ya{α:Type _}(i:Nat)(a b c:α):α:=match i with
 | 0=>a
 | 1=>b
 | _=>c
theorem Eu{α:Type _}{p:α->Prop}{i:Nat}{a b c:α}(d:p a)(e:p b)(f:p c):p (Ya i a b c):=by unfold Ya;split<;>assumption
theorem Zos (i:Nat) {o:Oper}  {e:TypeId}   {m:Int}  (j:o.op= .index t x y) (n:ev env x=some (.agg #[v0,v1,v2])) (p:ev env y=some (.int kd m))
  (l:P.underlying t=some (.array 3 e)) (g:∀w,(sizeOf e).run P w= .ok 1 w) (f:∀w,(isAgg e).run P w= .ok false w) (c:m=(i:Int)) (h:i<3:=by omega):Ld P N sc o env H (Ya i v0 v1 v2):=λa w hs=>by
 subst c;have d:i=0\/i=1\/i=2:=O1;rcases d with rfl|rfl|rfl<;>simp [execOp,j,hs.ev n,hs.ev p,Instr.index,asIntOf,run_underlying l,g,f,asAgg,part,Ya]
theorem Zhz {α:Type}  {enc:α->Value}  {f g j:List α} (i c d e n:Nat) (l:lk H c=some (Yt k enc v0 f)) (m:lk H d=some (Yt k enc v1 g)) (o:lk H e=some (Yt k enc v2 j))
  (p:Nat.beq c 0=false) (q:Nat.beq d 0=false) (r:Nat.beq e 0=false):∀a w,Sat N sc env H a w->Sat N sc env ((n,Yt k enc (Ya i v0 v1 v2) (Ya i f g j))::H) a w:=by
 match i with
 | 0=>exact Zc0 c n l p rfl (λw h=>h) (λb h=>h) rfl
 | 1=>exact Zc0 d n m q rfl (λw h=>h) (λb h=>h) rfl
 | i+2=>exact Zc0 e n o r rfl (λw h=>h) (λb h=>h) rfl
theorem Zvm (i:Nat)(j:Nat){α:Type}{o:Oper}{enc:α->Value}{l:List α}(d:α)(n:o.op= .load t x)(s:ev env x=some (.pointer (some ⟨b,0+j*k,none⟩)))(g:lk H i=some (box b tb (cellsOf enc l).toArray))(e:Enc P t k enc)(m:j<l.length) :
  Ld P N sc o env H (enc (l.getD j d)):=λa w hs=>by
 have hi:l[j]? = some (l.getD j d):=by simp [List.getD,aL m]
 have h:=e.load (l.getD j d) w ⟨b,0+j*k,none⟩ (λq u p=>by have f:=Gm e.cells l j _ hi q u p;rw [Od,hs.boxc g];simpa using f)
 have c:=hs.ev s;generalize enc (l.getD j d)=r at h ⊢;generalize (⟨b,0+j*k,none⟩:Addr)=v at h c;simp [execOp,n,c,Instr.loadAt,Instr.sureAddr,h]
theorem t_sbe (i:Nat)(j:Nat)(k:Nat) {α:Type}  {o:Oper}    {enc:α->Value} {l:List α} (z:α) {w0:World}  (q:o.op= .store t x y) (n:o.dst=none)
  (v:ev env x=some (.pointer (some ⟨b,0+j*k,none⟩))) (w:ev env y=some (enc z)) (h:lk H i=some (box b tb (cellsOf enc l).toArray)) (a:Enc P t k enc) (f:j<l.length)
  (g:lk H 0=some (Zy w0 M0)) (s:∀b,w0.heap.size<=b->sc b) (m:M b) (c:i≠0:=by decide) :
  T P N sc M o env H (G:=Unit) (λ_=>True) (λ_=>env) (λ_=>(i,box b tb (cellsOf enc (l.set j z)).toArray)::H):=by
 have p:=Xe a.cells l;have e:(enc z).cells.toList.length=k:=by simp [a.cells]
 have d:(j+1)*k<=l.length*k:=aQ _ f;rw [fC]at d;refine Zip (vs:=(enc z).cells.toList) q n v w h c rfl a.size e (by rw [e,mX,p];omega) (λu r=>Zj (a.one z u r)) ?_ g s m;unfold Fi;rw [bZ,e,Zds a.cells l j z f]
end Go.Sky
namespace Go.Sky
variable{x:Operand}{t tb te:TypeId}{M M0:Nat->Prop}{cs:Array Value}
variable {P:Program} {N:Nat} {sc:Nat->Prop} {env env':Qm} {H H':Hp} {Q Q':Exit->Act->World->Prop}
theorem d_lea{α:Type}{o:Oper}{i b k q:Nat}{enc:α->Value}{l:List α}(f:o.op= .load t x)(j:ev env x=some (.pointer (some ⟨b,0,none⟩)))(a:lk H i=some (box b tb (cellsOf enc l).toArray))(c:Enc P te q enc)(g:∀w,(isAgg t).run P w= .ok true w)(d:∀w,(sizeOf t).run P w= .ok k w)(e:l.length*q=k) :
  Ld P N sc o env H (.agg (cellsOf enc l).toArray):=
 Ybp (vs:=cellsOf enc l) f j a g d (by rw [Xe c.cells l];exact e) (λn u h=>by rw [bZ];simpa using h)
theorem t_sea {α:Type}  {o:Oper} {y:Operand}  {i b k q:Nat}  {enc:α->Value} {l:List α} {w0:World}  (r:o.op= .store t x y) (m:o.dst=none)
  (v:ev env x=some (.pointer (some ⟨b,0,none⟩))) (B:ev env y=some (.agg (cellsOf enc l).toArray)) (g:lk H i=some (box b tb cs)) (d:Enc P te q enc) (n:∀w,(sizeOf t).run P w= .ok k w) (p:l.length*q=k) (j:cs.size=k)
  (f:lk H 0=some (Zy w0 M0)) (s:∀b,w0.heap.size<=b->sc b) (h:M b) (a:i≠0:=by decide) :
  T P N sc M o env H (G:=Unit) (λ_=>True) (λ_=>env) (λ_=>(i,box b tb (cellsOf enc l).toArray)::H):=by
 have c:(cellsOf enc l).length=k:=by rw [Xe d.cells l];exact p
 refine Zip (vs:=cellsOf enc l) r m v B g a rfl n c (by rw [c,bZ,j];exact aI _) (λu e=>?_) (by unfold Fi;rw [gG,lK,bZ,List.drop_eq_nil_of_le O10,iY]) f s h
 unfold cellsOf at e;obtain⟨z,_,D⟩:=gI.1 e;exact Zj (d.one z u D)
end Go.Sky
namespace Go.Sky
variable {P:Program} {N:Nat} {sc:Nat->Prop} {env env':Qm} {H H':Hp} {Q Q':Exit->Act->World->Prop}
abbrev Zd:=(Int×Int×Int)×(SL×List Int)×(SL×List Int)×(SL×List Int)
abbrev Pt (g:Zd):Value:= .agg #[.int .i64 g.1.1,.int .i64 g.1.2.1,.int .i64 g.1.2.2,Xa g.2.1.1,Xa g.2.2.1.1,Xa g.2.2.2.1]
abbrev qC (z:SL×List Int):Pc:=Yt 1 Xk (Xa z.1) z.2
abbrev qG (g:Zd):Pc:=Hx qC [g.2.1,g.2.2.1,g.2.2.2]
abbrev G0:Zd:=((0,0,0),((none,0,0),[]),((none,0,0),[]),((none,0,0),[]))
def Hr (g:Zd)(z:SL×List Int){v:Value}{ps:List Zd}(j n:Nat)(i:lk H j=some (Xv 6 Pt qG v ps))(c:Nat.beq j 0=false)(d:g∈ps)(e:z∈[g.2.1,g.2.2.1,g.2.2.2]):∀a w,Sat N sc env H a w->Sat N sc env ((n,Yt 1 Xk (Xa z.1) z.2)::H) a w:=
 Zc0 j n i c rfl (λw h=>h.2 g d z e) (λb f=> .inr ⟨g,d,z,e,f⟩) rfl
end Go.Sky
namespace Go.Sky
variable{x c z y:List Int}{i:Nat}{over ov:Int}
theorem Dw{x:Int}(h:La x):bl x.natAbs<=64:=(Qs 64 _).2 (by obtain⟨a,b⟩:=h;omega)
theorem in_bl{x:Int}(h:bl x.natAbs<=63):La x:=by have:=(Qs 63 x.natAbs).1 h;exact⟨O1,O1⟩
theorem bl_pw{n:Int}(h:bl n.natAbs<=100)(hi:i<=10):bl (n^i).natAbs<=1000:=by
 rcases bB i with a|a
 .subst a;rw [eT];decide
 .exact aB (Bz n h i a) (by have:=aQ 100 hi;omega)
def Zal:List Int->Int
 | []=>1
 | x::r=>x*Zal r
def zc6_eq:(Value.agg (List.replicate 36 (Value.int .i64 0)).toArray).cells=Co (List.replicate 36 0):=rfl
def Zsi:(Value.agg (List.replicate 36 (Value.int .i64 0)).toArray).cells.size=36:=rfl
def w60(n j k:Nat):Int:=60/(Ob n k:Int)*(Ob j k:Int)
def ctl(c:List Int)(j m:Nat):Int:=Ye (λk=>c.getD k 0*w60 (c.length-1) j k) m
def Yku(c:List Int)(j m:Nat):ctl c j (m+1)=ctl c j m+c.getD m 0*w60 (c.length-1) j m:=rfl
theorem Zrv:∀{n k:Nat},k<=n->0<Ob n k
 | n,0,_=>by cases n<;>exact Nat.one_pos
 | n+1,k+1,h=>by have:=Zrv (n:=n) (k:=k) O1;show 0<Ob n k+Ob n (k+1);omega
theorem Yez (n:Nat)(k:Nat){j:Nat}(d:j<=5):0<=w60 n j k/\w60 n j k<=1920:=by have e:=Zyb k d;unfold w60;have a:(0:Int)<=60/(Ob n k:Int):=lJ O4 O1;have b:(60:Int)/(Ob n k:Int)<=60:=kY _ O4;refine⟨aS a O1,?_⟩;have:=jJ b (show(Ob j k:Int)<=32 by omega) O1 O4;omega
theorem Zyi (k:Nat){n j:Nat}(a:j<=5):bl (w60 n j k).natAbs<=11:=by have:=Yez n k a;exact(Qs 11 _).2 O1
theorem Fr(h:∀x∈c,La x)(k:Nat):La (c.getD k 0):=by
 by_cases a:k<c.length
 .exact h _ (Zg a)
 .rw [aJ,cW O1];exact⟨O4,O4⟩
theorem Ylk(h:∀x∈c,La x){j m:Nat}(a:j<=5)(b:m<=31):bl (ctl c j m).natAbs<=80:=
 Zj7 (K:=75) (λk _=>by have d:=Dw (Fr h k);have e:=Zyi k (n:=c.length-1) a;have:=Xz (c.getD k 0) (w60 (c.length-1) j k);omega) b
def Zik(c:List Int)(over:Int):Bool:=(List.range c.length).all λj=>decide ((ctl c j (j+1)).natAbs<=62914560*over)
theorem Zr5(h:∀j,j<c.length->((ctl c j (j+1)).natAbs:Int)<=62914560*over):Zik c over=true:=by unfold Zik;rw [bC];intro j a;exact aE (h j (cF.1 a))
theorem bndB_f{j:Nat}(a:j<c.length)(h:¬((ctl c j (j+1)).natAbs:Int)<=62914560*over):Zik c over=false:=by
 cases hb:Zik c over with
 | false=>rfl
 | true=>
  unfold Zik at hb;rw [bC]at hb;exact absurd (bL (hb j (cF.2 a))) h
theorem wc_abs{s:Int}:(#[.bool false,.string (Xo s.natAbs)]:Array Value)=wc (s.natAbs:Int):=by have:decide (((s.natAbs:Nat):Int)<0)=false:=aG O1;rw [show wc (s.natAbs:Int)=#[.bool (decide (((s.natAbs:Nat):Int)<0)),.string (Xo ((s.natAbs:Nat):Int).natAbs)]from rfl,this,eP]
theorem sgp{z:Int}:0<z.sign↔0<z:=by simpa using sign_pos_iff z
def axB(c:List Int)(over:Int):Bool:=decide (1<=c.length) && decide (c.length<=6) && !(decide (1<c.length) && decide (c.getD (c.length-1) 0=0)) && Zik c over
def Lr(g:Int):List Int->Int
 | []=>g
 | x::r=>Lr (Int.gcd g x) r
theorem Cz:∀(a b:List Int) (g:Int),Lr g (a ++ b)=Lr (Lr g a) b
 | [],_,_=>rfl
 | x::a,b,g=>Cz a b _
theorem Zih{l:List Int}{g:Int}(h:i<l.length):Lr g (l.take (i+1))=(Int.gcd (Lr g (l.take i)) (l.getD i 0):Int):=by rw [Pu 0 _ _ h,Cz];rfl
theorem Zhk:∀{l:List Int} {g:Int} {m:Nat},(∀x∈l,bl x.natAbs<=m)->bl g.natAbs<=m->bl (Lr g l).natAbs<=m
 | [],_,_,_,h=>h
 | x::l,g,m,h,hg=>Zhk (l:=l) (λy a=>h y (bN _ a)) (aB (Zr7 g x) (by have:=h x (bX ..);omega))
abbrev Cs:=List Int×List Int×List Int
def Zwl(fr to ov:Int):Bool:=decide (0<=fr) && decide (fr<to) && decide (to<=3600000) && decide (1<=ov) && decide (ov<=4294967296)
def Za4(fr to ov:Int)(x y z:List Int):Bool:=Zwl fr to ov && axB x ov && axB y ov && axB z ov && decide (Lr ov (x ++ y ++ z)=1)
def Iw(i:Nat)(x y z:List Int):List Int:=match i with
 | 0=>[]
 | 1=>x
 | 2=>x ++ y
 | _=>x ++ y ++ z
theorem Zdf(x y z:List Int)(h:i<3):Iw (i+1) x y z=Iw i x y z ++ Ya i x y z:=by
 match i,h with
 | 0,_=>rfl
 | 1,_=>rfl
 | 2,_=>rfl
theorem Zk0 (i:Nat){fr to:Int}(h:axB (Ya i x y z) ov=false):Za4 fr to ov x y z=false:=by unfold Za4;revert h;unfold Ya;split<;>intro h<;>simp [h]
theorem Zkp{fr to:Int}(h:¬(0<=fr/\fr<to/\to<=3600000/\1<=ov/\ov<=4294967296)):Za4 fr to ov x y z=false:=by
 cases hb:Za4 fr to ov x y z with
 | false=>rfl
 | true=>
  unfold Za4 Zwl at hb;simp only [aP,bO]at hb;exact absurd O1 h
theorem Zv8(h:1<=c.length->c.length<=6->¬(1<c.length/\c.getD (c.length-1) 0=0)->Zik c ov=true->False):axB c ov=false:=by
 cases hb:axB c ov with
 | false=>rfl
 | true=>
  unfold axB at hb;simp only [aP,fL,jL,bO,gK]at hb;exact(h hb.1.1.1 hb.1.1.2 (λb=>by rcases hb.1.2 with a|a;exact a b.1;exact a b.2) hb.2).elim
theorem Ylw(b:1<=c.length)(d:c.length<=6)(e:¬(1<c.length/\c.getD (c.length-1) 0=0))(f:Zik c ov=true):axB c ov=true:=by
 unfold axB;simp only [aP,fL,jL,bO,gK];refine⟨⟨⟨b,d⟩,?_⟩,f⟩;by_cases a:1<c.length
 .exact .inr λg=>e ⟨a,g⟩
 .exact .inl a
theorem segB_e{fr to:Int}(a:0<=fr/\fr<to/\to<=3600000/\1<=ov/\ov<=4294967296)(b:∀k,k<3->axB (Ya k x y z) ov=true):Za4 fr to ov x y z=decide (Lr ov (Iw 3 x y z)=1):=by have d:axB x ov=true:=b 0 O4;have e:axB y ov=true:=b 1 O4;have f:axB z ov=true:=b 2 O4;unfold Za4 Zwl;rw [aE a.1,aE a.2.1,aE a.2.2.1,aE a.2.2.2.1,aE a.2.2.2.2,d,e,f];rfl
def Zar(b:∀a∈x,La a)(d:∀a∈y,La a)(e:∀a∈z,La a)(i:Nat):∀a∈Ya i x y z,La a:=Eu (p:=λl=>∀a∈l,La a) b d e
theorem bl_fc(d:∀a∈x,La a)(e:∀a∈y,La a)(f:∀a∈z,La a)(g:bl ov.natAbs<=64)(i k:Nat):bl (Lr (Lr ov (Iw i x y z)) ((Ya i x y z).take k)).natAbs<=64:=by
 refine Zhk (λa b=>Dw (Zar d e f i a (fZ b))) (Zhk (λa b=>Dw ?_) g);unfold Iw at b;split at b
 .cases b
 .exact d a b
 .rcases dB.1 b with h|h
  .exact d a h
  .exact e a h
 .rcases dB.1 b with h|h
  .rcases dB.1 h with h|h
   .exact d a h
   .exact e a h
  .exact f a h
end Go.Sky

