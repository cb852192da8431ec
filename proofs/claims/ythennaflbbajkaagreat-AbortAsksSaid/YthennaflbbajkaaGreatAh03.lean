/- Rules, arithmetic and contracts: part 4. No conditions but those that each theorem names. -/
import Derived.Test.YthennaflbbajkaaGreatAh02
import Derived.Scope
set_option linter.all false
namespace Go.Sky
variable{a b s c:List Int}
theorem Bm (k:Nat){f:Nat->Int} : ∀{n:Nat},k<n->(∀i,i<n->i≠k->f i=0)->Yh f n=f k
 | 0,d,_=>absurd d (bM _)
 | n+1,d,h=>by
  rw [Yt];by_cases e:k=n
  .subst e;rw [Fw λi hi=>h i O O,mA]
  .rw [h n O7 (λx=>e x.symm),Bm _ O (λi hi=>h i O),bK]
theorem Bw{p q:List Int}{a b:Nat}(e:∀i,a<i->cf p i=0)(f:∀i,b<i->cf q i=0):(ps p*ps q).c (a+b)=cf p a*cf q b:=by
 rw [PS.mul_c,Bm a O λi hi d=>?_]
 .grind [Lj]
 .rw [Lj,Lj];grind
theorem Zk0(s e:List Int)(c d:Int)(f:PS)(t:Nat):(ps (Zbo (Yy s c) (Yy e d))*f).c t=c*(ps s*f).c t-d*(ps e*f).c t:=by rw [PS.mul_c,PS.mul_c,PS.mul_c,<-Mi,cN,<-Int.neg_mul,<-Mi,<-Dc];refine Xj λk _=>?_;rw [Lj,Lj,Lj,Zb0,Qo,Qo];grind
theorem Ymr{q r:List Int}(j:Tr q)(f:q≠[])(h:∀t,(ps s*ps q).c t=cf r t)(o:∀t,q.length-1<=t->cf r t=0):∀t,cf s t=0:=by
 have d:=j.mem f;have hs:tzl s=[]:=by
  rcases Ziu _ with g|⟨u,y,g⟩
  .omega
  .have k:=Qq s;have e:tzl s≠[]:=O11;have l:=k.mem e;have m:=Bw (p:=tzl s) (q:=q) (a:=(tzl s).length-1) (b:=q.length-1) (λi hi=>Yx O) (λi hi=>Yx O);have n:ps _=ps s:=PS.ext' λi=>Hd s i;grind [Int.mul_eq_zero]
 grind [Ia]
theorem Ka(h:∀t,cf s t=0)(f:PS)(t:Nat):(ps s*f).c t=0:=by simp_all [PS.mul_c,Fw,Lj,cQ]
theorem Mb{p q:List Int}(f:Tr p)(g:Tr q)(d:p≠[])(e:q≠[]):(Pa p q).length=p.length+q.length-1:=by have h:=aL.2 d;have j:=aL.2 e;unfold Pa;rw [Zao,Yz];right;rw [Yz,Kx,aO O,show p.length+q.length-1-1=(p.length-1)+(q.length-1) by omega,Bw (λi hi=>Yx O) (λi hi=>Yx O)];exact bD (f.mem d) (g.mem e)
def mono(s:Nat)(c:Int):List Int:=List.replicate s 0 ++ [c]
theorem Zjf(s:Nat)(c:Int)(i:Nat):cf (mono s c) i=if i=s then c else 0:=by
 unfold mono;rw [Zn4];split
 .unfold cf;grind
 .split
  .rename_i d;subst d;simp [cf]
  grind [Yx]
theorem Zk2(s:Nat)(c:Int)(f:PS)(t:Nat):(ps (mono s c)*f).c t=if s<=t then c*f.c (t-s)else 0:=by
 rw [PS.mul_c];split
 .rw [Bm s O λi _ d=>by rw [Lj,Zjf,aJ d,cQ],Lj,Zjf,aO rfl]
 .exact Fw λk e=>by rw [Lj,Zjf,aJ O,cQ]
theorem Zha{p q:List Int}(o:0<q.length)(n:q.length<=p.length):∀j,j<=p.length-q.length+1->∃s:List Int,∀t,cf q (q.length-1)^j*cf p t=(ps s*ps q).c t+cf (Og p q j) t
 | 0,_=>⟨[],λt=>by rw [Ka (λt=>Yx (bH _))];unfold Og;simp⟩
 | j+1,y=>by
  obtain⟨s,r⟩:=Zha o n j O;refine⟨Zbo (Yy s (cf q (q.length-1))) (Yy (mono (p.length-1-j-(q.length-1)) (cf (Og p q j) (p.length-1-j))) (-1)),λt=>?_⟩;rw [Zk0,Zk2];have d:=r t;show _=_+cf (Zkd q _ _) t;rw [eC];rcases aW t p.length with h|h
  .rw [Zuq (by grind [Kb])];generalize p.length-1-j-(q.length-1)=f;generalize cf (Og p q j) t=k at d ⊢;generalize (ps s*ps q).c t=X at d ⊢;generalize cf q _^j=L at d ⊢;generalize cf q _=l at d ⊢;have e:L*l*cf p t=l*X+k*l:=O4;rw [e];by_cases m:f<=t
   .rw [aO m,Lj];by_cases x:t<f+q.length
    .omega
    .rw [Yx (p:=q) (i:=t-_) O];simp
   omega
  .have g:=Yx h;have u:cf (Og p q j) t=0:=Yx (by grind [Kb]);have v:cf (Zkd q (Og p q j) (p.length-1-j)) t=0:=Yx (by grind [Zf9,Kb]);have w:cf q (t-(p.length-1-j-(q.length-1)))=0:=Yx O;rw [g,u,bK]at d;rw [g,v,Lj,w,<-d];simp
theorem Zaz(p:List Int){q:List Int}(e:q≠[]):∃(k:Nat) (s:List Int),∀t,cf q (q.length-1)^k*cf p t=(ps s*ps q).c t+cf (Qs p q) t:=by
 have d:=aL.2 e;rcases aW p.length q.length with h|h
 .refine⟨0,[],λt=>?_⟩;rw [Ka (λt=>Yx (bH _))];unfold Qs;grind
 .obtain⟨s,hs⟩:=Zha d h _ (aI _);refine⟨p.length-q.length+1,s,λt=>?_⟩;unfold Qs;simp_all [aJ,Hd]
theorem Pu(p:List Int){q:List Int}(e:q≠[]):(Qs p q).length<q.length:=by
 have d:=aL.2 e;unfold Qs;split
 .omega
 .have:=Zbg (p:=Og p q _) λi hi=>Zkc d O _ (aI _) i O;omega
theorem It{p q:List Int}(d:Tr p):Tr (Qs p q):=by unfold Qs;grind [Qq]
def Sim(a b:List Int):Prop:=∃m n:Int,m≠0/\n≠0/\∀i,m*cf a i=n*cf b i
def Sim.refl(a:List Int):Sim a a:=⟨1,1,O,O,λ_=>rfl⟩
def Sim.symm : Sim a b->Sim b a:=λ⟨m,n,d,e,h⟩=>⟨n,m,e,d,λi=>(h i).symm⟩
def Sim.trans : Sim a b->Sim b c->Sim a c:=λ⟨m,n,d,e,h⟩ ⟨u,v,f,g,k⟩=>
 ⟨m*u,n*v,bD d f,bD e g,λi=>O4⟩
theorem Sim.zero(h:Sim a b){i:Nat}(hi:cf a i=0):cf b i=0:=by obtain⟨m,n,d,e,h⟩:=h;grind [Int.mul_eq_zero]
theorem Sim.len_le(h:Sim a b)(e:Tr b):b.length<=a.length:=by
 rcases aW a.length b.length with f|f
 .exfalso;have d:b≠[]:=aL.1 O;exact e.mem d (h.zero (Yx O))
 omega
def Sim.len(h:Sim a b)(d:Tr a)(e:Tr b):a.length=b.length:=iZ (h.symm.len_le d) (h.len_le e)
theorem Sim.nil(h:Sim a b)(d:Tr b)(e:a=[]):b=[]:=by have:=h.len_le d;simp_all
theorem Zb5(c:Int):∀(p:List Int) (g:Int),0<=g->(p.map (· * c)).foldl (λg c=>(Int.gcd g c:Int)) (g*c.natAbs)=p.foldl (λg c=>(Int.gcd g c:Int)) g*c.natAbs
 | [],g,_=>rfl
 | x::p,g,hg=>by
  rw [cJ,gC,gC,<-Zb5 c p _ O7];congr 1;have:Int.gcd (g*(c.natAbs)) (x*c)=Int.gcd g x*c.natAbs:=by unfold Int.gcd;grind [Int.natAbs_mul,Int.natAbs_natCast,Nat.gcd_mul_right]
  omega
theorem Zhf(p:List Int)(c:Int):Xu (p.map (· * c))=Xu p*c.natAbs:=by have:=Zb5 c p 0 (eV _);rw [cQ]at this;exact this
theorem Fl(p:List Int)(i:Nat):cf (Yv p) i*Xu p=cf p i:=by grind [Zc4,Int.ediv_mul_cancel,Kr]
theorem Ybv:Yv []=[]:=rfl
theorem Za2{p:List Int}(h:Tr p)(d:p≠[]):Xu p≠0:=λe=>h.mem d ((Zck p).1 e _)
theorem Hu{p:List Int}(h:Tr p)(d:p≠[]):Xu (Yv p)=1:=by
 have f:=Za2 h d;have e:=Zhf (Yv p) (Xu p);rw [show(Yv p).map _=p from Ku (by rw [bJ,Yp]) λi _=>by grind [Ze8,Fl]]at e;have g:=Mw p;have j:Xu p*(Xu (Yv p)-1)=0:=by grind
 all_goals grind [Int.mul_eq_zero]
theorem Zfu{p:List Int}(h:Xu p=1):Yv p=p:=Ku (Yp p) λi _=>by rw [Zc4,h,mB]
theorem Zev{p:List Int}(h:Tr p):Yv (Yv p)=Yv p:=by
 by_cases d:p=[]
 .subst d;rfl
 grind [Zfu,Hu]
theorem Qw{p:List Int}(h:Tr p):Sim (Yv p) p:=by
 by_cases d:p=[]
 .subst d;exact Sim.refl _
 .exact⟨Xu p,1,Za2 h d,O,λi=>by grind [Fl]⟩
def Xt(p:List Int):List Int:=Ga (Yv p)
theorem Zry{x y:List Int}(o:Tr x)(p:Tr y)(q:x≠[])(d:Xu x=1)(f:Xu y=1)(h:Sim x y):x=y\/∀i,cf x i=- cf y i:=by
 have r:=h.len o p;obtain⟨m,n,t,l,e⟩:=h;have g:=Zhf x m;have j:=Zhf y n;rw [show x.map _=y.map (· * n)from Ku O4 λi _=>by grind [Ze8,Int.mul_comm],j,d,f]at g
 have k:m=n\/m=-n:=O;rcases k with rfl|rfl
 .grind [Ku,Int.eq_of_mul_eq_mul_left]
 .exact .inr λi=>iA l O4
theorem Aa(g:List Int)(i:Nat):cf (Ga g) i=if g.length≠0/\cf g (g.length-1)<0 then-cf g i else cf g i:=by unfold Ga;grind [Qo]
theorem Nz{g:List Int}(h:Tr g):Tr (Ga g):=by unfold Ga;grind [Nt]
theorem Ha(g:List Int):Sim (Ga g) g:=by
 by_cases h:g.length≠0/\cf g (g.length-1)<0
 .exact⟨-1,1,O,O,λi=>by simp_all [Aa,aO]⟩
 .exact⟨1,1,O,O,λi=>by rw [Aa,aJ h]⟩
theorem Ztw:∀(f:Nat) {a b:List Int},Tr a->Tr b->Tr (eu f a b)
 | 0,_,_,h,_=>h
 | f+1,a,b,d,e=>by
  unfold eu;split
  .exact d
  .exact Ztw f e (Xg (It d))
theorem Zzz:∀(f:Nat) {a b:List Int},Tr a->Tr b->Yv a=a->Yv b=b->Yv (eu f a b)=eu f a b
 | 0,_,_,_,_,h,_=>h
 | f+1,a,b,d,i,e,g=>by
  unfold eu;split
  .exact e
  .exact Zzz f i (Xg (It d)) g (Zev (It d))
theorem Zjx{p q:List Int}(d:Tr p)(e:Tr q):Tr (gA p q):=by unfold gA;all_goals grind [Xg]
theorem Zjw{p q:List Int}(d:Tr p)(e:Tr q):Tr (gB p q):=by unfold gB;all_goals grind [Xg]
theorem Yfr{F:Nat}{p q:List Int}(d:Tr p)(e:Tr q):Mt F p q=Xt (eu F (gA p q) (gB p q)):=by
 unfold Mt Xt;rw [Zzz F (Zjx d e) (Zjw d e)]
 .unfold gA;grind [Zev]
 .unfold gB;grind [Zev]
def chk:Nat->Nat->Nat->Nat->Nat->Bool
 | 0,_,d,_,_=>Nat.beq d 0
 | f+1,e,d,A,B=>Nat.beq d 0 || (bif Nat.blt e d then chk f d e B A else
   Nat.ble (A+(e-d+1)*B) 65537 && (List.range d).all λl=>chk f d l B (bif Nat.ble l 1 then 2 else A+(e-d+1)*B))
theorem cp_nf{p:List Int}{x y z:Int}{n m:Nat}(d:Sz n p)(j:bl x.natAbs<=m)(k:bl y.natAbs<=m)(l:bl z.natAbs<=m)(i:p.length<=25)(h:n+24*(m+1)+8<=65536):Pe p+(p.length-1)*(Pe [x,y,z]+1)+8<=65536:=by
 have e:=Oi d;have f:Pe [x,y,z]<=m:=by simp only [Pe];omega
 have g:(p.length-1)*(Pe [x,y,z]+1)<=24*(m+1):=aS O O;omega
theorem cp_not{p:List Int}{x y z:Int}(h:Pe p+(p.length-1)*(Pe [x,y,z]+1)+8<=65536):¬Zly p x y z:=λd=>by have:=d.2;omega
theorem Zez(p:List Int)(x y z:Int):(Ks p x y z).length<=p.length:=by
 unfold Ks;split
 .simp
 grind [Nat.le_trans,Ho,Zcp]
theorem Zs7(x y:Int):Lg x y∣x:=by
 unfold Lg;split
 all_goals grind [Int.neg_dvd,Int.gcd_dvd_left]
theorem Zs6(x y:Int):Lg x y∣y:=by
 unfold Lg;split
 all_goals grind [Int.neg_dvd,Int.gcd_dvd_right]
def s8(l:List Int):Prop:=∀x∈l,(Xo x.natAbs).size<=8
abbrev Z0:SL×List Int:=((none,0,0),[])
theorem vp_eu:∀(f:Nat) {a b:List Int},Vp a->Vp b->eok f a b->Vp (eu f a b)
 | 0,_,_,h,_,_=>h
 | f+1,a,b,d,e,h=>by
  unfold eu;split
  .exact d
  .rcases h with h|h
   .contradiction
   .exact vp_eu f e (Ir (Zb9 d h.1)) h.2
theorem Ydm{g:List Int}(h:Vp g):Vp (Ga g):=by
 unfold Ga;split
 .refine⟨λi=>by rw [Qo];exact Zb1 h.sz i,Nt _ _,aB Ly h.len⟩
 omega
def Yk0{F:Nat}{p q:List Int}(d:Vp p)(e:Vp q)(h:eok F (gA p q) (gB p q)):Vp (Mt F p q):=Ydm (vp_eu F (vp_gA d e) (vp_gB d e) h)
def pevn(p:List Int)(x y:Int)(n:Nat):Int:=Yh (λi=>cf p i*(x^i*y^(n-1-i))) n
def dn(p:List Int)(y:Int):Int:=y^(p.length-1)
theorem De(q:List Int):Pa [] q=[]:=Zfw (.inl rfl)
theorem Zex(p:List Int):Pa p []=[]:=Zfw (.inr rfl)
theorem Ygs(N D:Int):N/Lg N D*D=N*(D/Lg N D):=by grind [Int.ediv_mul_cancel,Zs7,Zs6]
theorem Yca{N D:Int}(h:0<D):0<D/Lg N D:=by
 have f:Lg N D=(Int.gcd N D):=aJ O;have g:=lD (Zs6 N D);rw [f]at g ⊢;generalize D/(Int.gcd N D)=d at *;rcases iO 0 d with e|e
 .omega
 .have:d*(Int.gcd N D)<=0:=fH e O7;omega
section
variable {p q:List Int}
theorem Ze4(l:Tr p)(f:Tr q)(h:p≠[])(d:q≠[]):∀j,j<=p.length->∀t,cf (Pi (Pa p q) q j) t=(ps (p.take (p.length-j))*ps q).c t
 | 0,_,t=>by rw [iP,cF];exact Gk p q t
 | j+1,y,t=>by
  have n:=Ze4 l f h d j O;have z:=aL.2 d;have v:=Mb l f h d;have r:Pi (Pa p q) q (j+1)=Zns q (Pi (Pa p q) q j) (p.length-1-j):=by show Zns q _ _=_;grind
  have w:=f.mem d;have m:cf (Pi (Pa p q) q j) (p.length-1-j+q.length-1)=cf p (p.length-1-j)*cf q (q.length-1):=by rw [n,show p.length-1-j+q.length-1=(p.length-1-j)+(q.length-1) by omega,Bw (λi hi=>by rw [Eo,aJ O]) (λi hi=>Yx O),Eo,aO O]
  have e:dq q (Pi (Pa p q) q j) (p.length-1-j)=cf p (p.length-1-j):=by unfold dq;simp_all
  have u:(ps (p.take (p.length-j))*ps q).c t=(ps (p.take (p.length-(j+1)))*ps q).c t+(ps (mono (p.length-1-j) (cf p (p.length-1-j)))*ps q).c t:=by rw [PS.mul_c,PS.mul_c,PS.mul_c,<-Dc];refine Xj λk _=>?_;rw [Lj,Lj,Lj,Lj,Eo,Eo,Zjf];grind
  rw [r];unfold Zns;rw [Kx,Zau,v,e,n,u,Zk2,Lj];by_cases g:t<p.length+q.length-1
  .rw [aO g];by_cases o:p.length-1-j<=t
   .rw [aO o];by_cases x:t<p.length-1-j+q.length
    .omega
    .rw [Yx (p:=q) O];simp
   omega
  .rw [aJ g,PS.mul_c];refine(Fw λk _=>?_).symm;rw [Lj,Lj,Eo];split
   .rw [Yx (p:=q) O,dZ]
   omega
theorem Zyp(f:Tr p)(g:Tr q)(e:q≠[]):pdv (Pa p q) q/\Hf (Pa p q) q=p:=by
 by_cases d:p=[]
 .subst d;rw [De];exact⟨.inl rfl,rfl⟩
 have r:=aL.2 d;have t:=aL.2 e;have o:=Mb f g d e;have m:=g.mem e;have n:∀k,k<=p.length-1->cf (Pi _ q (p.length-1-k)) (k+q.length-1)=cf p k*cf q _:=λk j=>by rw [Ze4 f g d e _ O,show k+q.length-1=k+(q.length-1) by omega,Bw (λi hi=>by rw [Eo,aJ O]) (λi hi=>Yx O),Eo,aO O]
 have l:(Pa p q).length-q.length=p.length-1:=O;have h:Pa p q≠[]:=aL.1 O;refine⟨.inr ⟨O,λk j=>?_,?_⟩,?_⟩
 .unfold Hc;simp_all
 .rw [l,show p.length-1+1=p.length by omega];refine(Ia _).2 λi=>?_;rw [Ze4 f g d e _ (aI _),jH];simp [Ka,Yx,bH]
 .rw [Zsk h];unfold Yfj;rw [l,show p.length-1+1=p.length by omega,Bt λk j=>?_,Zi3,Zao f];unfold Yac dq;grind [Int.mul_ediv_cancel]
end
def Dv(g a:List Int):Prop:=∃(k:Int) (s:List Int),k≠0/\∀t,k*cf a t=(ps s*ps g).c t
theorem Zsu(f:PS)(t:Nat):(ps [1]*f).c t=f.c t:=by rw [PS.mul_c,Bm 0 O7 λi _ d=>by rw [Lj,Yx O4,cQ],Lj,show cf [1] 0=1 from rfl,iG,iP]
theorem Dv.refl(a:List Int):Dv a a:=⟨1,[1],O,λt=>by rw [Zsu,iG,Lj]⟩
theorem Dv.nil(g:List Int):Dv g []:=⟨1,[],O,λt=>by simp [Ka,Yx,bH]⟩
theorem Dv.sim{g:List Int} : Dv g a->Sim a b->Dv g b:=λ⟨k,s,d,h⟩ ⟨m,n,j,f,e⟩=>
 ⟨k*n,Yy s m,bD d f,λt=>by rw [PS.mul_c,show(λi=>(ps _).c i*(ps g).c _)=λi=>m*((ps s).c i*(ps g).c (t-i))from mP λi=>by grind [Lj,Qo],Mi,<-PS.mul_c];grind⟩
theorem Dv.lin{g:List Int}(e:Dv g a)(f:Dv g b)(s:List Int)(L:Int)(d:L≠0)(h:∀t,L*cf c t=(ps s*ps a).c t+cf b t):Dv g c:=by
 obtain⟨k,u,j,r⟩:=e;obtain⟨m,v,l,w⟩:=f;refine⟨L*(k*m),Zcl (Yy (Pa s u) m) (Yy v k),bD d (bD j l),λt=>?_⟩;have n:k*(ps s*ps a).c t=(ps (Pa s u)*ps g).c t:=by rw [Yl9,PS.mul_assoc',PS.mul_c,PS.mul_c,<-Mi];grind [Xj,Lj]
 have o:(ps (Zcl (Yy (Pa s u) m) (Yy v k))*ps g).c t=m*(ps (Pa s u)*ps g).c t+k*(ps v*ps g).c t:=by rw [PS.mul_c,PS.mul_c,PS.mul_c,<-Mi,<-Mi,<-Dc];refine Xj λi _=>?_;rw [Lj,Lj,Lj,Lj,Yar,Qo,Qo];grind
 grind
theorem eu_dv:∀(f:Nat) {a b:List Int},Tr a->Tr b->eok f a b->Dv (eu f a b) a/\Dv (eu f a b) b
 | 0,a,b,j,d,h=>by rw [show b=[]from h];exact⟨Dv.refl _,Dv.nil _⟩
 | f+1,a,b,j,d,h=>by
  by_cases i:b=[]
  .grind [Zlq,Dv.refl,Dv.nil]
  .rcases h with h|h
   .grind
   .have e:eu (f+1) a b=eu f b (Yv (Qs a b)):=by
     conv=>lhs;unfold eu
     grind
    rw [e];have t1:=It (q:=b) j;obtain⟨g,l⟩:=eu_dv f d (Xg t1) h.2;obtain⟨k,s,hs⟩:=Zaz a i;exact⟨g.lin (l.sim (Qw t1)) s _ (Il (d.mem i) k) hs,g⟩
theorem Dv.of_sim{g d:List Int} : Dv g a->Sim g d->Dv d a:=λ⟨k,s,f,h⟩ ⟨m,n,i,j,e⟩=>
 ⟨m*k,Yy s n,bD i f,λt=>by grind [Int.mul_assoc,PS.mul_c,Mi,Xj,Lj,Qo]⟩
theorem Dv.zero(e:Tr a)(h:Dv [] a):a=[]:=by obtain⟨k,s,f,h⟩:=h;rw [<-Zao e,Ia];intro i;have d:=h i;rw [PS.mul_comm',Ka (λt=>Yx (bH _))]at d;grind [Int.mul_eq_zero]
theorem Zdk{F:Nat}{p q:List Int}(g:Tr p)(i:Tr q)(h:eok F (gA p q) (gB p q)):Dv (Mt F p q) p/\Dv (Mt F p q) q:=by
 have j:=Zjx g i;have k:=Zjw g i;obtain⟨d,e⟩:=eu_dv F j k h;have hs:Sim _ (Mt F p q):=(Ha _).symm;have d:=d.of_sim hs;have e:=e.of_sim hs;by_cases f:p.length<q.length
 .rw [show gA p q=Yv q from aO f]at d;rw [show gB p q=Yv p from aO f]at e;exact⟨e.sim (Qw g),d.sim (Qw i)⟩
 .rw [show gA p q=Yv p from aJ f]at d;rw [show gB p q=Yv q from aJ f]at e;exact⟨d.sim (Qw g),e.sim (Qw i)⟩
def Zfi (F:Nat){p q:List Int}(d:Tr p)(e:Tr q):Tr (Mt F p q):=Nz (Ztw F (Zjx d e) (Zjw d e))
theorem Zvj{p:List Int}{c:Int}(h:c≠0):Sim p (Yy p c):=⟨c,1,h,O,λi=>by grind [Qo]⟩
def fin8(d A:Nat):Bool:=Nat.ble d 2 || Nat.ble (64+(9-d)*A) 65536
def chk2:Nat->Nat->Nat->Nat->Nat->Bool
 | 0,d,_,A,_=>fin8 d A
 | f+1,d,e,A,B=>bif Nat.beq e 0 then fin8 d A else bif Nat.blt d e then chk2 f e d B A else
   (List.range e).all λl=>chk2 f e l B (bif Nat.ble l 1 then 2 else A+(d-e+1)*B)
theorem Zbs{g:List Int}(h:Tr g):(Ga g).length=g.length:=(Ha g).len (Nz h) h
theorem Zic(g:List Int):Xu (Ga g)=Xu g:=by
 have d:Xu (Ga g)∣Xu g:=Dj λi=>by
  have h:=Kr (Ga g) i;rw [Aa]at h;split at h
  all_goals simp_all
 have e:Xu g∣Xu (Ga g):=Dj λi=>by
  rw [Aa];split
  all_goals grind [Int.dvd_neg,Kr]
 exact Int.dvd_antisymm (Mw _) (Mw _) d e
theorem Zkp{F:Nat}{p q:List Int}(f:Tr p)(g:Tr q)(d:Mt F p q≠[]):Xu (Mt F p q)=1:=by rw [Yfr f g]at d ⊢;unfold Xt at d ⊢;rw [Zic];refine Hu (Ztw F (Zjx f g) (Zjw f g)) λe=>d ?_;rw [e];rfl
end Go.Sky
namespace Go.Sky
variable{a b p x y xs:List Int}{i:Nat}{s:Int}{ls:List (SL×List Int)}
def Zay(xs:List Int):Prop:=xs.length=0\/(xs.length+2)*(xs.length+2)*(Pe xs+16)<=65536
instance (xs:List Int):Decidable (Zay xs):=by unfold Zay;infer_instance
def sqf(F:Nat)(xs:List Int):List Int:=Hf (Xt xs) (Mt F (Xt xs) (Xe (Xt xs)))
def Ylk(F:Nat)(xs:List Int):Prop:=(∀i,i<xs.length->bl (cf (Xt xs) (i+1)*((i:Int)+1)).natAbs<=65536)/\¬Znm (Xt xs) (Xe (Xt xs))/\eok F (gA (Xt xs) (Xe (Xt xs))) (gB (Xt xs) (Xe (Xt xs)))/\
 Bc (Xt xs) (Mt F (Xt xs) (Xe (Xt xs)))=0/\pdv (Xt xs) (Mt F (Xt xs) (Xe (Xt xs)))
def Mj(x y:List Int):List Int:=if cf y (y.length-1)<0/\(x.length-y.length+1)%2=1 then Yv (Qs x y)else Yy (Yv (Qs x y)) (-1)
def cok:Nat->List Int->List Int->Prop
 | 0,_,y=>y=[]
 | f+1,x,y=>y=[]\/(Bc x y=0/\y.length<=x.length/\cok f y (Mj x y))
def Mr:Nat->List Int->List Int->List (List Int)
 | 0,x,_=>[x]
 | f+1,x,y=>if y=[]then [x]else x::Mr f y (Mj x y)
theorem Bp(f:Nat)(x:List Int):Mr f x []=[x]:=by cases f<;>rfl
theorem Zl0{f:Nat}(h:cok f a b)(c:b≠[]):∃g,f=g+1/\Bc a b=0/\b.length<=a.length/\cok g b (Mj a b)/\Mr f a b=a::Mr g b (Mj a b):=by
 cases f with
 | zero=>exact absurd h c
 | succ g=>
  rcases h with h|h
  .exact absurd h c
  .exact⟨g,rfl,h.1,h.2.1,h.2.2,by show(if b=[]then [a]else _)=_;rw [aJ c]⟩
def chn(F:Nat)(xs:List Int):List (List Int):=Mr F (sqf F xs) (Yv (Xe (sqf F xs)))
def Am(F:Nat)(xs:List Int):Prop:=Ylk F xs/\(∀i,i<xs.length->bl (cf (sqf F xs) (i+1)*((i:Int)+1)).natAbs<=65536)/\cok F (sqf F xs) (Yv (Xe (sqf F xs)))
theorem Ydl(h:Vp p):Vp (Xt p):=by
 unfold Xt;have c:=Ir h;refine⟨λi=>?_,Nz c.tr,by rw [Zbs c.tr];exact c.len⟩;rw [Aa];split
 .rw [gP];exact c.sz i
 .exact c.sz i
theorem Pq(h:Tr p):(Xt p).length=p.length:=by unfold Xt;rw [Zbs (Xg h),Yp]
theorem Zrj(d:Vp x)(c:Bc x y=0):Vp (Mj x y):=by
 have h:=Ir (Zb9 d c);unfold Mj;split
 .exact h
 .exact⟨λi=>by rw [Qo];exact Zb1 h.sz i,Nt _ _,aB Ly h.len⟩
def Mg(s:Int×Int)(x:Int):Int×Int:=if x=0 then s else(if x=-s.2 then s.1+1 else s.1,x)
def chg(l:List Int):Int:=(l.foldl Mg (0,0)).1
def Ze1{α β:Type}(f:α->β->α)(a:α)(l:List β)(x:β):(l ++ [x]).foldl f a=f (l.foldl f a) x:=O7
theorem chg1_n(s:Int×Int)(x:Int):(Mg s x).1=s.1\/(Mg s x).1=s.1+1:=by
 unfold Mg;split
 .exact .inl rfl
 .dsimp only;split
  .exact .inr rfl
  .exact .inl rfl
def sgs(ls:List (List Int))(x y:Int):List Int:=ls.map λp=>(pev p x y).sign
def sgr(ls:List (List Int)):List Int:=ls.map λp=>(cf p (p.length-1)).sign
def sgl(ls:List (List Int)):List Int:=ls.map λp=>if p.length%2=0 then-(cf p (p.length-1)).sign else(cf p (p.length-1)).sign
def smost(xs:List Int):Nat:=(xs.take (xs.length-1)).foldl (λm c=>max m c.natAbs) 0
def sbound(xs:List Int):Int:=((smost xs/(cf xs (xs.length-1)).natAbs:Nat):Int)+2
def Zw2(xs:List Int):Int:=if xs.length=0 then 3 else if Zay xs then 0 else 7
def ef(z:Int×Int):Bool:=decide (512<bl z.1.natAbs) || decide (512<bl z.2.natAbs)
def chk2r(xs:List Int)(x y c d:Int):Int:=if xs.length=0 then 3 else if 0<x*d-c*y then 3 else if Zay xs/\ef (x,y)=false/\ef (c,d)=false then 0 else 7
theorem Yor(c:xs≠[])(h:Zay xs):Zw2 xs=0:=by unfold Zw2;rw [aJ (λe=>c (aH e)),aO h]
theorem Zy0(h:¬cf (Yv xs) ((Yv xs).length-1)<0):Xt xs=Yv xs:=by unfold Xt Ga;rw [aJ O]
theorem Zy1(c:(Yv xs).length≠0)(h:cf (Yv xs) ((Yv xs).length-1)<0):Xt xs=Yy (Yv xs) (-1):=by unfold Xt Ga;rw [aO ⟨c,h⟩]
theorem Ze2 (P:Nat->Prop) : ∀n,P n->∃m,P m/\∀k,k<m->¬P k:=by
 intro n
 induction n using Nat.strongRecOn with
 | _ n f=>
  intro h;by_cases e:∃k,k<n/\P k
  .obtain⟨k,d,c⟩:=e;exact f k d c
  .exact⟨n,h,λk d c=>e ⟨k,d,c⟩⟩
theorem Ycc{n:Nat}(h:2<=n):∃p,2<=p/\p∣n/\∀d,2<=d->d∣n->p<=d:=by
 obtain⟨p,⟨f,g⟩,j⟩:=Ze2 (λd=>2<=d/\d∣n) n ⟨h,Nat.dvd_refl n⟩;exact⟨p,f,g,λd k e=>by
  rcases aW d p with c|c
  .exact absurd ⟨k,e⟩ (j d c)
  .exact c⟩
theorem Zte{n p:Nat}(q:2<=p)(j:p∣n)(k:∀d,2<=d->d∣n->p<=d)(u:0<n){x y:Int}(h:(p:Int)∣x*y):(p:Int)∣x\/(p:Int)∣y:=by
 by_cases g:(p:Int)∣x
 .exact .inl g
 .right;have m:Nat.gcd p x.natAbs=1:=by
   have f:=Nat.gcd_dvd_left p x.natAbs;have o:0<Nat.gcd p x.natAbs:=Nat.gcd_pos_of_pos_left _ O;rcases aW (Nat.gcd p x.natAbs) 2 with c|c
   .omega
   .have r:=k _ c (Nat.dvd_trans f j);have t:=kB O f;exfalso;refine g (fK.1 ?_);rw [eG];have l:Nat.gcd p x.natAbs=p:=O;rw [<-l];exact Nat.gcd_dvd_right _ _
  have e:=fK.2 h;rw [eG,bR]at e;refine fK.1 ?_;rw [eG];exact(show Nat.Coprime p x.natAbs from m).dvd_of_dvd_mul_left e
theorem gauss{g:List Int}(hg:Xu g=1):∀(n:Nat) (k:Int) (s:List Int),k.natAbs=n->k≠0->(∀t,k*cf a t=(ps s*ps g).c t)->∃q:List Int,∀t,cf a t=(ps q*ps g).c t:=by
 intro n
 induction n using Nat.strongRecOn with
 | _ n ih=>
  intro k s o S h;rcases aW n 2 with P|P
  .have G:k*k=1:=by have:k=1\/k=-1:=O;rcases this with e|e<;>subst e<;>rfl
   refine⟨Yy s k,λt=>?_⟩;have e:(ps (Yy s k)*ps g).c t=k*(ps s*ps g).c t:=by rw [PS.mul_c,PS.mul_c,<-Mi];exact Xj λi _=>by rw [Lj,Lj,Lj,Qo];grind
   rw [e,<-h,<-fR,G,iG]
  .obtain⟨p,V,W,pm⟩:=Ycc P;have I:∀{x y:Int},(p:Int)∣x*y->(p:Int)∣x\/(p:Int)∣y:=Zte V W pm O;have r:(p:Int)∣k:=fK.1 (by rw [eG,o];exact W);have w:∃j,¬(p:Int)∣cf g j:=bB λu=>by have:(p:Int)∣Xu g:=Dj λi=>bB λhy=>u ⟨i,hy⟩;rw [hg]at this;have:=lG O3 this;omega
   obtain⟨j0,D⟩:=w;obtain⟨j,hj,F⟩:=Ze2 (λj=>¬(p:Int)∣cf g j) j0 D;have hs:∀i,(p:Int)∣cf s i:=λi0=>bB λz=>by
    obtain⟨i,hi,B⟩:=Ze2 (λi=>¬(p:Int)∣cf s i) i0 z;have Q:=h (i+j);rw [PS.mul_c]at Q;have N:∀m,m<=i+j+1->(p:Int)∣Yh (λk=>if k=i then 0 else(ps s).c k*(ps g).c (i+j-k)) m:=λm=>by
     induction m with
     | zero=>intro _;exact jI _
     | succ m M=>
      intro hm;rw [Yt];refine Int.dvd_add (M O) ?_;split
      .exact jI _
      .rename_i a0;rw [Lj,Lj];rcases aW m i with v|v
       .exact fB (bB λu=>B m v u) (jY _ _)
       .exact fB (bB λu=>F (i+j-m) O u) (Int.dvd_mul_left _ _)
    have Y:Yh (λk=>(ps s).c k*(ps g).c (i+j-k)) (i+j+1)=Yh (λk=>if k=i then 0 else(ps s).c k*(ps g).c (i+j-k)) (i+j+1)+cf s i*cf g j:=by
     have Z:Yh (λk=>(ps s).c k*(ps g).c (i+j-k)) (i+j+1)=Yh (λk=>(if k=i then 0 else(ps s).c k*(ps g).c (i+j-k))+(if k=i then(ps s).c k*(ps g).c (i+j-k)else 0)) (i+j+1):=
      Xj λk _=>by split<;>omega
     rw [Z,Dc,Bm i (f:=λk=>if k=i then(ps s).c k*(ps g).c (i+j-k)else 0) O (λq _ hq=>aJ hq),aO rfl,Lj,Lj,show i+j-i=j by omega]
    rw [Y]at Q;have v:(p:Int)∣cf s i*cf g j:=by have l:cf s i*cf g j=k*cf a (i+j)-Yh (λk=>if k=i then 0 else(ps s).c k*(ps g).c (i+j-k)) (i+j+1):=O;rw [l];exact Int.dvd_sub (fB r (jY _ _)) (N _ (aI _))
    rcases I v with l|l
    .exact hi l
    .exact hj l
   obtain⟨d,c⟩:=r;have H:(p:Int)≠0:=O;refine ih d.natAbs ?_ d (s.map (· / (p:Int))) rfl ?_ ?_
   .rw [<-o,c,bR,eG];have:0<d.natAbs:=by
     rcases aX d.natAbs with R|R
     .rw [show d=0 by omega]at c;simp at c;exact absurd c S
     .exact R
    have:=aP d.natAbs V;omega
   .intro e;rw [e]at c;simp at c;exact S c
   .intro t;refine iA H ?_;rw [<-fR,<-c,h,PS.mul_c,PS.mul_c,<-Mi];refine Xj λi _=>?_;rw [Lj,Lj,Lj,Ze8 _ _ O7,<-fR,kX (hs i)]
def ev1:List Int->Int->Int
 | [],_=>0
 | c::r,t=>c+t*ev1 r t
def sdv:List Int->Int->List Int
 | [],_=>[]
 | [_],_=>[]
 | _::c::r,t=>ev1 (c::r) t::sdv (c::r) t
theorem Zlb:∀(u:List Int) (t:Int),(sdv u t).length=u.length-1
 | [],_=>rfl
 | [_],_=>rfl
 | _::c::r,t=>by unfold sdv;rw [dJ,Zlb _ t];simp
theorem Zzx:∀(u:List Int) (t x:Int),ev1 u x=ev1 u t+(x-t)*ev1 (sdv u t) x
 | [],t,x=>by simp [ev1,sdv]
 | [c],t,x=>by simp [ev1,sdv]
 | a::c::r,t,x=>by have d:=Zzx (c::r) t x;show a+x*ev1 _ x=a+t*ev1 _ t+(x-t)*(ev1 _ t+x*ev1 _ x);grind
theorem Yat(a:Int)(u:List Int)(i:Nat):cf (a::u) i=if i=0 then a else cf u (i-1):=by
 cases i with
 | zero=>rfl
 | succ i=>rfl
theorem Zc5(i:Nat):cf [] i=0:=Yx (bH _)
theorem Yjf:∀(u:List Int) (t:Int) (i:Nat),cf u (i+1)=cf (sdv u t) i-t*cf (sdv u t) (i+1)
 | [],t,i=>by unfold sdv;simp [Zc5]
 | [c],t,i=>by unfold sdv;simp [Yat,aJ,Zc5]
 | a::c::r,t,i=>by
  cases i with
  | zero=>
   show c=ev1 _ t-t*cf _ 0
   match r with
   | []=>simp [ev1,sdv,cf]
   | d::r'=>unfold sdv;rw [Yat];show c=(c+t*ev1 _ t)-_;simp
  | succ i=>
   exact Yjf _ t i
theorem You:∀(u:List Int) (t:Int),cf u 0=ev1 u t-t*cf (sdv u t) 0
 | [],t=>by simp [ev1,sdv,cf]
 | [c],t=>by simp [ev1,sdv,cf]
 | a::c::r,t=>by show a=(a+t*ev1 _ t)-t*ev1 _ t;simp
theorem Zsb:∀(n:Nat) (u:List Int) (R:List Int),u.length=n->(∃i,cf u i≠0)->R.Nodup->(∀t∈R,ev1 u t=0)->R.length<n
 | 0,u,R,d,c,_,_=>by grind [List.eq_nil_of_length_eq_zero,Zc5]
 | n+1,u,[],d,c,_,_=>O7
 | n+1,u,t::R,d,c,hd,hR=>by
  have h:=hR t (bX ..);have j:=Zlb u t;have g:∃i,cf (sdv u t) i≠0:=bB λe=>by
   obtain⟨i,hi⟩:=c;cases i with
   | zero=>grind [You]
   | succ i=>grind [Yjf]
  have:=Zsb n _ R O g (kL.1 hd).2 λx e=>by have f:=hR x (bN _ e);rw [Zzx u t x]at f;grind [Int.mul_eq_zero,List.nodup_cons]
  grind
def kk:Nat->Nat
 | 0=>0
 | d+1=>30*kk d+1
def pts:List Int:=[0,1,2,3,4,5,6,7,8,9,10,11,12,13,14]
def Psim(a b:List Int):Prop:=∃m n:Int,0<m/\0<n/\∀i,m*cf a i=n*cf b i
def Psim.refl(a:List Int):Psim a a:=⟨1,1,O,O,λ_=>rfl⟩
def Psim.symm : Psim a b->Psim b a:=λ⟨m,n,c,d,h⟩=>⟨n,m,d,c,λi=>(h i).symm⟩
def Psim.trans{c:List Int} : Psim a b->Psim b c->Psim a c:=λ⟨m,n,d,e,h⟩ ⟨u,v,f,g,k⟩=>
 ⟨m*u,n*v,fC d f,fC e g,λi=>O4⟩
def Psim.sim : Psim a b->Sim a b:=λ⟨m,n,c,d,h⟩=>⟨m,n,O,O,h⟩
theorem Zeu(h:Tr p):Psim (Yv p) p:=by
 by_cases c:p=[]
 .subst c;exact Psim.refl _
 .exact⟨Xu p,1,by have:=Mw p;grind [Za2],O,λi=>by grind [Fl]⟩
theorem Zkm(f:Tr a)(g:Tr b)(h:Psim a b):Yv a=Yv b:=by
 by_cases c:a=[]
 .rw [h.sim.nil g c,c]
 .have j:=λe=>c (h.sim.symm.nil f e);obtain⟨m,n,u,v,e⟩:=(Zeu f).trans (h.trans (Zeu g).symm);have l:=Xg f;have t:=Xg g;have hs:Sim _ _:=⟨m,n,O,O,e⟩;have d:Yv a≠[]:=λe=>c (aH (by grind [Yp]));rcases Zry l t d (Hu f c) (Hu g j) hs with k|k
  .omega
  .have o:=l.mem d;have q:=e ((Yv a).length-1);have r:=k ((Yv a).length-1);rw [r]at q o;grind [Int.mul_neg,Int.add_mul,Int.mul_eq_zero]
def Zcg(y:List Int):Int:=if cf y (y.length-1)<0 then-cf y (y.length-1)else cf y (y.length-1)
def rb(x y:List Int):Int:=if cf y (y.length-1)<0 then-cf x (x.length-1)else cf x (x.length-1)
def Zia(x y:List Int):List Int:=Zbo (Yy x (Zcg y)) (shm y (rb x y) (x.length-y.length) y.length)
def Zbl:Nat->List Int->List Int->List Int
 | 0,x,_=>x
 | f+1,x,y=>if x.length<y.length then x else Zbl f (Zia x y) y
theorem Zpt(e:Tr x)(f:0<y.length)(d:y.length<=x.length):(Zia x y).length<x.length:=by
 have h:=Zbg (p:=Zia x y) (n:=x.length-1) λi hi=>by
  unfold Zia;rw [Zb0,Qo,Yje];by_cases c:i=x.length-1
  .unfold Zcg rb;grind
  .rw [Yx O,aJ O];simp
 rw [show tzl _=Zia x y from Zao Zxv]at h;omega
theorem Ye3(x:List Int)(t:Nat):Zcg y*cf x t=(ps (mono (x.length-y.length) (rb x y))*ps y).c t+cf (Zia x y) t:=by
 unfold Zia;rw [Zk2,Zb0,Qo,Yje,Lj];by_cases c:x.length-y.length<=t
 .by_cases d:t<x.length-y.length+y.length
  .grind
  .rw [Yx (p:=y) O,iQ _];simp
 grind
theorem Zfs(d:Tr y)(c:y≠[]):0<Zcg y:=by have:=d.mem c;unfold Zcg;split<;>omega
theorem Zfo{y:List Int}(l:Tr y)(d:y≠[]):∀(f:Nat) (x:List Int),Tr x->x.length<y.length+f->Tr (Zbl f x y)/\(Zbl f x y).length<y.length/\∃(k:Nat) (s:List Int),∀t,Zcg y^k*cf x t=(ps s*ps y).c t+cf (Zbl f x y) t
 | 0,x,c,e=>⟨c,e,0,[],λt=>by rw [Ka (λt=>Yx (bH _))];unfold Zbl;simp⟩
 | f+1,x,c,e=>by
  unfold Zbl;by_cases h:x.length<y.length
  .rw [aO h];exact⟨c,h,0,[],λt=>by simp [Ka,Yx,bH,eJ]⟩
  .rw [aJ h];have m:=Zpt c (aL.2 d) O;obtain⟨g,j,k,s,hs⟩:=Zfo l d f (Zia x y) Zxv O;refine⟨g,j,k+1,Zbo (Yy s 1) (Yy (mono (x.length-y.length) (rb x y)) (-(Zcg y^k))),λt=>?_⟩;grind [Ye3,Zk0,Int.pow_succ]
theorem Zsl(l:Int)(h:l≠0):∀n:Nat,(l<0/\n%2=1->l^n<0)/\(¬(l<0/\n%2=1)->0<l^n)
 | 0=>⟨λh=>O,λ_=>O7⟩
 | n+1=>by
  have e:=Zsl l h n;rw [eC];by_cases d:l<0
  .by_cases f:n%2=1
   .have c:=e.1 ⟨d,f⟩;exact⟨λh=>O,λ_=>Int.mul_pos_of_neg_of_neg c d⟩
   .have c:=e.2 O;exact⟨λ_=>Int.mul_neg_of_pos_of_neg c d,λh=>O⟩
  .have c:=e.2 O;exact⟨λh=>O,λ_=>fC c O⟩
def Zhe(p:List Int):List Int:=Yy p (-1)
theorem Zak(p:List Int)(i:Nat):cf (Zhe p) i=- cf p i:=by unfold Zhe;grind [Qo]
theorem Zvv(h:Tr p):Yv (Zhe p)=Zhe (Yv p):=by
 have e:=by
  have c:Xu (Zhe p)∣Xu p:=Dj λi=>by have h:=Kr (Zhe p) i;simp_all [Zak,Int.dvd_neg]
  have d:Xu p∣Xu (Zhe p):=Dj λi=>by simp [Zak,Int.dvd_neg,Kr]
  exact Int.dvd_antisymm (Mw _) (Mw _) c d
 refine(Xg (Nt _ _)).ext (Nt _ _) λi=>?_;show cf (Yv (Zhe p)) i=cf _ i;simp_all [Zak,Zc4,Int.neg_ediv_of_dvd,Kr]
theorem Zg6 (f:Nat)(u:Tr x)(m:Tr y)(g:y≠[])(B:y.length<=x.length)(w:x.length<y.length+f):Yv (Zhe (Zbl f x y))=Mj x y:=by
 obtain⟨N,M,k,s,hs⟩:=Zfo m g f x u w;have F:=aL.2 g;obtain⟨G,o⟩:=Zha (p:=x) F B _ (aI _);have D:∀t,cf (Og x y (x.length-y.length+1)) t=cf (Qs x y) t:=λt=>by unfold Qs;simp_all [aJ,Hd]
 have lp:=Pu x g;have h:=It (q:=y) u;have c:=m.mem g;have n:0<Zcg y^k:=iI (Zfs m g);have d:=Zsl (cf y (y.length-1)) c (x.length-y.length+1);generalize H:cf y (y.length-1)^(x.length-y.length+1)=L at o d;generalize Zcg y^k=K at hs n;have j:∀t,(ps (Zbo (Yy G K) (Yy s L))*ps y).c t=cf (Zbo (Yy (Zbl f x y) L) (Yy (Qs x y) K)) t:=λt=>by rw [Zk0,Zb0,Qo,Qo,<-D t];grind
 have z:=Ymr m g j λt I=>by rw [Zb0,Qo,Qo,Yx (p:=Zbl f x y) O,Yx (p:=Qs x y) O];simp
 have e:∀t,L*cf (Zbl f x y) t=K*cf (Qs x y) t:=λt=>by have v:=j t;rw [Ka z,Zb0,Qo,Qo]at v;grind
 unfold Mj;by_cases l:cf y (y.length-1)<0/\(x.length-y.length+1)%2=1
 .rw [aO l];have r:=d.1 l;exact Zkm (Nt _ _) h ⟨-L,K,O,n,λt=>by grind [Zak]⟩
 .rw [aJ l];have r:=d.2 l;rw [show Yy (Yv (Qs x y)) (-1)=Zhe (Yv (Qs x y))from rfl,<-Zvv h];exact Zkm (Nt _ _) (Nt _ _) ⟨L,K,r,n,λt=>by simp_all [Zak,mK]⟩
theorem Zca(c:Tr x):Tr (Mj x y):=by unfold Mj;grind [Xg,It,Nt]
theorem Zbr(c:Tr x):(Mj x y).length=(Qs x y).length:=by
 unfold Mj;have h:Tr (Yv (Qs x y)):=Xg (It c);split
 .simp [Yp]
 .rw [<-Yp (Qs x y)];exact((Zvj O).len h (Nt _ _)).symm
theorem Zvf{n:Nat}(h:Sz n p):Sz n (Xt p):=λi=>by
 unfold Xt;rw [Aa];split
 .rw [gP];exact Ca h i
 .exact Ca h i
theorem Zkx(h:Tr p)(c:p≠[]):Xt p≠[]:=λe=>c (aH (by grind [Pq]))
theorem Bu{g:List Int}(h:Tr g)(c:g≠[]):0<cf (Ga g) ((Ga g).length-1):=by have d:=h.mem c;grind [Zbs,Aa,List.eq_nil_of_length_eq_zero]
theorem Zdl(h:Tr p)(c:p≠[]):Xu (Xt p)=1:=by unfold Xt;grind [Zic,Hu]
theorem Zv0(h:Tr p)(c:Xu p=1)(d:0<cf p (p.length-1)):Xt p=p:=by unfold Xt;rw [Zfu c];unfold Ga;grind
theorem Nl (F:Nat)(o:Tr xs)(r:xs≠[])(v:eok F (gA (Xt xs) (Xe (Xt xs))) (gB (Xt xs) (Xe (Xt xs)))) :
  pdv (Xt xs) (Mt F (Xt xs) (Xe (Xt xs)))/\Tr (sqf F xs)/\sqf F xs≠[]/\Xt xs=Pa (sqf F xs) (Mt F (Xt xs) (Xe (Xt xs)))/\Mt F (Xt xs) (Xe (Xt xs))≠[]/\Xt (sqf F xs)=sqf F xs:=by
 have hs:Tr (Xt xs):=Nz (Xg o);have f:=Mh hs;have l:=Zkx o r;have g:=(Zdk hs f v).1;have n:=Zfi F hs f;have c:Mt F (Xt xs) (Xe (Xt xs))≠[]:=λe=>l ((e▸g).zero hs);have H:=Zkp hs f c;obtain⟨k,s,I,h⟩:=g;obtain⟨q,P⟩:=gauss H _ k s rfl I h;have d:Xt xs=Pa (tzl q) (Mt F (Xt xs) (Xe (Xt xs))):=hs.ext (Qp _ _) λi=>by grind [Gk,Yfe]
 obtain⟨B,S⟩:=Zyp (Qq q) n c;have w:sqf F xs=tzl q:=by unfold sqf;grind
 rw [<-d]at B;have j:tzl q≠[]:=λe=>l (by grind [De]);refine⟨B,by grind [Qq],O4,O4,c,?_⟩;rw [w];refine Zv0 (Qq q) ?_ ?_
 .have D:=Zdl o r;have t:Xu (tzl q)∣Xu (Xt xs):=Dj λi=>by
   rw [d,Gk,PS.mul_c];have N:∀m,Xu (tzl q)∣Yh (λk=>(ps (tzl q)).c k*(ps (Mt F (Xt xs) (Xe (Xt xs)))).c (i-k)) m:=λm=>by
    induction m with
    | zero=>exact jI _
    | succ m M=>exact Int.dvd_add M (fB (Kr (tzl q) m) (jY _ _))
   grind
  have u:=Mw (tzl q);have G:=lG O t;grind [Za2,Qq]
 .have Q:=aL.2 j;have R:=aL.2 c;have D:0<cf (Xt xs) ((Xt xs).length-1):=Bu (Xg o) (λe=>r (aH (by grind [Yp])));have t:0<cf (Mt F (Xt xs) (Xe (Xt xs))) ((Mt F (Xt xs) _).length-1):=Bu (Ztw F (Zjx hs f) (Zjw hs f)) (λe=>c (by unfold Mt;rw [e];rfl));have u:=Mb (Qq q) n j c;rw [<-d]at u;have G:cf (Xt xs) ((Xt xs).length-1)=cf (tzl q) ((tzl q).length-1)*cf (Mt F (Xt xs) (Xe (Xt xs))) ((Mt F (Xt xs) (Xe (Xt xs))).length-1):=by rw [u,d,Gk,<-d,show(tzl q).length+(Mt F (Xt xs) (Xe (Xt xs))).length-1-1=((tzl q).length-1)+((Mt F (Xt xs) (Xe (Xt xs))).length-1) by omega];grind [Bw,Yx]
  rcases iO 0 _ with z|z
  .omega
  .exfalso;have:=fH z (eA t);omega
def Nw(p:List Int):(Xe p).length=p.length-1:=Yz _ _
theorem Zwq{n:Nat}(c:Sz n p)(g:p.length<=25)(i:Nat):bl (cf p (i+1)*((i:Int)+1)).natAbs<=n+5:=by
 rcases aW (i+1) p.length with h|h
 .have d:=Xx (cf p (i+1)) ((i)+1);have e:=c (i+1);have f:bl ((i:Int)+1).natAbs<=5:=(Qt 5 _).2 O;omega
 grind [Yx,Gm]
theorem Zgs(p:List Int)(i:Nat):cf (Xe p) i=cf p (i+1)*((i:Int)+1):=by unfold Xe;simp_all [Kx,Yx,cQ]
theorem Zaw{n:Nat}(d:Sz n p)(c:p.length<=25):Sz (n+5) (Xe p):=λi=>by simp_all [Zgs,Zwq]
theorem Zfe(h:Vp p)(c:∀i,i<p.length->bl (cf p (i+1)*((i:Int)+1)).natAbs<=65536):Vp (Xe p):=by
 refine⟨λi=>?_,Mh h.tr,by rw [Nw];have:=h.len;omega⟩;rw [Zgs];by_cases hi:i<p.length
 .grind
 .rw [Yx O];simp [Gm]
def sf_t(h:xs.length=0):Value.bool (decide (Zay xs))= .bool true:=aF _ (aD (.inl h))
theorem sf_i{n:Int}(h:xs.length≠0)(c:n=(((xs.length+2)*(xs.length+2)*(Pe xs+16):Nat):Int)):Value.bool (decide (Zay xs))= .bool (decide (n<=65536)):=aF _ (bC.2 (by show(xs.length=0\/(xs.length+2)*(xs.length+2)*(Pe xs+16)<=65536)↔_;omega))
theorem Ybi(h:(Qs x y).length=0):Mj x y=[]:=by have c:=aH h;unfold Mj;rw [c];split<;>rfl
theorem Yll(e:y.length<=x.length)(c:(cf y (y.length-1)).sign<0)(d:((x.length:Int)-(y.length:Int)+1)%2=1):Mj x y=Yv (Qs x y):=by unfold Mj;grind
theorem Zx0(c:¬(cf y (y.length-1)).sign<0):Mj x y=Yy (Yv (Qs x y)) (-1):=by unfold Mj;grind
theorem Zxz(d:y.length<=x.length)(c:¬((x.length:Int)-(y.length:Int)+1)%2=1):Mj x y=Yy (Yv (Qs x y)) (-1):=by unfold Mj;grind
theorem Zva{F:Nat}(j:Vp xs)(k:xs≠[])(h:Ylk F xs):Vp (sqf F xs):=by
 obtain⟨_,_,_,d,c⟩:=h;have g:=Ydl j;unfold sqf Hf;split
 .grind
 .rename_i l;rcases c with c|c
  .grind
  .have e:=(Zdv d).2 c.1;refine⟨?_,Qq _,?_⟩
   .rw [<-Zgi];exact(Zxx e c.2.1).tzl
   .have f:=Ho (Zmn (Xt xs) (Mt F (Xt xs) (Xe (Xt xs))) ((Xt xs).length-(Mt F (Xt xs) (Xe (Xt xs))).length+1));rw [Zgi,Zco]at f;have:=g.len;grind [Zdv]
theorem Zk9{F:Nat}(d:Vp xs)(h:Ylk F xs):(sqf F xs).length<=xs.length:=by
 obtain⟨_,_,_,e,c⟩:=h;have j:=Pq d.tr;unfold sqf Hf;split
 .simp
 .rename_i f;rcases c with c|c
  .grind
  .have g:=Ho (Zmn (Xt xs) (Mt F (Xt xs) (Xe (Xt xs))) ((Xt xs).length-(Mt F (Xt xs) (Xe (Xt xs))).length+1));grind [Zgi,Zco,Zdv]
theorem Yaq{L:List Int}{n l:Int}(hi:i<L.length)(h:(n,l)=(L.take i).foldl Mg (0,0))(hs:L.getD i 0=s)(c:s=0):(n,l)=(L.take (i+1)).foldl Mg (0,0):=by rw [Pw 0 L i hi,Ze1,<-h];unfold Mg;grind
theorem Yap{L:List Int}{n l:Int}(hi:i<L.length)(h:(n,l)=(L.take i).foldl Mg (0,0))(hs:L.getD i 0=s)(c:s≠0)(d:s=-l):(n+1,s)=(L.take (i+1)).foldl Mg (0,0):=by rw [Pw 0 L i hi,Ze1,<-h];unfold Mg;grind
theorem Yao{L:List Int}{n l:Int}(hi:i<L.length)(h:(n,l)=(L.take i).foldl Mg (0,0))(hs:L.getD i 0=s)(c:s≠0)(d:¬s=-l):(n,s)=(L.take (i+1)).foldl Mg (0,0):=by rw [Pw 0 L i hi,Ze1,<-h];unfold Mg;grind
theorem Yot{L:List Int}{n l:Int}(hi:L.length<=i)(h:(n,l)=(L.take i).foldl Mg (0,0)):n=chg L:=by rw [cL hi]at h;unfold chg;grind
theorem Yes{z:Int}:-1<=z.sign/\z.sign<=1:=by grind
theorem Ygl{α:Type}{d:α}{f:α->Int}{ls:List α}(h:i<ls.length):(ls.map f).getD i 0=f (ls.getD i d):=by grind
def sgx(ls:List (SL×List Int))(f:List Int->Int):List Int:=ls.map λz=>f z.2
def Zr0(ls:List (SL×List Int))(f:List Int->Int)(h:i<ls.length):(sgx ls f).getD i 0=f (ls.getD i ((none,0,0),[])).2:=Ygl h
def Zla(ls:List (SL×List Int))(f:List Int->Int):(sgx ls f).length=ls.length:=bJ ..
def fr(p:List Int):Int:=(cf p (p.length-1)).sign
def fl(p:List Int):Int:=if p.length%2=0 then-(cf p (p.length-1)).sign else(cf p (p.length-1)).sign
def fat(x y:Int)(p:List Int):Int:=(pev p x y).sign
def fat_r(x y:Int)(p:List Int):-1<=fat x y p/\fat x y p<=1:=Yes
theorem Zmp:∀(f:Nat) {x y:List Int},Vp x->Vp y->cok f x y->∀p∈Mr f x y,Vp p
 | 0,x,y,d,_,_,p,c=>by rw [bZ.1 c];omega
 | f+1,x,y,d,e,h,p,c=>by
  unfold Mr at c;split at c
  .rw [bZ.1 c];exact d
  .rcases h with h|h
   .contradiction
   .rcases aU.1 c with rfl|c
    .exact d
    .exact Zmp f e (Zrj d h.1) h.2.2 p c
theorem vp_chn{F:Nat}(j:Vp xs)(d:xs≠[])(h:Am F xs):∀p∈chn F xs,Vp p:=by obtain⟨e,f,g⟩:=h;have c:=Zva j d e;exact Zmp F c (Ir (Zfe c (λi hi=>f i (by grind [Zk9])))) g
def cnt(F:Nat)(xs:List Int)(x y:Int):Int:=chg ((chn F xs).map (fat x y))
def sright(F:Nat)(xs:List Int):Int:=chg ((chn F xs).map fr)
def sleft(F:Nat)(xs:List Int):Int:=chg ((chn F xs).map fl)
theorem Zx3{C:List (List Int)}(h:ls.map Prod.snd=C)(f:List Int->Int):sgx ls f=C.map f:=by rw [<-h,fZ];rfl
def Mx{C:List (List Int)}{p:List Int->Prop}(h:ls.map Prod.snd=C)(c:∀q∈C,p q):∀z∈ls,p z.2:=λz d=>c _ (h▸List.mem_map_of_mem d)
theorem Zhu(L:List Int):0<=chg L/\chg L<=L.length:=by
 unfold chg;suffices h:∀(l:List Int) (s:Int×Int),s.1<=(l.foldl Mg s).1/\(l.foldl Mg s).1<=s.1+l.length by grind
 intro l
 induction l with
 | nil=>simp
 | cons x l c=>
  intro s;have d:=c (Mg s x);have e:=chg1_n s x;simp only [gC,dJ];omega
theorem Zec:∀(f:Nat) (x y:List Int),(Mr f x y).length<=f+1
 | 0,x,y=>aI _
 | f+1,x,y=>by
  unfold Mr;split
  .simp
  .have:=Zec f y (Mj x y);simp;omega
def sm(xs:List Int)(i:Nat):Nat:=(xs.take i).foldl (λm c=>max m c.natAbs) 0
def Zbp{x y:Int}(h:¬Lc x y):Gq x y=x/Lg x y/\Iu x y=y/Lg x y/\Ye9 x y=0:=⟨aJ h,aJ h,aJ h⟩
theorem nr_bl{x y:Int}(h:¬Lc x y):bl (Gq x y).natAbs<=65536/\bl (Iu x y).natAbs<=65536:=by obtain⟨c,d,_⟩:=Zbp h;rw [c,d];unfold Lc at h;omega
theorem Zpi{x y:Int}(h:¬Lc x y)(c:0<y):0<Iu x y:=by simp_all [Zbp,Yca]
abbrev R2:=Int×Int
def Px(a b:R2):R2:=(Gq (Gq (a.1*b.2+b.1*a.2) (a.2*b.2)*1) (Iu (a.1*b.2+b.1*a.2) (a.2*b.2)*2),Iu (Gq (a.1*b.2+b.1*a.2) (a.2*b.2)*1) (Iu (a.1*b.2+b.1*a.2) (a.2*b.2)*2))
def Zeb(a b:R2):Prop:=¬Lc (a.1*b.2+b.1*a.2) (a.2*b.2)/\¬Lc (Gq (a.1*b.2+b.1*a.2) (a.2*b.2)*1) (Iu (a.1*b.2+b.1*a.2) (a.2*b.2)*2)
instance (a b:R2):Decidable (Zeb a b):=by unfold Zeb;infer_instance
def Yb7{a b:R2}(h:Zeb a b):Ye9 (Gq (a.1*b.2+b.1*a.2) (a.2*b.2)*1) (Iu (a.1*b.2+b.1*a.2) (a.2*b.2)*2)=0:=(Zbp h.2).2.2
def isp(c:R2->Int)(e:Int):Nat->R2->R2->Int->Int->Nat->List (R2×R2)
 | 0,_,_,_,_,_=>[]
 | f+1,a,b,fr,g,d=>if fr=g then []else if fr-g=1/\e<=(d:Int)then [(a,b)]else isp c e f a (Px a b) fr (c (Px a b)) (d+1) ++ isp c e f (Px a b) b (c (Px a b)) g (d+1)
def Zzi(c:R2->Int)(g:R2->Prop)(e:Int):Nat->R2->R2->Int->Int->Nat->Prop
 | 0,_,_,_,_,_=>False
 | f+1,a,b,fr,h,d=>fr=h\/(fr-h=1/\e<=(d:Int))\/(d<1000/\Zeb a b/\g (Px a b)/\Zzi c g e f a (Px a b) fr (c (Px a b)) (d+1)/\Zzi c g e f (Px a b) b (c (Px a b)) h (d+1))
instance ispDec (c:R2->Int) (e:R2->Prop) [DecidablePred e] (g:Int):∀f a b fr h d,Decidable (Zzi c e g f a b fr h d)
 | 0,_,_,_,_,_=>inferInstanceAs (Decidable False)
 | f+1,a,b,fr,h,d=>@instDecidableOr _ _ _ (@instDecidableOr _ _ _ (@instDecidableAnd _ _ _ (@instDecidableAnd _ _ _ (@instDecidableAnd _ _ _ (@instDecidableAnd _ _ (ispDec c e g f a (Px a b) fr (c (Px a b)) (d+1)) (ispDec c e g f (Px a b) b (c (Px a b)) h (d+1)))))))
def okQ(z:R2):Prop:=bl z.1.natAbs<=65536/\bl z.2.natAbs<=65536/\0<z.2
def evok(ls:List (SL×List Int))(m:R2):Prop:=∀z∈ls,¬Kd z.2 m.1 m.2
def cvx(ls:List (SL×List Int))(m:R2):Int:=chg (sgx ls (fat m.1 m.2))
def cvc(F:Nat)(xs:List Int)(m:R2):Int:=cnt F xs m.1 m.2
def evc(F:Nat)(xs:List Int)(m:R2):Prop:=∀p∈chn F xs,¬Kd p m.1 m.2
def slow(a:R2):R2:=(Gq a.1 a.2,Iu a.1 a.2)
def sisol(F:Nat)(xs:List Int)(f:Nat)(a b:R2)(c:Int):List (R2×R2):=isp (cvc F xs) c f (slow a) (slow b) (cvc F xs a) (cvc F xs b) 0
def isOK(F:Nat)(xs:List Int)(f:Nat)(a b:R2)(c:Int):Prop:=Am F xs/\evc F xs a/\evc F xs b/\¬Lc a.1 a.2/\¬Lc b.1 b.2/\Zzi (cvc F xs) (evc F xs) c f (slow a) (slow b) (cvc F xs a) (cvc F xs b) 0/\(sisol F xs f a b c).length<=1000000
open Go.RowKit Below
variable {P:Program} {N:Nat} {sc:Nat->Prop} {env env':Qm} {H H':Hp} {Q Q':Exit->Act->World->Prop} {M:Nat->Prop}
def CalM(P:Program)(f:FuncId)(args:Array Value)(pre:List Pc){G:Type}(φ:G->Prop)(val:G->Value)(d c:G->Pc):Prop:=
 ∀w,(∀p∈pre,p.holds w)->Calls P f args w λe h=>∃g,e= .returned (val g)/\φ g/\Below w.heap.size w h/\(d g).holds h/\(∀b,(d g).fp b->w.heap.size<=b)/\
  (c g).holds h/\(c g).own=false/\(∀b,(c g).fp b->w.heap.size<=b\/∃q∈pre,q.fp b)/\∀b,(d g).fp b->(c g).fp b->False
def FPostM(P:Program)(fn:Func)(w0:World)(pre:List Pc){G:Type}(φ:G->Prop)(val:G->Value)(d c:G->Pc):Exit->Act->World->Prop:=
 bodyPost P fn λe f=>∃g,e= .returned (val g)/\φ g/\Below w0.heap.size w0 f/\(d g).holds f/\(∀b,(d g).fp b->w0.heap.size<=b)/\
  (c g).holds f/\(c g).own=false/\(∀b,(c g).fp b->w0.heap.size<=b\/∃q∈pre,q.fp b)/\∀b,(d g).fp b->(c g).fp b->False
theorem Zes{β:Type}{q:β->Pc}{zs ys:List β}(i j n:Nat)(hi:lk H i=some (Hi q zs))(l:lk H j=some (Hi q ys))(d:Nat.beq i 0=false)(e:Nat.beq j 0=false) :
  ∀a w,Sat N sc env H a w->Sat N sc env ((n,Hi q (zs ++ ys))::H) a w:=
 Zvn i j n hi l d e rfl rfl (λw g k y f=>by
  rcases cY.1 f with h|h
  .exact g y h
  .exact k y h) (λb c=>by
  obtain⟨y,f,c⟩:=c;rcases cY.1 f with h|h
  .exact .inl ⟨y,h,c⟩
  .exact .inr ⟨y,h,c⟩) rfl
abbrev qD (z:SL×Nat):Pc:=d9p (Yr z.1) z.2
abbrev JE:=(R2×R2)×(SL×SL×SL×SL)
abbrev encJ (y:JE):Value:= .agg #[.bool (decide (y.1.1.1<0)),Yr y.2.1,.bool (decide (y.1.1.2<0)),Yr y.2.2.1,.bool (decide (y.1.2.1<0)),Yr y.2.2.2.1,.bool (decide (y.1.2.2<0)),Yr y.2.2.2.2]
abbrev qJ (y:JE):Pc:=Hi qD [(y.2.1,y.1.1.1.natAbs),(y.2.2.1,y.1.1.2.natAbs),(y.2.2.2.1,y.1.2.1.natAbs),(y.2.2.2.2,y.1.2.2.natAbs)]
abbrev J0:JE:=(((0,0),(0,0)),((none,0,0),(none,0,0),(none,0,0),(none,0,0)))
end Go.Sky
namespace Go.Sky
variable{M M0:Nat->Prop}{o:Oper}{x y:Operand}{t tb:TypeId}{cs:Array Value}{v:Value}{vs:List Value}{zs:List (SL×List Int)}{r:List Pc}{z:SL×List Int}
variable {P:Program} {N:Nat} {sc:Nat->Prop} {env env':Qm} {H H':Hp} {Q Q':Exit->Act->World->Prop}
theorem Zr5(w:World)(g:Nat)(cs:Array Value)(t:TypeId){fr:Nat×Nat}(a:w.heap[g]? = some (.cells cs t fr)):w.setRow g cs=w:=by
 obtain⟨b,c⟩:=aK.1 a;have h:(w.setRow g cs).heap=w.heap:=by
  apply Array.ext_getElem?;intro i;by_cases h:g=i
  .subst h;rw [setRow_heap w g cs cs t fr a,a]
  .unfold World.setRow;dsimp only;rw [Array.getElem?_modify,aJ h]
 have e:w.setRow g cs={ w with heap:=(w.setRow g cs).heap }:=rfl;rw [e,h]
theorem Zmy (i:Nat)     {b j k:Nat}    (s:o.op= .store t x y) (p:o.dst=none)
  (D:ev env x=some (.pointer (some ⟨b,j,none⟩))) (F:ev env y=some v) (m:lk H i=some (Pm b tb cs)) (B:v.cells=vs.toArray) (q:∀w,(sizeOf t).run P w= .ok k w) (d:vs.length=k)
  (c:Nat.ble (j+vs.length) cs.size=true) (l:∀u∈vs,u.oneCell'=true) (e:Gv cs j vs=cs) :
  T P N sc M o env H (G:=Unit) (λ_=>True) (λ_=>env) (λ_=>H):=λa w hs K Q n=>by
 have g:w.heap[b]? = some (.cells cs tb (0,0)):=hs.hold i _ m;have f:=run_storeCells_at P b j tb vs 0 cs w g (by simpa using gE c) l;simp only [fY]at f;have h:(execOp a.eval o).run P w= .ok .skip (w.setRow b (Gv cs j vs)):=by simp [execOp,s,hs.ev D,hs.ev F,Instr.storeAt,Instr.sureAddr,storeVar,B,q,d,f,Gv]
 rw [e,Zr5 w b cs tb g]at h;unfold Oper.wp;rw [h];show K (a.put o.dst _) _;rw [p];exact n () _ _ aA (hs.put_none undef) (Chg.refl _ _)
def t_stp1     {i b j:Nat}   {w0:World}  (m:o.op= .store t x y) (k:o.dst=none)
  (p:ev env x=some (.pointer (some ⟨b,j,none⟩))) (q:ev env y=some v) (g:lk H i=some (box b tb cs)) (d:i≠0) (l:∀w,(sizeOf t).run P w= .ok 1 w) (c:Nat.ble (j+1) cs.size=true) (e:One N sc env H v)
  (f:lk H 0=some (Zy w0 M0)) (n:∀b,w0.heap.size<=b->sc b) (h:M b) :
  T P N sc M o env H (G:=Unit) (λ_=>True) (λ_=>env) (λ_=>(i,box b tb (Gv cs j [v]))::H):=λa w hs=>
 t_stp (cs':=#[]) (vs:=[v]) m k p q g d (Zm (e a w hs)) l rfl c ⟨e,aA⟩ f n h a w hs
def Yfh{al:Bool}(i:Nat)(hi:lk H i=some (Xl 1 Qu (λy:SL×List Int=>Yn 2 wv (Yr y.1) y.2) v zs))(a:Nat.beq i 0=false)(b:z∈zs)(h:PreOk H al r):PreOk H al (Yn 2 wv (Yr z.1) z.2::r):=Yfg (q:=λy:SL×List Int=>Yn 2 wv (Yr y.1) y.2) (z:=z) i hi a b h
end Go.Sky
namespace Go.Sky
variable{v:Int}{o:Oper}{x y:Operand}{t tb:TypeId}{b k i:Nat}{kd:IntKind}{M M0:Nat->Prop}{w0:World}{cs:Array Value}
variable {P:Program} {N:Nat} {sc:Nat->Prop} {env env':Qm} {H H':Hp} {Q Q':Exit->Act->World->Prop}
def Ah(l:List Int):Array Value:=(l.map (Value.int .i64)).toArray
theorem Ya8(l:List Int):(Ah l).size=l.length:=by simp [Ah]
theorem Ydj{l:List Int}{j:Nat}(h:j<l.length):(Ah l)[j]? = some (.int .i64 (l.getD j 0)):=by simp [Ah,aM h,aN]
theorem Ydi{l:List Int}{j:Nat}(h:j<l.length):Gv (Ah l) j [.int .i64 v]=Ah (l.set j v):=by unfold Gv Ah;grind
theorem Gx (i:Nat)   {e:TypeId} {d c:Nat}  {m:Int} (j:o.op= .indexAddr t x y) (n:ev env x=some (.pointer (some ⟨b,d,none⟩))) (p:ev env y=some (.int kd m))
  (l:P.underlying t=some (.array c e)) (h:∀w,(sizeOf e).run P w= .ok k w) (f:m=(i:Int):=by omega) (g:i<c:=by omega):Mu P N sc o env H (.pointer (some ⟨b,d+i*k,none⟩)):=λa w hs=>by
 subst f;simp [execOp,j,hs.ev n,hs.ev p,Instr.indexAt,Instr.sureAddr,asIntOf,run_underlying l,h,g,Od]
theorem Ycv (i:Nat){j:Nat}{l:List Int}(d:o.op= .load t x)(f:ev env x=some (.pointer (some ⟨b,j,none⟩)))(a:lk H i=some (box b tb (Ah l)))(e:∀w,(isAgg t).run P w= .ok false w)(c:j<l.length:=by omega) :
  Mu P N sc o env H (.int .i64 (l.getD j 0)):=Zlx _ d f a e (Ydj c)
theorem d_lwa{l:List Int}(d:o.op= .load t x)(g:ev env x=some (.pointer (some ⟨b,0,none⟩)))(a:lk H i=some (box b tb (Ah l)))(e:∀w,(isAgg t).run P w= .ok true w)(c:∀w,(sizeOf t).run P w= .ok k w)(h:l.length=k) :
  Mu P N sc o env H (.agg (Ah l)):=
 Yad d g a e c O4 (λn u f=>by simpa [Ah]using f)
theorem Zve (i:Nat)     {j:Nat} {l:List Int}    (m:o.op= .store t x y) (f:o.dst=none)
  (q:ev env x=some (.pointer (some ⟨b,j,none⟩))) (r:ev env y=some (.int .i64 v)) (d:lk H i=some (box b tb (Ah l))) (h:∀w,(sizeOf t).run P w= .ok 1 w) 
  (c:lk H 0=some (Zy w0 M0)) (p:∀b,w0.heap.size<=b->sc b) (e:M b) (a:i≠0:=by decide) (g:j<l.length:=by omega) :
  T P N sc M o env H (G:=Unit) (λ_=>True) (λ_=>env) (λ_=>(i,box b tb (Ah (l.set j v)))::H):=by
 rw [<-Ydi g];exact Zh4 m f q r d a rfl h rfl (by grind [Ya8]) (λu n=>Zj (by rw [List.mem_singleton.1 n];rfl)) rfl c p e
theorem Ydv (i:Nat)       {l:List Int}   (h:o.op= .store t x y) (f:o.dst=none)
  (n:ev env x=some (.pointer (some ⟨b,0,none⟩))) (p:ev env y=some (.agg (Ah l))) (d:lk H i=some (box b tb cs)) (g:∀w,(sizeOf t).run P w= .ok k w) (r:l.length=k) (q:cs.size=k)
  (c:lk H 0=some (Zy w0 M0)) (m:∀b,w0.heap.size<=b->sc b) (e:M b) (a:i≠0:=by decide) :
  T P N sc M o env H (G:=Unit) (λ_=>True) (λ_=>env) (λ_=>(i,box b tb (Ah l))::H):=
 Zh4 h f n p d a rfl g O4 O4 (λu j=>Zj (by obtain⟨z,_,rfl⟩:=eI.1 j;rfl)) (by unfold Gv Ah;grind) c m e
def Of:Nat->Nat->Nat
 | _,0=>1
 | 0,_+1=>0
 | n+1,k+1=>Of n k+Of n (k+1)
theorem Zw0:∀n k,Of n k<=2^n
 | 0,0=>O3
 | _+1,0=>dL _
 | 0,_+1=>bH _
 | n+1,k+1=>by have a:=Zw0 n k;have c:=Zw0 n (k+1);show Of n k+Of n _<=2^(n+1);omega
theorem Zl1:∀n k,n<k->Of n k=0
 | _,0,h=>absurd h (bM _)
 | 0,_+1,_=>rfl
 | n+1,k+1,h=>by show Of n k+Of n _=0;rw [Zl1 n k O,Zl1 n _ O]
structure Tab (l:List Int) (n k:Nat):Prop where
 len:l.length=625
 eq:∀r c,r<25->c<25->l.getD (r*25+c) 0=if r<n\/(r=n/\c<k)then(Of r c:Int)else 0
theorem Zhq{l:List Int}{j:Nat}(hi:i<l.length:=by omega):(l.set i v).getD j 0=if j=i then v else l.getD j 0:=by grind
theorem Tab.start:Tab (List.replicate 625 0) 0 0:=⟨aT,λr c d a=>by grind⟩
theorem Tab.step{l:List Int}{n:Nat}(h:Tab l n k)(m:n<25)(f:k<25)(p:v=(Of n k:Int)){j:Nat}(e:j=n*25+k):Tab (l.set j v) n (k+1):=by have g:=h.len;refine⟨O4,λr c d a=>?_⟩;rw [Zhq,h.eq r c d a];grind
theorem Tab.row{l:List Int}{n:Nat}(h:Tab l n k)(f:n<k):Tab l (n+1) 0:=⟨h.len,λr c e d=>by
 rw [h.eq r c e d];by_cases g:r<n\/(r=n/\c<k)
 .omega
 .rw [aJ g];by_cases a:r<n+1\/(r=n+1/\c<0)
  .rw [aO a,Zl1 r c O];rfl
  omega⟩
theorem Tab.get{l:List Int}{n r c:Nat}(h:Tab l n k)(f:r<25)(d:c<25)(a:r<n\/(r=n/\c<k)){j:Nat}(e:j=r*25+c):l.getD j 0=(Of r c:Int):=by rw [e,h.eq r c f d,aO a]
theorem Yan (n:Nat)(k:Nat)(c:1<=n:=by omega)(a:1<=k:=by omega):Of n k=Of (n-1) (k-1)+Of (n-1) k:=by obtain⟨m,rfl⟩:∃m,n=m+1:=⟨n-1,O⟩;obtain⟨j,rfl⟩:∃j,k=j+1:=⟨k-1,O⟩;rfl
end Go.Sky
namespace Go.Sky
variable{k b:Nat}{t tb:TypeId}{parts:List (Nat×Value)}{cells:Array Value}{o:Oper}{x y:Operand}{kd:IntKind}{v0 v1 v2:Value}{M M0:Nat->Prop}
structure Tb (l:List Int) (n k:Nat):Prop where
 len:l.length=36
 eq:∀r c,r<6->c<6->l.getD (r*6+c) 0=if r<n\/(r=n/\c<k)then(Of r c:Int)else 0
theorem Tb.start:Tb (List.replicate 36 0) 0 0:=⟨aT,λr c d a=>by rw [aJ O,aN];rw [List.getElem?_replicate];split<;>rfl⟩
theorem Tb.step{l:List Int}{n:Nat}{v:Int}(h:Tb l n k)(u:n<6)(s:k<6)(q:v=(Of n k:Int)){j:Nat}(i:j=n*6+k):Tb (l.set j v) n (k+1):=by
 subst i;have m:=h.len;refine⟨by rw [cC];exact m,λr c p f=>?_⟩;rw [Zhq,h.eq r c p f];by_cases e:r*6+c=n*6+k
 .have a:r=n:=O;have d:c=k:=O;subst a;subst d;rw [aO rfl,aO O];exact q
 .rw [aJ e];have:¬(r=n/\c=k):=λ⟨a,d⟩=>e (by rw [a,d]);by_cases g:r<n\/(r=n/\c<k)
  .rw [aO g,aO O]
  .rw [aJ g,aJ O]
theorem Tb.row{l:List Int}{n:Nat}(h:Tb l n k)(f:n<k):Tb l (n+1) 0:=⟨h.len,λr c e d=>by
 rw [h.eq r c e d];by_cases g:r<n\/(r=n/\c<k)
 .rw [aO g,aO O]
 .rw [aJ g];by_cases a:r<n+1\/(r=n+1/\c<0)
  .rw [aO a,Zl1 r c O];rfl
  .rw [aJ a]⟩
theorem Tb.get{l:List Int}{n r c:Nat}(h:Tb l n k)(f:r<6)(d:c<6)(a:r<n\/(r=n/\c<k)){j:Nat}(e:j=r*6+c):l.getD j 0=(Of r c:Int):=by rw [e,h.eq r c f d,aO a]
theorem Zw1 (k:Nat){n:Nat}(h:n<=5:=by omega):Of n k<=32:=aB (Zw0 n k) (aB (cZ O3 h) O3)
theorem Zdy {P:Program} {e:TypeId} {n:Nat} {c a:TypeInfo} {z:Value}   (hi:P.info? t=some c) (g:P.underlying t=some (.array n e)) (h:c.zero=some z) (d:P.info? e=some a)
  (f:Instr.fill (λi=>some (i*a.size,a.size)) z.cells parts=some cells):P.built t parts=some cells:=by
 unfold Program.built;simp only [hi,g,h,d,f]
variable {P:Program} {N:Nat} {sc:Nat->Prop} {env env':Qm} {H H':Hp} {Q Q':Exit->Act->World->Prop}
def Yi{α:Type _}(i:Nat)(a b c:α):α:=match i with
 | 0=>a
 | 1=>b
 | _=>c
theorem Bo{α:Type _}{p:α->Prop}{i:Nat}{a b c:α}(d:p a)(e:p b)(f:p c):p (Yi i a b c):=by unfold Yi;split<;>assumption
theorem Zny (i:Nat)   {e:TypeId}   {m:Int}  (j:o.op= .index t x y) (n:ev env x=some (.agg #[v0,v1,v2])) (p:ev env y=some (.int kd m))
  (l:P.underlying t=some (.array 3 e)) (g:∀w,(sizeOf e).run P w= .ok 1 w) (f:∀w,(isAgg e).run P w= .ok false w) (c:m=(i:Int)) (h:i<3:=by omega):Mu P N sc o env H (Yi i v0 v1 v2):=λa w hs=>by
 subst c;have d:i=0\/i=1\/i=2:=O;rcases d with rfl|rfl|rfl<;>simp [execOp,j,hs.ev n,hs.ev p,Instr.index,asIntOf,run_underlying l,g,f,asAgg,part,Yi]
theorem Zg9 {α:Type}  {enc:α->Value}  {f g j:List α} (i c d e n:Nat) (l:lk H c=some (Yn k enc v0 f)) (m:lk H d=some (Yn k enc v1 g)) (p:lk H e=some (Yn k enc v2 j))
  (q:Nat.beq c 0=false) (r:Nat.beq d 0=false) (s:Nat.beq e 0=false):∀a w,Sat N sc env H a w->Sat N sc env ((n,Yn k enc (Yi i v0 v1 v2) (Yi i f g j))::H) a w:=by
 match i with
 | 0=>exact Zce c n l q rfl (λw h=>h) (λb h=>h) rfl
 | 1=>exact Zce d n m r rfl (λw h=>h) (λb h=>h) rfl
 | i+2=>exact Zce e n p s rfl (λw h=>h) (λb h=>h) rfl
theorem Zud (i:Nat)(j:Nat){α:Type}{enc:α->Value}{l:List α}(d:α)(n:o.op= .load t x)(s:ev env x=some (.pointer (some ⟨b,0+j*k,none⟩)))(g:lk H i=some (box b tb (cellsOf enc l).toArray))(e:Enc P t k enc)(m:j<l.length) :
  Mu P N sc o env H (enc (l.getD j d)):=λa w hs=>by
 have hi:l[j]? = some (l.getD j d):=by simp [List.getD,aM m]
 have h:=e.load (l.getD j d) w ⟨b,0+j*k,none⟩ (λq u p=>by have f:=Gb e.cells l j _ hi q u p;rw [Od,hs.boxc g];simpa using f)
 have c:=hs.ev s;generalize enc (l.getD j d)=r at h ⊢;generalize (⟨b,0+j*k,none⟩:Addr)=v at h c;simp [execOp,n,c,Instr.loadAt,Instr.sureAddr,h]
theorem t_sbe (i:Nat)(j:Nat)(k:Nat) {α:Type}      {enc:α->Value} {l:List α} (z:α) {w0:World}  (q:o.op= .store t x y) (n:o.dst=none)
  (v:ev env x=some (.pointer (some ⟨b,0+j*k,none⟩))) (w:ev env y=some (enc z)) (h:lk H i=some (box b tb (cellsOf enc l).toArray)) (a:Enc P t k enc) (f:j<l.length)
  (g:lk H 0=some (Zy w0 M0)) (s:∀b,w0.heap.size<=b->sc b) (m:M b) (c:i≠0:=by decide) :
  T P N sc M o env H (G:=Unit) (λ_=>True) (λ_=>env) (λ_=>(i,box b tb (cellsOf enc (l.set j z)).toArray)::H):=by
 have p:=Xd a.cells l;have e:(enc z).cells.toList.length=k:=by simp [a.cells]
 have d:(j+1)*k<=l.length*k:=aP _ f;rw [eT]at d;refine Zh4 (vs:=(enc z).cells.toList) q n v w h c rfl a.size e (by rw [e,lX,p];omega) (λu r=>Zj (a.one z u r)) ?_ g s m;unfold Gv;rw [cE,e,Zc6 a.cells l j z f]
end Go.Sky
namespace Go.Sky
variable{o:Oper}{x:Operand}{t tb te:TypeId}{M M0:Nat->Prop}{cs:Array Value}
variable {P:Program} {N:Nat} {sc:Nat->Prop} {env env':Qm} {H H':Hp} {Q Q':Exit->Act->World->Prop}
theorem d_lea{α:Type}{i b k q:Nat}{enc:α->Value}{l:List α}(f:o.op= .load t x)(j:ev env x=some (.pointer (some ⟨b,0,none⟩)))(a:lk H i=some (box b tb (cellsOf enc l).toArray))(c:Enc P te q enc)(g:∀w,(isAgg t).run P w= .ok true w)(d:∀w,(sizeOf t).run P w= .ok k w)(e:l.length*q=k) :
  Mu P N sc o env H (.agg (cellsOf enc l).toArray):=
 Yad (vs:=cellsOf enc l) f j a g d (by rw [Xd c.cells l];exact e) (λn u h=>by rw [cE];simpa using h)
theorem t_sea {α:Type}   {y:Operand}  {i b k q:Nat}  {enc:α->Value} {l:List α} {w0:World}  (r:o.op= .store t x y) (m:o.dst=none)
  (v:ev env x=some (.pointer (some ⟨b,0,none⟩))) (B:ev env y=some (.agg (cellsOf enc l).toArray)) (g:lk H i=some (box b tb cs)) (d:Enc P te q enc) (n:∀w,(sizeOf t).run P w= .ok k w) (p:l.length*q=k) (j:cs.size=k)
  (f:lk H 0=some (Zy w0 M0)) (s:∀b,w0.heap.size<=b->sc b) (h:M b) (a:i≠0:=by decide) :
  T P N sc M o env H (G:=Unit) (λ_=>True) (λ_=>env) (λ_=>(i,box b tb (cellsOf enc l).toArray)::H):=by
 have c:(cellsOf enc l).length=k:=by rw [Xd d.cells l];exact p
 refine Zh4 (vs:=cellsOf enc l) r m v B g a rfl n c (by rw [c,cE,j];exact aI _) (λu e=>?_) (by unfold Gv;rw [fT,kI,cE,List.drop_eq_nil_of_le O10,iE]) f s h
 unfold cellsOf at e;obtain⟨z,_,D⟩:=gT.1 e;exact Zj (d.one z u D)
end Go.Sky
namespace Go.Sky
variable {P:Program} {N:Nat} {sc:Nat->Prop} {env env':Qm} {H H':Hp} {Q Q':Exit->Act->World->Prop}
abbrev Ze:=(Int×Int×Int)×(SL×List Int)×(SL×List Int)×(SL×List Int)
abbrev Pj (g:Ze):Value:= .agg #[.int .i64 g.1.1,.int .i64 g.1.2.1,.int .i64 g.1.2.2,Yr g.2.1.1,Yr g.2.2.1.1,Yr g.2.2.2.1]
abbrev qC (z:SL×List Int):Pc:=Yn 1 Xi (Yr z.1) z.2
abbrev qG (g:Ze):Pc:=Hi qC [g.2.1,g.2.2.1,g.2.2.2]
abbrev G0:Ze:=((0,0,0),((none,0,0),[]),((none,0,0),[]),((none,0,0),[]))
def Gt (g:Ze)(z:SL×List Int){v:Value}{ps:List Ze}(j n:Nat)(i:lk H j=some (Xl 6 Pj qG v ps))(c:Nat.beq j 0=false)(d:g∈ps)(e:z∈[g.2.1,g.2.2.1,g.2.2.2]):∀a w,Sat N sc env H a w->Sat N sc env ((n,Yn 1 Xi (Yr z.1) z.2)::H) a w:=
 Zce j n i c rfl (λw h=>h.2 g d z e) (λb f=> .inr ⟨g,d,z,e,f⟩) rfl
end Go.Sky
namespace Go.Sky
variable{x c z y:List Int}{i:Nat}{over ov:Int}
theorem Er{x:Int}(h:My x):bl x.natAbs<=64:=(Qt 64 _).2 (by obtain⟨a,b⟩:=h;omega)
theorem in_bl{x:Int}(h:bl x.natAbs<=63):My x:=by have:=(Qt 63 x.natAbs).1 h;exact⟨O,O⟩
theorem bl_pw{n:Int}(h:bl n.natAbs<=100)(hi:i<=10):bl (n^i).natAbs<=1000:=by
 rcases aX i with a|a
 .subst a;rw [eJ];decide
 .exact aB (Bg n h i a) (by have:=aP 100 hi;omega)
def Ax:List Int->Int
 | []=>1
 | x::r=>x*Ax r
def zc6_eq:(Value.agg (List.replicate 36 (Value.int .i64 0)).toArray).cells=Ah (List.replicate 36 0):=rfl
def Zra:(Value.agg (List.replicate 36 (Value.int .i64 0)).toArray).cells.size=36:=rfl
def w60(n j k:Nat):Int:=60/(Of n k:Int)*(Of j k:Int)
def ctl(c:List Int)(j m:Nat):Int:=Yh (λk=>c.getD k 0*w60 (c.length-1) j k) m
def Yiz(c:List Int)(j m:Nat):ctl c j (m+1)=ctl c j m+c.getD m 0*w60 (c.length-1) j m:=rfl
theorem Zqs:∀{n k:Nat},k<=n->0<Of n k
 | n,0,_=>by cases n<;>exact Nat.one_pos
 | n+1,k+1,h=>by have:=Zqs (n:=n) (k:=k) O;show 0<Of n k+Of n (k+1);omega
theorem Ydk (n:Nat)(k:Nat){j:Nat}(d:j<=5):0<=w60 n j k/\w60 n j k<=1920:=by have e:=Zw1 k d;unfold w60;have a:(0:Int)<=60/(Of n k:Int):=jB O3 O;have b:(60:Int)/(Of n k:Int)<=60:=iT _ O3;refine⟨cM a O,?_⟩;have:=jO b (show(Of j k:Int)<=32 by omega) O O3;omega
theorem Zw8 (k:Nat){n j:Nat}(a:j<=5):bl (w60 n j k).natAbs<=11:=by have:=Ydk n k a;exact(Qt 11 _).2 O
theorem Fc(h:∀x∈c,My x)(k:Nat):My (c.getD k 0):=by
 by_cases a:k<c.length
 .exact h _ (Zl a)
 .rw [aN,cS O];exact⟨O3,O3⟩
theorem Yjo(h:∀x∈c,My x){j m:Nat}(a:j<=5)(b:m<=31):bl (ctl c j m).natAbs<=80:=
 Zjj (K:=75) (λk _=>by have d:=Er (Fc h k);have e:=Zw8 k (n:=c.length-1) a;have:=Xx (c.getD k 0) (w60 (c.length-1) j k);omega) b
def Zhv(c:List Int)(over:Int):Bool:=(List.range c.length).all λj=>decide ((ctl c j (j+1)).natAbs<=62914560*over)
theorem Zqz(h:∀j,j<c.length->((ctl c j (j+1)).natAbs:Int)<=62914560*over):Zhv c over=true:=by unfold Zhv;rw [aZ];intro j a;exact aD (h j (cP.1 a))
theorem bndB_f{j:Nat}(a:j<c.length)(h:¬((ctl c j (j+1)).natAbs:Int)<=62914560*over):Zhv c over=false:=by
 cases hb:Zhv c over with
 | false=>rfl
 | true=>
  unfold Zhv at hb;rw [aZ]at hb;exact absurd (bQ (hb j (cP.2 a))) h
theorem wc_abs{s:Int}:(#[.bool false,.string (Xo s.natAbs)]:Array Value)=wc (s.natAbs:Int):=by have:decide (((s.natAbs:Nat):Int)<0)=false:=aE O;rw [show wc (s.natAbs:Int)=#[.bool (decide (((s.natAbs:Nat):Int)<0)),.string (Xo ((s.natAbs:Nat):Int).natAbs)]from rfl,this,eG]
theorem sgp{z:Int}:0<z.sign↔0<z:=by simpa using Zbi z
def axB(c:List Int)(over:Int):Bool:=decide (1<=c.length) && decide (c.length<=6) && !(decide (1<c.length) && decide (c.getD (c.length-1) 0=0)) && Zhv c over
def Lo(g:Int):List Int->Int
 | []=>g
 | x::r=>Lo (Int.gcd g x) r
theorem Ch:∀(a b:List Int) (g:Int),Lo g (a ++ b)=Lo (Lo g a) b
 | [],_,_=>rfl
 | x::a,b,g=>Ch a b _
theorem Zhr{l:List Int}{g:Int}(h:i<l.length):Lo g (l.take (i+1))=(Int.gcd (Lo g (l.take i)) (l.getD i 0):Int):=by rw [Pw 0 _ _ h,Ch];rfl
theorem Zgt:∀{l:List Int} {g:Int} {m:Nat},(∀x∈l,bl x.natAbs<=m)->bl g.natAbs<=m->bl (Lo g l).natAbs<=m
 | [],_,_,_,h=>h
 | x::l,g,m,h,hg=>Zgt (l:=l) (λy a=>h y (bN _ a)) (aB (Zq1 g x) (by have:=h x (bX ..);omega))
abbrev Cs:=List Int×List Int×List Int
def Zvc(fr a ov:Int):Bool:=decide (0<=fr) && decide (fr<a) && decide (a<=3600000) && decide (1<=ov) && decide (ov<=4294967296)
def Zar(fr a ov:Int)(x y z:List Int):Bool:=Zvc fr a ov && axB x ov && axB y ov && axB z ov && decide (Lo ov (x ++ y ++ z)=1)
def Im(i:Nat)(x y z:List Int):List Int:=match i with
 | 0=>[]
 | 1=>x
 | 2=>x ++ y
 | _=>x ++ y ++ z
theorem Zcr(x y z:List Int)(h:i<3):Im (i+1) x y z=Im i x y z ++ Yi i x y z:=by
 match i,h with
 | 0,_=>rfl
 | 1,_=>rfl
 | 2,_=>rfl
theorem Zj9 (i:Nat){fr a:Int}(h:axB (Yi i x y z) ov=false):Zar fr a ov x y z=false:=by unfold Zar;revert h;unfold Yi;split<;>intro h<;>simp [h]
theorem Zjy{fr a:Int}(h:¬(0<=fr/\fr<a/\a<=3600000/\1<=ov/\ov<=4294967296)):Zar fr a ov x y z=false:=by
 cases hb:Zar fr a ov x y z with
 | false=>rfl
 | true=>
  unfold Zar Zvc at hb;simp only [aQ,cT]at hb;exact absurd O h
theorem Zuz(h:1<=c.length->c.length<=6->¬(1<c.length/\c.getD (c.length-1) 0=0)->Zhv c ov=true->False):axB c ov=false:=by
 cases hb:axB c ov with
 | false=>rfl
 | true=>
  unfold axB at hb;simp only [aQ,fN,iS,cT,fU]at hb;exact(h hb.1.1.1 hb.1.1.2 (λb=>by rcases hb.1.2 with a|a;exact a b.1;exact a b.2) hb.2).elim
theorem Yj0(b:1<=c.length)(d:c.length<=6)(e:¬(1<c.length/\c.getD (c.length-1) 0=0))(f:Zhv c ov=true):axB c ov=true:=by
 unfold axB;simp only [aQ,fN,iS,cT,fU];refine⟨⟨⟨b,d⟩,?_⟩,f⟩;by_cases a:1<c.length
 .exact .inr λg=>e ⟨a,g⟩
 .exact .inl a
theorem segB_e{fr d:Int}(a:0<=fr/\fr<d/\d<=3600000/\1<=ov/\ov<=4294967296)(b:∀k,k<3->axB (Yi k x y z) ov=true):Zar fr d ov x y z=decide (Lo ov (Im 3 x y z)=1):=by have e:axB x ov=true:=b 0 O3;have f:axB y ov=true:=b 1 O3;have g:axB z ov=true:=b 2 O3;unfold Zar Zvc;rw [aD a.1,aD a.2.1,aD a.2.2.1,aD a.2.2.2.1,aD a.2.2.2.2,e,f,g];rfl
def Zac(b:∀a∈x,My a)(d:∀a∈y,My a)(e:∀a∈z,My a)(i:Nat):∀a∈Yi i x y z,My a:=Bo (p:=λl=>∀a∈l,My a) b d e
theorem bl_fc(d:∀a∈x,My a)(e:∀a∈y,My a)(f:∀a∈z,My a)(g:bl ov.natAbs<=64)(i k:Nat):bl (Lo (Lo ov (Im i x y z)) ((Yi i x y z).take k)).natAbs<=64:=by
 refine Zgt (λa b=>Er (Zac d e f i a (fP b))) (Zgt (λa b=>Er ?_) g);unfold Im at b;split at b
 .cases b
 .exact d a b
 .rcases cY.1 b with h|h
  .exact d a h
  .exact e a h
 .rcases cY.1 b with h|h
  .rcases cY.1 h with h|h
   .exact d a h
   .exact e a h
  .exact f a h
end Go.Sky

