/- Rules, arithmetic and contracts: part 4. No conditions but those that each theorem names. -/
import Derived.Test.YthennaflbbajkaaGreatAf02
import Derived.Scope
set_option linter.all false
namespace Go.Sky
variable{a b s c:List Int}
theorem Bl (k:Nat){f:Nat->Int} : ∀{n:Nat},k<n->(∀i,i<n->i≠k->f i=0)->Yf f n=f k
 | 0,d,_=>absurd d (bK _)
 | n+1,d,h=>by
  rw [Yr];by_cases e:k=n
  .subst e;rw [Fu λi hi=>h i O O,mB]
  .rw [h n O7 (λx=>e x.symm),Bl _ O (λi hi=>h i O),bL]
theorem Bv{p q:List Int}{a b:Nat}(e:∀i,a<i->cf p i=0)(f:∀i,b<i->cf q i=0):(ps p*ps q).c (a+b)=cf p a*cf q b:=by
 rw [PS.mul_c,Bl a O λi hi d=>?_]
 .grind [Lh]
 .rw [Lh,Lh];grind
theorem Zkr(s e:List Int)(c d:Int)(f:PS)(t:Nat):(ps (Zbk (Yy s c) (Yy e d))*f).c t=c*(ps s*f).c t-d*(ps e*f).c t:=by rw [PS.mul_c,PS.mul_c,PS.mul_c,<-Mi,cL,<-Int.neg_mul,<-Mi,<-Db];refine Xj λk _=>?_;rw [Lh,Lh,Lh,Zbv,Qn,Qn];grind
theorem Yl8{q r:List Int}(j:Tr q)(f:q≠[])(h:∀t,(ps s*ps q).c t=cf r t)(o:∀t,q.length-1<=t->cf r t=0):∀t,cf s t=0:=by
 have d:=j.mem f;have hs:tzl s=[]:=by
  rcases Zil _ with g|⟨u,y,g⟩
  .omega
  .have k:=Qp s;have e:tzl s≠[]:=O10;have l:=k.mem e;have m:=Bv (p:=tzl s) (q:=q) (a:=(tzl s).length-1) (b:=q.length-1) (λi hi=>Yw O) (λi hi=>Yw O);have n:ps _=ps s:=PS.ext' λi=>Hc s i;grind [Int.mul_eq_zero]
 grind [Kx]
theorem Ly(h:∀t,cf s t=0)(f:PS)(t:Nat):(ps s*f).c t=0:=by simp_all [PS.mul_c,Fu,Lh,cP]
theorem Nz{p q:List Int}(f:Tr p)(g:Tr q)(d:p≠[])(e:q≠[]):(Qx p q).length=p.length+q.length-1:=by have h:=aL.2 d;have j:=aL.2 e;unfold Qx;rw [Zam,Yz];right;rw [Yz,Ku,aO O,show p.length+q.length-1-1=(p.length-1)+(q.length-1) by omega,Bv (λi hi=>Yw O) (λi hi=>Yw O)];exact bD (f.mem d) (g.mem e)
def mono(s:Nat)(c:Int):List Int:=List.replicate s 0 ++ [c]
theorem Zi7(s:Nat)(c:Int)(i:Nat):cf (mono s c) i=if i=s then c else 0:=by
 unfold mono;rw [Znu];split
 .unfold cf;grind
 .split
  .rename_i d;subst d;simp [cf]
  grind [Yw]
theorem Zkt(s:Nat)(c:Int)(f:PS)(t:Nat):(ps (mono s c)*f).c t=if s<=t then c*f.c (t-s)else 0:=by
 rw [PS.mul_c];split
 .rw [Bl s O λi _ d=>by rw [Lh,Zi7,aJ d,cP],Lh,Zi7,aO rfl]
 .exact Fu λk e=>by rw [Lh,Zi7,aJ O,cP]
theorem Zg4{p q:List Int}(o:0<q.length)(n:q.length<=p.length):∀j,j<=p.length-q.length+1->∃s:List Int,∀t,cf q (q.length-1)^j*cf p t=(ps s*ps q).c t+cf (Ob p q j) t
 | 0,_=>⟨[],λt=>by rw [Ly (λt=>Yw (bH _))];unfold Ob;simp⟩
 | j+1,y=>by
  obtain⟨s,r⟩:=Zg4 o n j O;refine⟨Zbk (Yy s (cf q (q.length-1))) (Yy (mono (p.length-1-j-(q.length-1)) (cf (Ob p q j) (p.length-1-j))) (-1)),λt=>?_⟩;rw [Zkr,Zkt];have d:=r t;show _=_+cf (Zj5 q _ _) t;rw [eC];rcases aW t p.length with h|h
  .rw [Zuj (by grind [Lz])];generalize p.length-1-j-(q.length-1)=f;generalize cf (Ob p q j) t=k at d ⊢;generalize (ps s*ps q).c t=X at d ⊢;generalize cf q _^j=L at d ⊢;generalize cf q _=l at d ⊢;have e:L*l*cf p t=l*X+k*l:=O4;rw [e];by_cases m:f<=t
   .rw [aO m,Lh];by_cases x:t<f+q.length
    .omega
    .rw [Yw (p:=q) (i:=t-_) O];simp
   omega
  .have g:=Yw h;have u:cf (Ob p q j) t=0:=Yw (by grind [Lz]);have v:cf (Zj5 q (Ob p q j) (p.length-1-j)) t=0:=Yw (by grind [Zf3,Lz]);have w:cf q (t-(p.length-1-j-(q.length-1)))=0:=Yw O;rw [g,u,bL]at d;rw [g,v,Lh,w,<-d];simp
theorem Zav(p:List Int){q:List Int}(e:q≠[]):∃(k:Nat) (s:List Int),∀t,cf q (q.length-1)^k*cf p t=(ps s*ps q).c t+cf (Qr p q) t:=by
 have d:=aL.2 e;rcases aW p.length q.length with h|h
 .refine⟨0,[],λt=>?_⟩;rw [Ly (λt=>Yw (bH _))];unfold Qr;grind
 .obtain⟨s,hs⟩:=Zg4 d h _ (aI _);refine⟨p.length-q.length+1,s,λt=>?_⟩;unfold Qr;simp_all [aJ,Hc]
theorem Pq(p:List Int){q:List Int}(e:q≠[]):(Qr p q).length<q.length:=by
 have d:=aL.2 e;unfold Qr;split
 .omega
 .have:=Zbb (p:=Ob p q _) λi hi=>Zj4 d O _ (aI _) i O;omega
theorem Ip{p q:List Int}(d:Tr p):Tr (Qr p q):=by unfold Qr;grind [Qp]
def Sim(a b:List Int):Prop:=∃m n:Int,m≠0/\n≠0/\∀i,m*cf a i=n*cf b i
def Sim.refl(a:List Int):Sim a a:=⟨1,1,O,O,λ_=>rfl⟩
def Sim.symm : Sim a b->Sim b a:=λ⟨m,n,d,e,h⟩=>⟨n,m,e,d,λi=>(h i).symm⟩
def Sim.trans : Sim a b->Sim b c->Sim a c:=λ⟨m,n,d,e,h⟩ ⟨u,v,f,g,k⟩=>
 ⟨m*u,n*v,bD d f,bD e g,λi=>O4⟩
theorem Sim.zero(h:Sim a b){i:Nat}(hi:cf a i=0):cf b i=0:=by obtain⟨m,n,d,e,h⟩:=h;grind [Int.mul_eq_zero]
theorem Sim.len_le(h:Sim a b)(e:Tr b):b.length<=a.length:=by
 rcases aW a.length b.length with f|f
 .exfalso;have d:b≠[]:=aL.1 O;exact e.mem d (h.zero (Yw O))
 omega
def Sim.len(h:Sim a b)(d:Tr a)(e:Tr b):a.length=b.length:=iX (h.symm.len_le d) (h.len_le e)
theorem Sim.nil(h:Sim a b)(d:Tr b)(e:a=[]):b=[]:=by have:=h.len_le d;simp_all
theorem Zb0(c:Int):∀(p:List Int) (g:Int),0<=g->(p.map (· * c)).foldl (λg c=>(Int.gcd g c:Int)) (g*c.natAbs)=p.foldl (λg c=>(Int.gcd g c:Int)) g*c.natAbs
 | [],g,_=>rfl
 | x::p,g,hg=>by
  rw [cI,gC,gC,<-Zb0 c p _ O7];congr 1;have:Int.gcd (g*(c.natAbs)) (x*c)=Int.gcd g x*c.natAbs:=by unfold Int.gcd;grind [Int.natAbs_mul,Int.natAbs_natCast,Nat.gcd_mul_right]
  omega
theorem Zg9(p:List Int)(c:Int):Xs (p.map (· * c))=Xs p*c.natAbs:=by have:=Zb0 c p 0 (eV _);rw [cP]at this;exact this
theorem Fl(p:List Int)(i:Nat):cf (Yu p) i*Xs p=cf p i:=by grind [Zc0,Int.ediv_mul_cancel,Ko]
theorem Ybq:Yu []=[]:=rfl
theorem Zay{p:List Int}(h:Tr p)(d:p≠[]):Xs p≠0:=λe=>h.mem d ((Zch p).1 e _)
theorem Hs{p:List Int}(h:Tr p)(d:p≠[]):Xs (Yu p)=1:=by
 have f:=Zay h d;have e:=Zg9 (Yu p) (Xs p);rw [show(Yu p).map _=p from Kr (by rw [bJ,Yo]) λi _=>by grind [Ze2,Fl]]at e;have g:=Mw p;have j:Xs p*(Xs (Yu p)-1)=0:=by grind
 all_goals grind [Int.mul_eq_zero]
theorem Zfo{p:List Int}(h:Xs p=1):Yu p=p:=Kr (Yo p) λi _=>by rw [Zc0,h,mC]
theorem Zeo{p:List Int}(h:Tr p):Yu (Yu p)=Yu p:=by
 by_cases d:p=[]
 .subst d;rfl
 grind [Zfo,Hs]
theorem Qu{p:List Int}(h:Tr p):Sim (Yu p) p:=by
 by_cases d:p=[]
 .subst d;exact Sim.refl _
 .exact⟨Xs p,1,Zay h d,O,λi=>by grind [Fl]⟩
def Xr(p:List Int):List Int:=Hy (Yu p)
theorem Zrr{x y:List Int}(o:Tr x)(p:Tr y)(q:x≠[])(d:Xs x=1)(f:Xs y=1)(h:Sim x y):x=y\/∀i,cf x i=- cf y i:=by
 have r:=h.len o p;obtain⟨m,n,t,l,e⟩:=h;have g:=Zg9 x m;have j:=Zg9 y n;rw [show x.map _=y.map (· * n)from Kr O4 λi _=>by grind [Ze2,Int.mul_comm],j,d,f]at g
 have k:m=n\/m=-n:=O;rcases k with rfl|rfl
 .grind [Kr,Int.eq_of_mul_eq_mul_left]
 .exact .inr λi=>iA l O4
theorem Bz(g:List Int)(i:Nat):cf (Hy g) i=if g.length≠0/\cf g (g.length-1)<0 then-cf g i else cf g i:=by unfold Hy;grind [Qn]
theorem Nw{g:List Int}(h:Tr g):Tr (Hy g):=by unfold Hy;grind [Nq]
theorem Iy(g:List Int):Sim (Hy g) g:=by
 by_cases h:g.length≠0/\cf g (g.length-1)<0
 .exact⟨-1,1,O,O,λi=>by simp_all [Bz,aO]⟩
 .exact⟨1,1,O,O,λi=>by rw [Bz,aJ h]⟩
theorem Ztq:∀(f:Nat) {a b:List Int},Tr a->Tr b->Tr (eu f a b)
 | 0,_,_,h,_=>h
 | f+1,a,b,d,e=>by
  unfold eu;split
  .exact d
  .exact Ztq f e (Xg (Ip d))
theorem Zzs:∀(f:Nat) {a b:List Int},Tr a->Tr b->Yu a=a->Yu b=b->Yu (eu f a b)=eu f a b
 | 0,_,_,_,_,h,_=>h
 | f+1,a,b,d,i,e,g=>by
  unfold eu;split
  .exact e
  .exact Zzs f i (Xg (Ip d)) g (Zeo (Ip d))
theorem Zjp{p q:List Int}(d:Tr p)(e:Tr q):Tr (gA p q):=by unfold gA;all_goals grind [Xg]
theorem Zjo{p q:List Int}(d:Tr p)(e:Tr q):Tr (gB p q):=by unfold gB;all_goals grind [Xg]
theorem Yfg{F:Nat}{p q:List Int}(d:Tr p)(e:Tr q):Mt F p q=Xr (eu F (gA p q) (gB p q)):=by
 unfold Mt Xr;rw [Zzs F (Zjp d e) (Zjo d e)]
 .unfold gA;grind [Zeo]
 .unfold gB;grind [Zeo]
def chk:Nat->Nat->Nat->Nat->Nat->Bool
 | 0,_,d,_,_=>Nat.beq d 0
 | f+1,e,d,A,B=>Nat.beq d 0 || (bif Nat.blt e d then chk f d e B A else
   Nat.ble (A+(e-d+1)*B) 65537 && (List.range d).all λl=>chk f d l B (bif Nat.ble l 1 then 2 else A+(e-d+1)*B))
theorem cp_nf{p:List Int}{x y z:Int}{n m:Nat}(d:Sz n p)(j:bl x.natAbs<=m)(k:bl y.natAbs<=m)(l:bl z.natAbs<=m)(i:p.length<=25)(h:n+24*(m+1)+8<=65536):Pb p+(p.length-1)*(Pb [x,y,z]+1)+8<=65536:=by
 have e:=Oc d;have f:Pb [x,y,z]<=m:=by simp only [Pb];omega
 have g:(p.length-1)*(Pb [x,y,z]+1)<=24*(m+1):=aS O O;omega
theorem cp_not{p:List Int}{x y z:Int}(h:Pb p+(p.length-1)*(Pb [x,y,z]+1)+8<=65536):¬Zlo p x y z:=λd=>by have:=d.2;omega
theorem Zet(p:List Int)(x y z:Int):(Kp p x y z).length<=p.length:=by
 unfold Kp;split
 .simp
 grind [Nat.le_trans,Hm,Zcm]
theorem Zs1(x y:Int):Lf x y∣x:=by
 unfold Lf;split
 all_goals grind [Int.neg_dvd,Int.gcd_dvd_left]
theorem Zs0(x y:Int):Lf x y∣y:=by
 unfold Lf;split
 all_goals grind [Int.neg_dvd,Int.gcd_dvd_right]
def s8(l:List Int):Prop:=∀x∈l,(Xn x.natAbs).size<=8
abbrev Z0:SL×List Int:=((none,0,0),[])
theorem vp_eu:∀(f:Nat) {a b:List Int},Vp a->Vp b->eok f a b->Vp (eu f a b)
 | 0,_,_,h,_,_=>h
 | f+1,a,b,d,e,h=>by
  unfold eu;split
  .exact d
  .rcases h with h|h
   .contradiction
   .exact vp_eu f e (Im (Zb6 d h.1)) h.2
theorem Ydc{g:List Int}(h:Vp g):Vp (Hy g):=by
 unfold Hy;split
 .refine⟨λi=>by rw [Qn];exact Zbw h.sz i,Nq _ _,aB Lv h.len⟩
 omega
def Ykh{F:Nat}{p q:List Int}(d:Vp p)(e:Vp q)(h:eok F (gA p q) (gB p q)):Vp (Mt F p q):=Ydc (vp_eu F (vp_gA d e) (vp_gB d e) h)
def pevn(p:List Int)(x y:Int)(n:Nat):Int:=Yf (λi=>cf p i*(x^i*y^(n-1-i))) n
def dn(p:List Int)(y:Int):Int:=y^(p.length-1)
theorem Dd(q:List Int):Qx [] q=[]:=Zfq (.inl rfl)
theorem Zeq(p:List Int):Qx p []=[]:=Zfq (.inr rfl)
theorem Ygh(N D:Int):N/Lf N D*D=N*(D/Lf N D):=by grind [Int.ediv_mul_cancel,Zs1,Zs0]
theorem Yb5{N D:Int}(h:0<D):0<D/Lf N D:=by
 have f:Lf N D=(Int.gcd N D):=aJ O;have g:=lD (Zs0 N D);rw [f]at g ⊢;generalize D/(Int.gcd N D)=d at *;rcases iO 0 d with e|e
 .omega
 .have:d*(Int.gcd N D)<=0:=fH e O7;omega
section
variable {p q:List Int}
theorem Zey(l:Tr p)(f:Tr q)(h:p≠[])(d:q≠[]):∀j,j<=p.length->∀t,cf (Ph (Qx p q) q j) t=(ps (p.take (p.length-j))*ps q).c t
 | 0,_,t=>by rw [iP,cE];exact Gj p q t
 | j+1,y,t=>by
  have n:=Zey l f h d j O;have z:=aL.2 d;have v:=Nz l f h d;have r:Ph (Qx p q) q (j+1)=Znk q (Ph (Qx p q) q j) (p.length-1-j):=by show Znk q _ _=_;grind
  have w:=f.mem d;have m:cf (Ph (Qx p q) q j) (p.length-1-j+q.length-1)=cf p (p.length-1-j)*cf q (q.length-1):=by rw [n,show p.length-1-j+q.length-1=(p.length-1-j)+(q.length-1) by omega,Bv (λi hi=>by rw [Ek,aJ O]) (λi hi=>Yw O),Ek,aO O]
  have e:dq q (Ph (Qx p q) q j) (p.length-1-j)=cf p (p.length-1-j):=by unfold dq;simp_all
  have u:(ps (p.take (p.length-j))*ps q).c t=(ps (p.take (p.length-(j+1)))*ps q).c t+(ps (mono (p.length-1-j) (cf p (p.length-1-j)))*ps q).c t:=by rw [PS.mul_c,PS.mul_c,PS.mul_c,<-Db];refine Xj λk _=>?_;rw [Lh,Lh,Lh,Lh,Ek,Ek,Zi7];grind
  rw [r];unfold Znk;rw [Ku,Zar,v,e,n,u,Zkt,Lh];by_cases g:t<p.length+q.length-1
  .rw [aO g];by_cases o:p.length-1-j<=t
   .rw [aO o];by_cases x:t<p.length-1-j+q.length
    .omega
    .rw [Yw (p:=q) O];simp
   omega
  .rw [aJ g,PS.mul_c];refine(Fu λk _=>?_).symm;rw [Lh,Lh,Ek];split
   .rw [Yw (p:=q) O,dZ]
   omega
theorem Zyi(f:Tr p)(g:Tr q)(e:q≠[]):pdv (Qx p q) q/\He (Qx p q) q=p:=by
 by_cases d:p=[]
 .subst d;rw [Dd];exact⟨.inl rfl,rfl⟩
 have r:=aL.2 d;have t:=aL.2 e;have o:=Nz f g d e;have m:=g.mem e;have n:∀k,k<=p.length-1->cf (Ph _ q (p.length-1-k)) (k+q.length-1)=cf p k*cf q _:=λk j=>by rw [Zey f g d e _ O,show k+q.length-1=k+(q.length-1) by omega,Bv (λi hi=>by rw [Ek,aJ O]) (λi hi=>Yw O),Ek,aO O]
 have l:(Qx p q).length-q.length=p.length-1:=O;have h:Qx p q≠[]:=aL.1 O;refine⟨.inr ⟨O,λk j=>?_,?_⟩,?_⟩
 .unfold Hb;simp_all
 .rw [l,show p.length-1+1=p.length by omega];refine(Kx _).2 λi=>?_;rw [Zey f g d e _ (aI _),jE];simp [Ly,Yw,bH]
 .rw [Zse h];unfold Ye8;rw [l,show p.length-1+1=p.length by omega,Bs λk j=>?_,Ziu,Zam f];unfold Zz7 dq;grind [Int.mul_ediv_cancel]
end
def Dv(g a:List Int):Prop:=∃(k:Int) (s:List Int),k≠0/\∀t,k*cf a t=(ps s*ps g).c t
theorem Zso(f:PS)(t:Nat):(ps [1]*f).c t=f.c t:=by rw [PS.mul_c,Bl 0 O7 λi _ d=>by rw [Lh,Yw O4,cP],Lh,show cf [1] 0=1 from rfl,iG,iP]
theorem Dv.refl(a:List Int):Dv a a:=⟨1,[1],O,λt=>by rw [Zso,iG,Lh]⟩
theorem Dv.nil(g:List Int):Dv g []:=⟨1,[],O,λt=>by simp [Ly,Yw,bH]⟩
theorem Dv.sim{g:List Int} : Dv g a->Sim a b->Dv g b:=λ⟨k,s,d,h⟩ ⟨m,n,j,f,e⟩=>
 ⟨k*n,Yy s m,bD d f,λt=>by rw [PS.mul_c,show(λi=>(ps _).c i*(ps g).c _)=λi=>m*((ps s).c i*(ps g).c (t-i))from mR λi=>by grind [Lh,Qn],Mi,<-PS.mul_c];grind⟩
theorem Dv.lin{g:List Int}(e:Dv g a)(f:Dv g b)(s:List Int)(L:Int)(d:L≠0)(h:∀t,L*cf c t=(ps s*ps a).c t+cf b t):Dv g c:=by
 obtain⟨k,u,j,r⟩:=e;obtain⟨m,v,l,w⟩:=f;refine⟨L*(k*m),Zci (Yy (Qx s u) m) (Yy v k),bD d (bD j l),λt=>?_⟩;have n:k*(ps s*ps a).c t=(ps (Qx s u)*ps g).c t:=by rw [Ylq,PS.mul_assoc',PS.mul_c,PS.mul_c,<-Mi];grind [Xj,Lh]
 have o:(ps (Zci (Yy (Qx s u) m) (Yy v k))*ps g).c t=m*(ps (Qx s u)*ps g).c t+k*(ps v*ps g).c t:=by rw [PS.mul_c,PS.mul_c,PS.mul_c,<-Mi,<-Mi,<-Db];refine Xj λi _=>?_;rw [Lh,Lh,Lh,Lh,Yan,Qn,Qn];grind
 grind
theorem eu_dv:∀(f:Nat) {a b:List Int},Tr a->Tr b->eok f a b->Dv (eu f a b) a/\Dv (eu f a b) b
 | 0,a,b,j,d,h=>by rw [show b=[]from h];exact⟨Dv.refl _,Dv.nil _⟩
 | f+1,a,b,j,d,h=>by
  by_cases i:b=[]
  .grind [Zlg,Dv.refl,Dv.nil]
  .rcases h with h|h
   .grind
   .have e:eu (f+1) a b=eu f b (Yu (Qr a b)):=by
     conv=>lhs;unfold eu
     grind
    rw [e];have t1:=Ip (q:=b) j;obtain⟨g,l⟩:=eu_dv f d (Xg t1) h.2;obtain⟨k,s,hs⟩:=Zav a i;exact⟨g.lin (l.sim (Qu t1)) s _ (Ii (d.mem i) k) hs,g⟩
theorem Dv.of_sim{g d:List Int} : Dv g a->Sim g d->Dv d a:=λ⟨k,s,f,h⟩ ⟨m,n,i,j,e⟩=>
 ⟨m*k,Yy s n,bD i f,λt=>by grind [Int.mul_assoc,PS.mul_c,Mi,Xj,Lh,Qn]⟩
theorem Dv.zero(e:Tr a)(h:Dv [] a):a=[]:=by obtain⟨k,s,f,h⟩:=h;rw [<-Zam e,Kx];intro i;have d:=h i;rw [PS.mul_comm',Ly (λt=>Yw (bH _))]at d;grind [Int.mul_eq_zero]
theorem Zde{F:Nat}{p q:List Int}(g:Tr p)(i:Tr q)(h:eok F (gA p q) (gB p q)):Dv (Mt F p q) p/\Dv (Mt F p q) q:=by
 have j:=Zjp g i;have k:=Zjo g i;obtain⟨d,e⟩:=eu_dv F j k h;have hs:Sim _ (Mt F p q):=(Iy _).symm;have d:=d.of_sim hs;have e:=e.of_sim hs;by_cases f:p.length<q.length
 .rw [show gA p q=Yu q from aO f]at d;rw [show gB p q=Yu p from aO f]at e;exact⟨e.sim (Qu g),d.sim (Qu i)⟩
 .rw [show gA p q=Yu p from aJ f]at d;rw [show gB p q=Yu q from aJ f]at e;exact⟨d.sim (Qu g),e.sim (Qu i)⟩
def Zfc (F:Nat){p q:List Int}(d:Tr p)(e:Tr q):Tr (Mt F p q):=Nw (Ztq F (Zjp d e) (Zjo d e))
theorem Zvc{p:List Int}{c:Int}(h:c≠0):Sim p (Yy p c):=⟨c,1,h,O,λi=>by grind [Qn]⟩
def fin8(d A:Nat):Bool:=Nat.ble d 2 || Nat.ble (64+(9-d)*A) 65536
def chk2:Nat->Nat->Nat->Nat->Nat->Bool
 | 0,d,_,A,_=>fin8 d A
 | f+1,d,e,A,B=>bif Nat.beq e 0 then fin8 d A else bif Nat.blt d e then chk2 f e d B A else
   (List.range e).all λl=>chk2 f e l B (bif Nat.ble l 1 then 2 else A+(d-e+1)*B)
theorem Zbo{g:List Int}(h:Tr g):(Hy g).length=g.length:=(Iy g).len (Nw h) h
theorem Zh2(g:List Int):Xs (Hy g)=Xs g:=by
 have d:Xs (Hy g)∣Xs g:=Di λi=>by
  have h:=Ko (Hy g) i;rw [Bz]at h;split at h
  all_goals simp_all
 have e:Xs g∣Xs (Hy g):=Di λi=>by
  rw [Bz];split
  all_goals grind [Int.dvd_neg,Ko]
 exact Int.dvd_antisymm (Mw _) (Mw _) d e
theorem Zkh{F:Nat}{p q:List Int}(f:Tr p)(g:Tr q)(d:Mt F p q≠[]):Xs (Mt F p q)=1:=by rw [Yfg f g]at d ⊢;unfold Xr at d ⊢;rw [Zh2];refine Hs (Ztq F (Zjp f g) (Zjo f g)) λe=>d ?_;rw [e];rfl
end Go.Sky
namespace Go.Sky
variable{a b p x y xs:List Int}{i:Nat}{s:Int}{ls:List (SL×List Int)}
def Zau(xs:List Int):Prop:=xs.length=0\/(xs.length+2)*(xs.length+2)*(Pb xs+16)<=65536
instance (xs:List Int):Decidable (Zau xs):=by unfold Zau;infer_instance
def sqf(F:Nat)(xs:List Int):List Int:=He (Xr xs) (Mt F (Xr xs) (Xd (Xr xs)))
def Yk1(F:Nat)(xs:List Int):Prop:=(∀i,i<xs.length->bl (cf (Xr xs) (i+1)*((i:Int)+1)).natAbs<=65536)/\¬Znf (Xr xs) (Xd (Xr xs))/\eok F (gA (Xr xs) (Xd (Xr xs))) (gB (Xr xs) (Xd (Xr xs)))/\
 Bc (Xr xs) (Mt F (Xr xs) (Xd (Xr xs)))=0/\pdv (Xr xs) (Mt F (Xr xs) (Xd (Xr xs)))
def Mj(x y:List Int):List Int:=if cf y (y.length-1)<0/\(x.length-y.length+1)%2=1 then Yu (Qr x y)else Yy (Yu (Qr x y)) (-1)
def cok:Nat->List Int->List Int->Prop
 | 0,_,y=>y=[]
 | f+1,x,y=>y=[]\/(Bc x y=0/\y.length<=x.length/\cok f y (Mj x y))
def Mr:Nat->List Int->List Int->List (List Int)
 | 0,x,_=>[x]
 | f+1,x,y=>if y=[]then [x]else x::Mr f y (Mj x y)
theorem Bo(f:Nat)(x:List Int):Mr f x []=[x]:=by cases f<;>rfl
theorem Zlq{f:Nat}(h:cok f a b)(c:b≠[]):∃g,f=g+1/\Bc a b=0/\b.length<=a.length/\cok g b (Mj a b)/\Mr f a b=a::Mr g b (Mj a b):=by
 cases f with
 | zero=>exact absurd h c
 | succ g=>
  rcases h with h|h
  .exact absurd h c
  .exact⟨g,rfl,h.1,h.2.1,h.2.2,by show(if b=[]then [a]else _)=_;rw [aJ c]⟩
def chn(F:Nat)(xs:List Int):List (List Int):=Mr F (sqf F xs) (Yu (Xd (sqf F xs)))
def Ak(F:Nat)(xs:List Int):Prop:=Yk1 F xs/\(∀i,i<xs.length->bl (cf (sqf F xs) (i+1)*((i:Int)+1)).natAbs<=65536)/\cok F (sqf F xs) (Yu (Xd (sqf F xs)))
theorem Ydb(h:Vp p):Vp (Xr p):=by
 unfold Xr;have c:=Im h;refine⟨λi=>?_,Nw c.tr,by rw [Zbo c.tr];exact c.len⟩;rw [Bz];split
 .rw [gP];exact c.sz i
 .exact c.sz i
theorem Pn(h:Tr p):(Xr p).length=p.length:=by unfold Xr;rw [Zbo (Xg h),Yo]
theorem Zrc(d:Vp x)(c:Bc x y=0):Vp (Mj x y):=by
 have h:=Im (Zb6 d c);unfold Mj;split
 .exact h
 .exact⟨λi=>by rw [Qn];exact Zbw h.sz i,Nq _ _,aB Lv h.len⟩
def Me(s:Int×Int)(x:Int):Int×Int:=if x=0 then s else(if x=-s.2 then s.1+1 else s.1,x)
def chg(l:List Int):Int:=(l.foldl Me (0,0)).1
def Zev{α β:Type}(f:α->β->α)(a:α)(l:List β)(x:β):(l ++ [x]).foldl f a=f (l.foldl f a) x:=O7
theorem chg1_n(s:Int×Int)(x:Int):(Me s x).1=s.1\/(Me s x).1=s.1+1:=by
 unfold Me;split
 .exact .inl rfl
 .dsimp only;split
  .exact .inr rfl
  .exact .inl rfl
def sgs(ls:List (List Int))(x y:Int):List Int:=ls.map λp=>(pev p x y).sign
def sgr(ls:List (List Int)):List Int:=ls.map λp=>(cf p (p.length-1)).sign
def sgl(ls:List (List Int)):List Int:=ls.map λp=>if p.length%2=0 then-(cf p (p.length-1)).sign else(cf p (p.length-1)).sign
def smost(xs:List Int):Nat:=(xs.take (xs.length-1)).foldl (λm c=>max m c.natAbs) 0
def sbound(xs:List Int):Int:=((smost xs/(cf xs (xs.length-1)).natAbs:Nat):Int)+2
def Zwx(xs:List Int):Int:=if xs.length=0 then 3 else if Zau xs then 0 else 7
def ef(z:Int×Int):Bool:=decide (512<bl z.1.natAbs) || decide (512<bl z.2.natAbs)
def chk2r(xs:List Int)(x y c d:Int):Int:=if xs.length=0 then 3 else if 0<x*d-c*y then 3 else if Zau xs/\ef (x,y)=false/\ef (c,d)=false then 0 else 7
theorem Yn6(c:xs≠[])(h:Zau xs):Zwx xs=0:=by unfold Zwx;rw [aJ (λe=>c (aH e)),aO h]
theorem Zyt(h:¬cf (Yu xs) ((Yu xs).length-1)<0):Xr xs=Yu xs:=by unfold Xr Hy;rw [aJ O]
theorem Zyu(c:(Yu xs).length≠0)(h:cf (Yu xs) ((Yu xs).length-1)<0):Xr xs=Yy (Yu xs) (-1):=by unfold Xr Hy;rw [aO ⟨c,h⟩]
theorem Zew (P:Nat->Prop) : ∀n,P n->∃m,P m/\∀k,k<m->¬P k:=by
 intro n
 induction n using Nat.strongRecOn with
 | _ n f=>
  intro h;by_cases e:∃k,k<n/\P k
  .obtain⟨k,d,c⟩:=e;exact f k d c
  .exact⟨n,h,λk d c=>e ⟨k,d,c⟩⟩
theorem Yb7{n:Nat}(h:2<=n):∃p,2<=p/\p∣n/\∀d,2<=d->d∣n->p<=d:=by
 obtain⟨p,⟨f,g⟩,j⟩:=Zew (λd=>2<=d/\d∣n) n ⟨h,Nat.dvd_refl n⟩;exact⟨p,f,g,λd k e=>by
  rcases aW d p with c|c
  .exact absurd ⟨k,e⟩ (j d c)
  .exact c⟩
theorem Zs8{n p:Nat}(q:2<=p)(j:p∣n)(k:∀d,2<=d->d∣n->p<=d)(u:0<n){x y:Int}(h:(p:Int)∣x*y):(p:Int)∣x\/(p:Int)∣y:=by
 by_cases g:(p:Int)∣x
 .exact .inl g
 .right;have m:Nat.gcd p x.natAbs=1:=by
   have f:=Nat.gcd_dvd_left p x.natAbs;have o:0<Nat.gcd p x.natAbs:=Nat.gcd_pos_of_pos_left _ O;rcases aW (Nat.gcd p x.natAbs) 2 with c|c
   .omega
   .have r:=k _ c (Nat.dvd_trans f j);have t:=jY O f;exfalso;refine g (fK.1 ?_);rw [eH];have l:Nat.gcd p x.natAbs=p:=O;rw [<-l];exact Nat.gcd_dvd_right _ _
  have e:=fK.2 h;rw [eH,bQ]at e;refine fK.1 ?_;rw [eH];exact(show Nat.Coprime p x.natAbs from m).dvd_of_dvd_mul_left e
theorem gauss{g:List Int}(hg:Xs g=1):∀(n:Nat) (k:Int) (s:List Int),k.natAbs=n->k≠0->(∀t,k*cf a t=(ps s*ps g).c t)->∃q:List Int,∀t,cf a t=(ps q*ps g).c t:=by
 intro n
 induction n using Nat.strongRecOn with
 | _ n ih=>
  intro k s o S h;rcases aW n 2 with P|P
  .have G:k*k=1:=by have:k=1\/k=-1:=O;rcases this with e|e<;>subst e<;>rfl
   refine⟨Yy s k,λt=>?_⟩;have e:(ps (Yy s k)*ps g).c t=k*(ps s*ps g).c t:=by rw [PS.mul_c,PS.mul_c,<-Mi];exact Xj λi _=>by rw [Lh,Lh,Lh,Qn];grind
   rw [e,<-h,<-fR,G,iG]
  .obtain⟨p,V,W,pm⟩:=Yb7 P;have I:∀{x y:Int},(p:Int)∣x*y->(p:Int)∣x\/(p:Int)∣y:=Zs8 V W pm O;have r:(p:Int)∣k:=fK.1 (by rw [eH,o];exact W);have w:∃j,¬(p:Int)∣cf g j:=bC λu=>by have:(p:Int)∣Xs g:=Di λi=>bC λhy=>u ⟨i,hy⟩;rw [hg]at this;have:=lH O3 this;omega
   obtain⟨j0,D⟩:=w;obtain⟨j,hj,F⟩:=Zew (λj=>¬(p:Int)∣cf g j) j0 D;have hs:∀i,(p:Int)∣cf s i:=λi0=>bC λz=>by
    obtain⟨i,hi,B⟩:=Zew (λi=>¬(p:Int)∣cf s i) i0 z;have Q:=h (i+j);rw [PS.mul_c]at Q;have N:∀m,m<=i+j+1->(p:Int)∣Yf (λk=>if k=i then 0 else(ps s).c k*(ps g).c (i+j-k)) m:=λm=>by
     induction m with
     | zero=>intro _;exact jF _
     | succ m M=>
      intro hm;rw [Yr];refine Int.dvd_add (M O) ?_;split
      .exact jF _
      .rename_i a0;rw [Lh,Lh];rcases aW m i with v|v
       .exact fB (bC λu=>B m v u) (jU _ _)
       .exact fB (bC λu=>F (i+j-m) O u) (Int.dvd_mul_left _ _)
    have Y:Yf (λk=>(ps s).c k*(ps g).c (i+j-k)) (i+j+1)=Yf (λk=>if k=i then 0 else(ps s).c k*(ps g).c (i+j-k)) (i+j+1)+cf s i*cf g j:=by
     have Z:Yf (λk=>(ps s).c k*(ps g).c (i+j-k)) (i+j+1)=Yf (λk=>(if k=i then 0 else(ps s).c k*(ps g).c (i+j-k))+(if k=i then(ps s).c k*(ps g).c (i+j-k)else 0)) (i+j+1):=
      Xj λk _=>by split<;>omega
     rw [Z,Db,Bl i (f:=λk=>if k=i then(ps s).c k*(ps g).c (i+j-k)else 0) O (λq _ hq=>aJ hq),aO rfl,Lh,Lh,show i+j-i=j by omega]
    rw [Y]at Q;have v:(p:Int)∣cf s i*cf g j:=by have l:cf s i*cf g j=k*cf a (i+j)-Yf (λk=>if k=i then 0 else(ps s).c k*(ps g).c (i+j-k)) (i+j+1):=O;rw [l];exact Int.dvd_sub (fB r (jU _ _)) (N _ (aI _))
    rcases I v with l|l
    .exact hi l
    .exact hj l
   obtain⟨d,c⟩:=r;have H:(p:Int)≠0:=O;refine ih d.natAbs ?_ d (s.map (· / (p:Int))) rfl ?_ ?_
   .rw [<-o,c,bQ,eH];have:0<d.natAbs:=by
     rcases aX d.natAbs with R|R
     .rw [show d=0 by omega]at c;simp at c;exact absurd c S
     .exact R
    have:=aP d.natAbs V;omega
   .intro e;rw [e]at c;simp at c;exact S c
   .intro t;refine iA H ?_;rw [<-fR,<-c,h,PS.mul_c,PS.mul_c,<-Mi];refine Xj λi _=>?_;rw [Lh,Lh,Lh,Ze2 _ _ O7,<-fR,kX (hs i)]
def ev1:List Int->Int->Int
 | [],_=>0
 | c::r,t=>c+t*ev1 r t
def sdv:List Int->Int->List Int
 | [],_=>[]
 | [_],_=>[]
 | _::c::r,t=>ev1 (c::r) t::sdv (c::r) t
theorem Zk2:∀(u:List Int) (t:Int),(sdv u t).length=u.length-1
 | [],_=>rfl
 | [_],_=>rfl
 | _::c::r,t=>by unfold sdv;rw [dX,Zk2 _ t];simp
theorem Zzq:∀(u:List Int) (t x:Int),ev1 u x=ev1 u t+(x-t)*ev1 (sdv u t) x
 | [],t,x=>by simp [ev1,sdv]
 | [c],t,x=>by simp [ev1,sdv]
 | a::c::r,t,x=>by have d:=Zzq (c::r) t x;show a+x*ev1 _ x=a+t*ev1 _ t+(x-t)*(ev1 _ t+x*ev1 _ x);grind
theorem Yap(a:Int)(u:List Int)(i:Nat):cf (a::u) i=if i=0 then a else cf u (i-1):=by
 cases i with
 | zero=>rfl
 | succ i=>rfl
theorem Zc1(i:Nat):cf [] i=0:=Yw (bH _)
theorem Yiz:∀(u:List Int) (t:Int) (i:Nat),cf u (i+1)=cf (sdv u t) i-t*cf (sdv u t) (i+1)
 | [],t,i=>by unfold sdv;simp [Zc1]
 | [c],t,i=>by unfold sdv;simp [Yap,aJ,Zc1]
 | a::c::r,t,i=>by
  cases i with
  | zero=>
   show c=ev1 _ t-t*cf _ 0
   match r with
   | []=>simp [ev1,sdv,cf]
   | d::r'=>unfold sdv;rw [Yap];show c=(c+t*ev1 _ t)-_;simp
  | succ i=>
   exact Yiz _ t i
theorem Yn9:∀(u:List Int) (t:Int),cf u 0=ev1 u t-t*cf (sdv u t) 0
 | [],t=>by simp [ev1,sdv,cf]
 | [c],t=>by simp [ev1,sdv,cf]
 | a::c::r,t=>by show a=(a+t*ev1 _ t)-t*ev1 _ t;simp
theorem Zr5:∀(n:Nat) (u:List Int) (R:List Int),u.length=n->(∃i,cf u i≠0)->R.Nodup->(∀t∈R,ev1 u t=0)->R.length<n
 | 0,u,R,d,c,_,_=>by grind [List.eq_nil_of_length_eq_zero,Zc1]
 | n+1,u,[],d,c,_,_=>O7
 | n+1,u,t::R,d,c,hd,hR=>by
  have h:=hR t (bX ..);have j:=Zk2 u t;have g:∃i,cf (sdv u t) i≠0:=bC λe=>by
   obtain⟨i,hi⟩:=c;cases i with
   | zero=>grind [Yn9]
   | succ i=>grind [Yiz]
  have:=Zr5 n _ R O g (kM.1 hd).2 λx e=>by have f:=hR x (bN _ e);rw [Zzq u t x]at f;grind [Int.mul_eq_zero,List.nodup_cons]
  grind
def kk:Nat->Nat
 | 0=>0
 | d+1=>30*kk d+1
def pts:List Int:=[0,1,2,3,4,5,6,7,8,9,10,11,12,13,14]
def Psim(a b:List Int):Prop:=∃m n:Int,0<m/\0<n/\∀i,m*cf a i=n*cf b i
def Psim.refl(a:List Int):Psim a a:=⟨1,1,O,O,λ_=>rfl⟩
def Psim.symm : Psim a b->Psim b a:=λ⟨m,n,c,d,h⟩=>⟨n,m,d,c,λi=>(h i).symm⟩
def Psim.trans{c:List Int} : Psim a b->Psim b c->Psim a c:=λ⟨m,n,d,e,h⟩ ⟨u,v,f,g,k⟩=>
 ⟨m*u,n*v,fC d f,fC e g,λi=>O4⟩
def Psim.sim : Psim a b->Sim a b:=λ⟨m,n,c,d,h⟩=>⟨m,n,O,O,h⟩
theorem Zen(h:Tr p):Psim (Yu p) p:=by
 by_cases c:p=[]
 .subst c;exact Psim.refl _
 .exact⟨Xs p,1,by have:=Mw p;grind [Zay],O,λi=>by grind [Fl]⟩
theorem Zke(f:Tr a)(g:Tr b)(h:Psim a b):Yu a=Yu b:=by
 by_cases c:a=[]
 .rw [h.sim.nil g c,c]
 .have j:=λe=>c (h.sim.symm.nil f e);obtain⟨m,n,u,v,e⟩:=(Zen f).trans (h.trans (Zen g).symm);have l:=Xg f;have t:=Xg g;have hs:Sim _ _:=⟨m,n,O,O,e⟩;have d:Yu a≠[]:=λe=>c (aH (by grind [Yo]));rcases Zrr l t d (Hs f c) (Hs g j) hs with k|k
  .omega
  .have o:=l.mem d;have q:=e ((Yu a).length-1);have r:=k ((Yu a).length-1);rw [r]at q o;grind [Int.mul_neg,Int.add_mul,Int.mul_eq_zero]
def Zcd(y:List Int):Int:=if cf y (y.length-1)<0 then-cf y (y.length-1)else cf y (y.length-1)
def rb(x y:List Int):Int:=if cf y (y.length-1)<0 then-cf x (x.length-1)else cf x (x.length-1)
def Zh0(x y:List Int):List Int:=Zbk (Yy x (Zcd y)) (shm y (rb x y) (x.length-y.length) y.length)
def Zbh:Nat->List Int->List Int->List Int
 | 0,x,_=>x
 | f+1,x,y=>if x.length<y.length then x else Zbh f (Zh0 x y) y
theorem Zpj(e:Tr x)(f:0<y.length)(d:y.length<=x.length):(Zh0 x y).length<x.length:=by
 have h:=Zbb (p:=Zh0 x y) (n:=x.length-1) λi hi=>by
  unfold Zh0;rw [Zbv,Qn,Yiy];by_cases c:i=x.length-1
  .unfold Zcd rb;grind
  .rw [Yw O,aJ O];simp
 rw [show tzl _=Zh0 x y from Zam Zxo]at h;omega
theorem Yeu(x:List Int)(t:Nat):Zcd y*cf x t=(ps (mono (x.length-y.length) (rb x y))*ps y).c t+cf (Zh0 x y) t:=by
 unfold Zh0;rw [Zkt,Zbv,Qn,Yiy,Lh];by_cases c:x.length-y.length<=t
 .by_cases d:t<x.length-y.length+y.length
  .grind
  .rw [Yw (p:=y) O,iQ _];simp
 grind
theorem Zfm(d:Tr y)(c:y≠[]):0<Zcd y:=by have:=d.mem c;unfold Zcd;split<;>omega
theorem Zfi{y:List Int}(l:Tr y)(d:y≠[]):∀(f:Nat) (x:List Int),Tr x->x.length<y.length+f->Tr (Zbh f x y)/\(Zbh f x y).length<y.length/\∃(k:Nat) (s:List Int),∀t,Zcd y^k*cf x t=(ps s*ps y).c t+cf (Zbh f x y) t
 | 0,x,c,e=>⟨c,e,0,[],λt=>by rw [Ly (λt=>Yw (bH _))];unfold Zbh;simp⟩
 | f+1,x,c,e=>by
  unfold Zbh;by_cases h:x.length<y.length
  .rw [aO h];exact⟨c,h,0,[],λt=>by simp [Ly,Yw,bH,eK]⟩
  .rw [aJ h];have m:=Zpj c (aL.2 d) O;obtain⟨g,j,k,s,hs⟩:=Zfi l d f (Zh0 x y) Zxo O;refine⟨g,j,k+1,Zbk (Yy s 1) (Yy (mono (x.length-y.length) (rb x y)) (-(Zcd y^k))),λt=>?_⟩;grind [Yeu,Zkr,Int.pow_succ]
theorem Zsf(l:Int)(h:l≠0):∀n:Nat,(l<0/\n%2=1->l^n<0)/\(¬(l<0/\n%2=1)->0<l^n)
 | 0=>⟨λh=>O,λ_=>O7⟩
 | n+1=>by
  have e:=Zsf l h n;rw [eC];by_cases d:l<0
  .by_cases f:n%2=1
   .have c:=e.1 ⟨d,f⟩;exact⟨λh=>O,λ_=>Int.mul_pos_of_neg_of_neg c d⟩
   .have c:=e.2 O;exact⟨λ_=>Int.mul_neg_of_pos_of_neg c d,λh=>O⟩
  .have c:=e.2 O;exact⟨λh=>O,λ_=>fC c O⟩
def Zg8(p:List Int):List Int:=Yy p (-1)
theorem Zai(p:List Int)(i:Nat):cf (Zg8 p) i=- cf p i:=by unfold Zg8;grind [Qn]
theorem Zvo(h:Tr p):Yu (Zg8 p)=Zg8 (Yu p):=by
 have e:=by
  have c:Xs (Zg8 p)∣Xs p:=Di λi=>by have h:=Ko (Zg8 p) i;simp_all [Zai,Int.dvd_neg]
  have d:Xs p∣Xs (Zg8 p):=Di λi=>by simp [Zai,Int.dvd_neg,Ko]
  exact Int.dvd_antisymm (Mw _) (Mw _) c d
 refine(Xg (Nq _ _)).ext (Nq _ _) λi=>?_;show cf (Yu (Zg8 p)) i=cf _ i;simp_all [Zai,Zc0,Int.neg_ediv_of_dvd,Ko]
theorem Zg0 (f:Nat)(u:Tr x)(m:Tr y)(g:y≠[])(B:y.length<=x.length)(w:x.length<y.length+f):Yu (Zg8 (Zbh f x y))=Mj x y:=by
 obtain⟨N,M,k,s,hs⟩:=Zfi m g f x u w;have F:=aL.2 g;obtain⟨G,o⟩:=Zg4 (p:=x) F B _ (aI _);have D:∀t,cf (Ob x y (x.length-y.length+1)) t=cf (Qr x y) t:=λt=>by unfold Qr;simp_all [aJ,Hc]
 have lp:=Pq x g;have h:=Ip (q:=y) u;have c:=m.mem g;have n:0<Zcd y^k:=iI (Zfm m g);have d:=Zsf (cf y (y.length-1)) c (x.length-y.length+1);generalize H:cf y (y.length-1)^(x.length-y.length+1)=L at o d;generalize Zcd y^k=K at hs n;have j:∀t,(ps (Zbk (Yy G K) (Yy s L))*ps y).c t=cf (Zbk (Yy (Zbh f x y) L) (Yy (Qr x y) K)) t:=λt=>by rw [Zkr,Zbv,Qn,Qn,<-D t];grind
 have z:=Yl8 m g j λt I=>by rw [Zbv,Qn,Qn,Yw (p:=Zbh f x y) O,Yw (p:=Qr x y) O];simp
 have e:∀t,L*cf (Zbh f x y) t=K*cf (Qr x y) t:=λt=>by have v:=j t;rw [Ly z,Zbv,Qn,Qn]at v;grind
 unfold Mj;by_cases l:cf y (y.length-1)<0/\(x.length-y.length+1)%2=1
 .rw [aO l];have r:=d.1 l;exact Zke (Nq _ _) h ⟨-L,K,O,n,λt=>by grind [Zai]⟩
 .rw [aJ l];have r:=d.2 l;rw [show Yy (Yu (Qr x y)) (-1)=Zg8 (Yu (Qr x y))from rfl,<-Zvo h];exact Zke (Nq _ _) (Nq _ _) ⟨L,K,r,n,λt=>by simp_all [Zai,mM]⟩
theorem Zb7(c:Tr x):Tr (Mj x y):=by unfold Mj;grind [Xg,Ip,Nq]
theorem Zbn(c:Tr x):(Mj x y).length=(Qr x y).length:=by
 unfold Mj;have h:Tr (Yu (Qr x y)):=Xg (Ip c);split
 .simp [Yo]
 .rw [<-Yo (Qr x y)];exact((Zvc O).len h (Nq _ _)).symm
theorem Zu8{n:Nat}(h:Sz n p):Sz n (Xr p):=λi=>by
 unfold Xr;rw [Bz];split
 .rw [gP];exact Ca h i
 .exact Ca h i
theorem Zko(h:Tr p)(c:p≠[]):Xr p≠[]:=λe=>c (aH (by grind [Pn]))
theorem Bt{g:List Int}(h:Tr g)(c:g≠[]):0<cf (Hy g) ((Hy g).length-1):=by have d:=h.mem c;grind [Zbo,Bz,List.eq_nil_of_length_eq_zero]
theorem Zdf(h:Tr p)(c:p≠[]):Xs (Xr p)=1:=by unfold Xr;grind [Zh2,Hs]
theorem Zvu(h:Tr p)(c:Xs p=1)(d:0<cf p (p.length-1)):Xr p=p:=by unfold Xr;rw [Zfo c];unfold Hy;grind
theorem Nf (F:Nat)(o:Tr xs)(r:xs≠[])(v:eok F (gA (Xr xs) (Xd (Xr xs))) (gB (Xr xs) (Xd (Xr xs)))) :
  pdv (Xr xs) (Mt F (Xr xs) (Xd (Xr xs)))/\Tr (sqf F xs)/\sqf F xs≠[]/\Xr xs=Qx (sqf F xs) (Mt F (Xr xs) (Xd (Xr xs)))/\Mt F (Xr xs) (Xd (Xr xs))≠[]/\Xr (sqf F xs)=sqf F xs:=by
 have hs:Tr (Xr xs):=Nw (Xg o);have f:=Mh hs;have l:=Zko o r;have g:=(Zde hs f v).1;have n:=Zfc F hs f;have c:Mt F (Xr xs) (Xd (Xr xs))≠[]:=λe=>l ((e▸g).zero hs);have H:=Zkh hs f c;obtain⟨k,s,I,h⟩:=g;obtain⟨q,P⟩:=gauss H _ k s rfl I h;have d:Xr xs=Qx (tzl q) (Mt F (Xr xs) (Xd (Xr xs))):=hs.ext (Qo _ _) λi=>by grind [Gj,Ye4]
 obtain⟨B,S⟩:=Zyi (Qp q) n c;have w:sqf F xs=tzl q:=by unfold sqf;grind
 rw [<-d]at B;have j:tzl q≠[]:=λe=>l (by grind [Dd]);refine⟨B,by grind [Qp],O4,O4,c,?_⟩;rw [w];refine Zvu (Qp q) ?_ ?_
 .have D:=Zdf o r;have t:Xs (tzl q)∣Xs (Xr xs):=Di λi=>by
   rw [d,Gj,PS.mul_c];have N:∀m,Xs (tzl q)∣Yf (λk=>(ps (tzl q)).c k*(ps (Mt F (Xr xs) (Xd (Xr xs)))).c (i-k)) m:=λm=>by
    induction m with
    | zero=>exact jF _
    | succ m M=>exact Int.dvd_add M (fB (Ko (tzl q) m) (jU _ _))
   grind
  have u:=Mw (tzl q);have G:=lH O t;grind [Zay,Qp]
 .have Q:=aL.2 j;have R:=aL.2 c;have D:0<cf (Xr xs) ((Xr xs).length-1):=Bt (Xg o) (λe=>r (aH (by grind [Yo])));have t:0<cf (Mt F (Xr xs) (Xd (Xr xs))) ((Mt F (Xr xs) _).length-1):=Bt (Ztq F (Zjp hs f) (Zjo hs f)) (λe=>c (by unfold Mt;rw [e];rfl));have u:=Nz (Qp q) n j c;rw [<-d]at u;have G:cf (Xr xs) ((Xr xs).length-1)=cf (tzl q) ((tzl q).length-1)*cf (Mt F (Xr xs) (Xd (Xr xs))) ((Mt F (Xr xs) (Xd (Xr xs))).length-1):=by rw [u,d,Gj,<-d,show(tzl q).length+(Mt F (Xr xs) (Xd (Xr xs))).length-1-1=((tzl q).length-1)+((Mt F (Xr xs) (Xd (Xr xs))).length-1) by omega];grind [Bv,Yw]
  rcases iO 0 _ with z|z
  .omega
  .exfalso;have:=fH z (eA t);omega
def Nt(p:List Int):(Xd p).length=p.length-1:=Yz _ _
theorem Zwm{n:Nat}(c:Sz n p)(g:p.length<=25)(i:Nat):bl (cf p (i+1)*((i:Int)+1)).natAbs<=n+5:=by
 rcases aW (i+1) p.length with h|h
 .have d:=Xx (cf p (i+1)) ((i)+1);have e:=c (i+1);have f:bl ((i:Int)+1).natAbs<=5:=(Qs 5 _).2 O;omega
 grind [Yw,Gk]
theorem Zgl(p:List Int)(i:Nat):cf (Xd p) i=cf p (i+1)*((i:Int)+1):=by unfold Xd;simp_all [Ku,Yw,cP]
theorem Zas{n:Nat}(d:Sz n p)(c:p.length<=25):Sz (n+5) (Xd p):=λi=>by simp_all [Zgl,Zwm]
theorem Ze8(h:Vp p)(c:∀i,i<p.length->bl (cf p (i+1)*((i:Int)+1)).natAbs<=65536):Vp (Xd p):=by
 refine⟨λi=>?_,Mh h.tr,by rw [Nt];have:=h.len;omega⟩;rw [Zgl];by_cases hi:i<p.length
 .grind
 .rw [Yw O];simp [Gk]
def sf_t(h:xs.length=0):Value.bool (decide (Zau xs))= .bool true:=aE _ (aD (.inl h))
theorem sf_i{n:Int}(h:xs.length≠0)(c:n=(((xs.length+2)*(xs.length+2)*(Pb xs+16):Nat):Int)):Value.bool (decide (Zau xs))= .bool (decide (n<=65536)):=aE _ (aZ.2 (by show(xs.length=0\/(xs.length+2)*(xs.length+2)*(Pb xs+16)<=65536)↔_;omega))
theorem Ybd(h:(Qr x y).length=0):Mj x y=[]:=by have c:=aH h;unfold Mj;rw [c];split<;>rfl
theorem Yk2(e:y.length<=x.length)(c:(cf y (y.length-1)).sign<0)(d:((x.length:Int)-(y.length:Int)+1)%2=1):Mj x y=Yu (Qr x y):=by unfold Mj;grind
theorem Zxt(c:¬(cf y (y.length-1)).sign<0):Mj x y=Yy (Yu (Qr x y)) (-1):=by unfold Mj;grind
theorem Zxs(d:y.length<=x.length)(c:¬((x.length:Int)-(y.length:Int)+1)%2=1):Mj x y=Yy (Yu (Qr x y)) (-1):=by unfold Mj;grind
theorem Zu3{F:Nat}(j:Vp xs)(k:xs≠[])(h:Yk1 F xs):Vp (sqf F xs):=by
 obtain⟨_,_,_,d,c⟩:=h;have g:=Ydb j;unfold sqf He;split
 .grind
 .rename_i l;rcases c with c|c
  .grind
  .have e:=(Zdq d).2 c.1;refine⟨?_,Qp _,?_⟩
   .rw [<-Zgc];exact(Zxq e c.2.1).tzl
   .have f:=Hm (Zme (Xr xs) (Mt F (Xr xs) (Xd (Xr xs))) ((Xr xs).length-(Mt F (Xr xs) (Xd (Xr xs))).length+1));rw [Zgc,Zcl]at f;have:=g.len;grind [Zdq]
theorem Zk0{F:Nat}(d:Vp xs)(h:Yk1 F xs):(sqf F xs).length<=xs.length:=by
 obtain⟨_,_,_,e,c⟩:=h;have j:=Pn d.tr;unfold sqf He;split
 .simp
 .rename_i f;rcases c with c|c
  .grind
  .have g:=Hm (Zme (Xr xs) (Mt F (Xr xs) (Xd (Xr xs))) ((Xr xs).length-(Mt F (Xr xs) (Xd (Xr xs))).length+1));grind [Zgc,Zcl,Zdq]
theorem Yam{L:List Int}{n l:Int}(hi:i<L.length)(h:(n,l)=(L.take i).foldl Me (0,0))(hs:L.getD i 0=s)(c:s=0):(n,l)=(L.take (i+1)).foldl Me (0,0):=by rw [Pr 0 L i hi,Zev,<-h];unfold Me;grind
theorem Yal{L:List Int}{n l:Int}(hi:i<L.length)(h:(n,l)=(L.take i).foldl Me (0,0))(hs:L.getD i 0=s)(c:s≠0)(d:s=-l):(n+1,s)=(L.take (i+1)).foldl Me (0,0):=by rw [Pr 0 L i hi,Zev,<-h];unfold Me;grind
theorem Yak{L:List Int}{n l:Int}(hi:i<L.length)(h:(n,l)=(L.take i).foldl Me (0,0))(hs:L.getD i 0=s)(c:s≠0)(d:¬s=-l):(n,s)=(L.take (i+1)).foldl Me (0,0):=by rw [Pr 0 L i hi,Zev,<-h];unfold Me;grind
theorem Yn8{L:List Int}{n l:Int}(hi:L.length<=i)(h:(n,l)=(L.take i).foldl Me (0,0)):n=chg L:=by rw [cK hi]at h;unfold chg;grind
theorem Yej{z:Int}:-1<=z.sign/\z.sign<=1:=by grind
theorem Yga{α:Type}{d:α}{f:α->Int}{ls:List α}(h:i<ls.length):(ls.map f).getD i 0=f (ls.getD i d):=by grind
def sgx(ls:List (SL×List Int))(f:List Int->Int):List Int:=ls.map λz=>f z.2
def Zru(ls:List (SL×List Int))(f:List Int->Int)(h:i<ls.length):(sgx ls f).getD i 0=f (ls.getD i ((none,0,0),[])).2:=Yga h
def Zk1(ls:List (SL×List Int))(f:List Int->Int):(sgx ls f).length=ls.length:=bJ ..
def fr(p:List Int):Int:=(cf p (p.length-1)).sign
def fl(p:List Int):Int:=if p.length%2=0 then-(cf p (p.length-1)).sign else(cf p (p.length-1)).sign
def fat(x y:Int)(p:List Int):Int:=(pev p x y).sign
def fat_r(x y:Int)(p:List Int):-1<=fat x y p/\fat x y p<=1:=Yej
theorem Zmh:∀(f:Nat) {x y:List Int},Vp x->Vp y->cok f x y->∀p∈Mr f x y,Vp p
 | 0,x,y,d,_,_,p,c=>by rw [bZ.1 c];omega
 | f+1,x,y,d,e,h,p,c=>by
  unfold Mr at c;split at c
  .rw [bZ.1 c];exact d
  .rcases h with h|h
   .contradiction
   .rcases aU.1 c with rfl|c
    .exact d
    .exact Zmh f e (Zrc d h.1) h.2.2 p c
theorem vp_chn{F:Nat}(j:Vp xs)(d:xs≠[])(h:Ak F xs):∀p∈chn F xs,Vp p:=by obtain⟨e,f,g⟩:=h;have c:=Zu3 j d e;exact Zmh F c (Im (Ze8 c (λi hi=>f i (by grind [Zk0])))) g
def cnt(F:Nat)(xs:List Int)(x y:Int):Int:=chg ((chn F xs).map (fat x y))
def sright(F:Nat)(xs:List Int):Int:=chg ((chn F xs).map fr)
def sleft(F:Nat)(xs:List Int):Int:=chg ((chn F xs).map fl)
theorem Zxw{C:List (List Int)}(h:ls.map Prod.snd=C)(f:List Int->Int):sgx ls f=C.map f:=by rw [<-h,fZ];rfl
def Mx{C:List (List Int)}{p:List Int->Prop}(h:ls.map Prod.snd=C)(c:∀q∈C,p q):∀z∈ls,p z.2:=λz d=>c _ (h▸List.mem_map_of_mem d)
theorem Zhm(L:List Int):0<=chg L/\chg L<=L.length:=by
 unfold chg;suffices h:∀(l:List Int) (s:Int×Int),s.1<=(l.foldl Me s).1/\(l.foldl Me s).1<=s.1+l.length by grind
 intro l
 induction l with
 | nil=>simp
 | cons x l c=>
  intro s;have d:=c (Me s x);have e:=chg1_n s x;simp only [gC,dX];omega
theorem Zd8:∀(f:Nat) (x y:List Int),(Mr f x y).length<=f+1
 | 0,x,y=>aI _
 | f+1,x,y=>by
  unfold Mr;split
  .simp
  .have:=Zd8 f y (Mj x y);simp;omega
def sm(xs:List Int)(i:Nat):Nat:=(xs.take i).foldl (λm c=>max m c.natAbs) 0
def Zbl{x y:Int}(h:¬Lb x y):Gn x y=x/Lf x y/\Ir x y=y/Lf x y/\Ye0 x y=0:=⟨aJ h,aJ h,aJ h⟩
theorem nr_bl{x y:Int}(h:¬Lb x y):bl (Gn x y).natAbs<=65536/\bl (Ir x y).natAbs<=65536:=by obtain⟨c,d,_⟩:=Zbl h;rw [c,d];unfold Lb at h;omega
theorem Zo8{x y:Int}(h:¬Lb x y)(c:0<y):0<Ir x y:=by simp_all [Zbl,Yb5]
abbrev R2:=Int×Int
def Ps(a b:R2):R2:=(Gn (Gn (a.1*b.2+b.1*a.2) (a.2*b.2)*1) (Ir (a.1*b.2+b.1*a.2) (a.2*b.2)*2),Ir (Gn (a.1*b.2+b.1*a.2) (a.2*b.2)*1) (Ir (a.1*b.2+b.1*a.2) (a.2*b.2)*2))
def Zd7(a b:R2):Prop:=¬Lb (a.1*b.2+b.1*a.2) (a.2*b.2)/\¬Lb (Gn (a.1*b.2+b.1*a.2) (a.2*b.2)*1) (Ir (a.1*b.2+b.1*a.2) (a.2*b.2)*2)
instance (a b:R2):Decidable (Zd7 a b):=by unfold Zd7;infer_instance
def Yb2{a b:R2}(h:Zd7 a b):Ye0 (Gn (a.1*b.2+b.1*a.2) (a.2*b.2)*1) (Ir (a.1*b.2+b.1*a.2) (a.2*b.2)*2)=0:=(Zbl h.2).2.2
def isp(c:R2->Int)(e:Int):Nat->R2->R2->Int->Int->Nat->List (R2×R2)
 | 0,_,_,_,_,_=>[]
 | f+1,a,b,fr,g,d=>if fr=g then []else if fr-g=1/\e<=(d:Int)then [(a,b)]else isp c e f a (Ps a b) fr (c (Ps a b)) (d+1) ++ isp c e f (Ps a b) b (c (Ps a b)) g (d+1)
def Zzb(c:R2->Int)(g:R2->Prop)(e:Int):Nat->R2->R2->Int->Int->Nat->Prop
 | 0,_,_,_,_,_=>False
 | f+1,a,b,fr,h,d=>fr=h\/(fr-h=1/\e<=(d:Int))\/(d<1000/\Zd7 a b/\g (Ps a b)/\Zzb c g e f a (Ps a b) fr (c (Ps a b)) (d+1)/\Zzb c g e f (Ps a b) b (c (Ps a b)) h (d+1))
instance ispDec (c:R2->Int) (e:R2->Prop) [DecidablePred e] (g:Int):∀f a b fr h d,Decidable (Zzb c e g f a b fr h d)
 | 0,_,_,_,_,_=>inferInstanceAs (Decidable False)
 | f+1,a,b,fr,h,d=>@instDecidableOr _ _ _ (@instDecidableOr _ _ _ (@instDecidableAnd _ _ _ (@instDecidableAnd _ _ _ (@instDecidableAnd _ _ _ (@instDecidableAnd _ _ (ispDec c e g f a (Ps a b) fr (c (Ps a b)) (d+1)) (ispDec c e g f (Ps a b) b (c (Ps a b)) h (d+1)))))))
def okQ(z:R2):Prop:=bl z.1.natAbs<=65536/\bl z.2.natAbs<=65536/\0<z.2
def evok(ls:List (SL×List Int))(m:R2):Prop:=∀z∈ls,¬Kb z.2 m.1 m.2
def cvx(ls:List (SL×List Int))(m:R2):Int:=chg (sgx ls (fat m.1 m.2))
def cvc(F:Nat)(xs:List Int)(m:R2):Int:=cnt F xs m.1 m.2
def evc(F:Nat)(xs:List Int)(m:R2):Prop:=∀p∈chn F xs,¬Kb p m.1 m.2
def slow(a:R2):R2:=(Gn a.1 a.2,Ir a.1 a.2)
def sisol(F:Nat)(xs:List Int)(f:Nat)(a b:R2)(c:Int):List (R2×R2):=isp (cvc F xs) c f (slow a) (slow b) (cvc F xs a) (cvc F xs b) 0
def isOK(F:Nat)(xs:List Int)(f:Nat)(a b:R2)(c:Int):Prop:=Ak F xs/\evc F xs a/\evc F xs b/\¬Lb a.1 a.2/\¬Lb b.1 b.2/\Zzb (cvc F xs) (evc F xs) c f (slow a) (slow b) (cvc F xs a) (cvc F xs b) 0/\(sisol F xs f a b c).length<=1000000
open Go.RowKit Below
variable {P:Program} {N:Nat} {sc:Nat->Prop} {env env':Qk} {H H':Hp} {Q Q':Exit->Act->World->Prop} {M:Nat->Prop}
def CalM(P:Program)(f:FuncId)(args:Array Value)(pre:List Pc){G:Type}(φ:G->Prop)(val:G->Value)(d c:G->Pc):Prop:=
 ∀w,(∀p∈pre,p.holds w)->Calls P f args w λe h=>∃g,e= .returned (val g)/\φ g/\Below w.heap.size w h/\(d g).holds h/\(∀b,(d g).fp b->w.heap.size<=b)/\
  (c g).holds h/\(c g).own=false/\(∀b,(c g).fp b->w.heap.size<=b\/∃q∈pre,q.fp b)/\∀b,(d g).fp b->(c g).fp b->False
def FPostM(P:Program)(fn:Func)(w0:World)(pre:List Pc){G:Type}(φ:G->Prop)(val:G->Value)(d c:G->Pc):Exit->Act->World->Prop:=
 bodyPost P fn λe f=>∃g,e= .returned (val g)/\φ g/\Below w0.heap.size w0 f/\(d g).holds f/\(∀b,(d g).fp b->w0.heap.size<=b)/\
  (c g).holds f/\(c g).own=false/\(∀b,(c g).fp b->w0.heap.size<=b\/∃q∈pre,q.fp b)/\∀b,(d g).fp b->(c g).fp b->False
theorem Zel{β:Type}{q:β->Pc}{zs ys:List β}(i j n:Nat)(hi:lk H i=some (Hi q zs))(l:lk H j=some (Hi q ys))(d:Nat.beq i 0=false)(e:Nat.beq j 0=false) :
  ∀a w,Sat N sc env H a w->Sat N sc env ((n,Hi q (zs ++ ys))::H) a w:=
 Zvg i j n hi l d e rfl rfl (λw g k y f=>by
  rcases cW.1 f with h|h
  .exact g y h
  .exact k y h) (λb c=>by
  obtain⟨y,f,c⟩:=c;rcases cW.1 f with h|h
  .exact .inl ⟨y,h,c⟩
  .exact .inr ⟨y,h,c⟩) rfl
abbrev qD (z:SL×Nat):Pc:=d9p (Yx z.1) z.2
abbrev JE:=(R2×R2)×(SL×SL×SL×SL)
abbrev encJ (y:JE):Value:= .agg #[.bool (decide (y.1.1.1<0)),Yx y.2.1,.bool (decide (y.1.1.2<0)),Yx y.2.2.1,.bool (decide (y.1.2.1<0)),Yx y.2.2.2.1,.bool (decide (y.1.2.2<0)),Yx y.2.2.2.2]
abbrev qJ (y:JE):Pc:=Hi qD [(y.2.1,y.1.1.1.natAbs),(y.2.2.1,y.1.1.2.natAbs),(y.2.2.2.1,y.1.2.1.natAbs),(y.2.2.2.2,y.1.2.2.natAbs)]
abbrev J0:JE:=(((0,0),(0,0)),((none,0,0),(none,0,0),(none,0,0),(none,0,0)))
end Go.Sky
namespace Go.Sky
variable{M M0:Nat->Prop}{o:Oper}{x y:Operand}{t tb:TypeId}{cs:Array Value}{v:Value}{vs:List Value}{zs:List (SL×List Int)}{r:List Pc}{z:SL×List Int}
variable {P:Program} {N:Nat} {sc:Nat->Prop} {env env':Qk} {H H':Hp} {Q Q':Exit->Act->World->Prop}
theorem Zrz(w:World)(g:Nat)(cs:Array Value)(t:TypeId){fr:Nat×Nat}(a:w.heap[g]? = some (.cells cs t fr)):w.setRow g cs=w:=by
 obtain⟨b,c⟩:=aK.1 a;have h:(w.setRow g cs).heap=w.heap:=by
  apply Array.ext_getElem?;intro i;by_cases h:g=i
  .subst h;rw [setRow_heap w g cs cs t fr a,a]
  .unfold World.setRow;dsimp only;rw [Array.getElem?_modify,aJ h]
 have e:w.setRow g cs={ w with heap:=(w.setRow g cs).heap }:=rfl;rw [e,h]
theorem Zmq (i:Nat)     {b j k:Nat}    (s:o.op= .store t x y) (p:o.dst=none)
  (D:ev env x=some (.pointer (some ⟨b,j,none⟩))) (F:ev env y=some v) (m:lk H i=some (Nb b tb cs)) (B:v.cells=vs.toArray) (q:∀w,(sizeOf t).run P w= .ok k w) (d:vs.length=k)
  (c:Nat.ble (j+vs.length) cs.size=true) (l:∀u∈vs,u.oneCell'=true) (e:Gt cs j vs=cs) :
  T P N sc M o env H (G:=Unit) (λ_=>True) (λ_=>env) (λ_=>H):=λa w hs K Q n=>by
 have g:w.heap[b]? = some (.cells cs tb (0,0)):=hs.hold i _ m;have f:=run_storeCells_at P b j tb vs 0 cs w g (by simpa using gE c) l;simp only [fY]at f;have h:(execOp a.eval o).run P w= .ok .skip (w.setRow b (Gt cs j vs)):=by simp [execOp,s,hs.ev D,hs.ev F,Instr.storeAt,Instr.sureAddr,storeVar,B,q,d,f,Gt]
 rw [e,Zrz w b cs tb g]at h;unfold Oper.wp;rw [h];show K (a.put o.dst _) _;rw [p];exact n () _ _ aA (hs.put_none undef) (Chg.refl _ _)
def Zzw{c:Code}(h:E P N sc c (Exit.noGoto Q) env H):E P N sc (.scope c) Q env H:=λa w hs=>wp_scope_straight (h a w hs)
def Zje(h:X N sc .ret Q env H):X N sc .ret (Exit.noGoto Q) env H:=h
def Zzx{l:Nat}(h:X N sc .normal Q env H):E P N sc (.label l) Q env H:=λa w hs=>wp_label (h a w hs)
def t_stp1     {i b j:Nat}   {w0:World}  (m:o.op= .store t x y) (k:o.dst=none)
  (p:ev env x=some (.pointer (some ⟨b,j,none⟩))) (q:ev env y=some v) (g:lk H i=some (box b tb cs)) (d:i≠0) (l:∀w,(sizeOf t).run P w= .ok 1 w) (c:Nat.ble (j+1) cs.size=true) (e:One N sc env H v)
  (f:lk H 0=some (Zt w0 M0)) (n:∀b,w0.heap.size<=b->sc b) (h:M b) :
  T P N sc M o env H (G:=Unit) (λ_=>True) (λ_=>env) (λ_=>(i,box b tb (Gt cs j [v]))::H):=λa w hs=>
 t_stp (cs':=#[]) (vs:=[v]) m k p q g d (Zn (e a w hs)) l rfl c ⟨e,aA⟩ f n h a w hs
def Ye7{al:Bool}(i:Nat)(hi:lk H i=some (Xp 1 Pa (λy:SL×List Int=>Yn 2 wv (Yx y.1) y.2) v zs))(a:Nat.beq i 0=false)(b:z∈zs)(h:PreOk H al r):PreOk H al (Yn 2 wv (Yx z.1) z.2::r):=Ye6 (q:=λy:SL×List Int=>Yn 2 wv (Yx y.1) y.2) (z:=z) i hi a b h
end Go.Sky
namespace Go.Sky
variable{v:Int}{o:Oper}{x y:Operand}{t tb:TypeId}{b k i:Nat}{kd:IntKind}{M M0:Nat->Prop}{w0:World}{cs:Array Value}
variable {P:Program} {N:Nat} {sc:Nat->Prop} {env env':Qk} {H H':Hp} {Q Q':Exit->Act->World->Prop}
def Af(l:List Int):Array Value:=(l.map (Value.int .i64)).toArray
theorem Ya5(l:List Int):(Af l).size=l.length:=by simp [Af]
theorem Yc9{l:List Int}{j:Nat}(h:j<l.length):(Af l)[j]? = some (.int .i64 (l.getD j 0)):=by simp [Af,aM h,aN]
theorem Yc8{l:List Int}{j:Nat}(h:j<l.length):Gt (Af l) j [.int .i64 v]=Af (l.set j v):=by unfold Gt Af;grind
theorem Gx (i:Nat)   {e:TypeId} {d c:Nat}  {m:Int} (j:o.op= .indexAddr t x y) (n:ev env x=some (.pointer (some ⟨b,d,none⟩))) (p:ev env y=some (.int kd m))
  (l:P.underlying t=some (.array c e)) (h:∀w,(sizeOf e).run P w= .ok k w) (f:m=(i:Int):=by omega) (g:i<c:=by omega):Mv P N sc o env H (.pointer (some ⟨b,d+i*k,none⟩)):=λa w hs=>by
 subst f;simp [execOp,j,hs.ev n,hs.ev p,Instr.indexAt,Instr.sureAddr,asIntOf,run_underlying l,h,g,Py]
theorem Ycr (i:Nat){j:Nat}{l:List Int}(d:o.op= .load t x)(f:ev env x=some (.pointer (some ⟨b,j,none⟩)))(a:lk H i=some (box b tb (Af l)))(e:∀w,(isAgg t).run P w= .ok false w)(c:j<l.length:=by omega) :
  Mv P N sc o env H (.int .i64 (l.getD j 0)):=Zln _ d f a e (Yc9 c)
theorem d_lwa{l:List Int}(d:o.op= .load t x)(g:ev env x=some (.pointer (some ⟨b,0,none⟩)))(a:lk H i=some (box b tb (Af l)))(e:∀w,(isAgg t).run P w= .ok true w)(c:∀w,(sizeOf t).run P w= .ok k w)(h:l.length=k) :
  Mv P N sc o env H (.agg (Af l)):=
 Zz8 d g a e c O4 (λn u f=>by simpa [Af]using f)
theorem Zu7 (i:Nat)     {j:Nat} {l:List Int}    (m:o.op= .store t x y) (f:o.dst=none)
  (q:ev env x=some (.pointer (some ⟨b,j,none⟩))) (r:ev env y=some (.int .i64 v)) (d:lk H i=some (box b tb (Af l))) (h:∀w,(sizeOf t).run P w= .ok 1 w) 
  (c:lk H 0=some (Zt w0 M0)) (p:∀b,w0.heap.size<=b->sc b) (e:M b) (a:i≠0:=by decide) (g:j<l.length:=by omega) :
  T P N sc M o env H (G:=Unit) (λ_=>True) (λ_=>env) (λ_=>(i,box b tb (Af (l.set j v)))::H):=by
 rw [<-Yc8 g];exact Zhu m f q r d a rfl h rfl (by grind [Ya5]) (λu n=>Zl (by rw [List.mem_singleton.1 n];rfl)) rfl c p e
theorem Ydl (i:Nat)       {l:List Int}   (h:o.op= .store t x y) (f:o.dst=none)
  (n:ev env x=some (.pointer (some ⟨b,0,none⟩))) (p:ev env y=some (.agg (Af l))) (d:lk H i=some (box b tb cs)) (g:∀w,(sizeOf t).run P w= .ok k w) (r:l.length=k) (q:cs.size=k)
  (c:lk H 0=some (Zt w0 M0)) (m:∀b,w0.heap.size<=b->sc b) (e:M b) (a:i≠0:=by decide) :
  T P N sc M o env H (G:=Unit) (λ_=>True) (λ_=>env) (λ_=>(i,box b tb (Af l))::H):=
 Zhu h f n p d a rfl g O4 O4 (λu j=>Zl (by obtain⟨z,_,rfl⟩:=eJ.1 j;rfl)) (by unfold Gt Af;grind) c m e
def Oa:Nat->Nat->Nat
 | _,0=>1
 | 0,_+1=>0
 | n+1,k+1=>Oa n k+Oa n (k+1)
theorem Zwv:∀n k,Oa n k<=2^n
 | 0,0=>O3
 | _+1,0=>dJ _
 | 0,_+1=>bH _
 | n+1,k+1=>by have a:=Zwv n k;have c:=Zwv n (k+1);show Oa n k+Oa n _<=2^(n+1);omega
theorem Zlr:∀n k,n<k->Oa n k=0
 | _,0,h=>absurd h (bK _)
 | 0,_+1,_=>rfl
 | n+1,k+1,h=>by show Oa n k+Oa n _=0;rw [Zlr n k O,Zlr n _ O]
structure Tab (l:List Int) (n k:Nat):Prop where
 len:l.length=625
 eq:∀r c,r<25->c<25->l.getD (r*25+c) 0=if r<n\/(r=n/\c<k)then(Oa r c:Int)else 0
theorem Zhj{l:List Int}{j:Nat}(hi:i<l.length:=by omega):(l.set i v).getD j 0=if j=i then v else l.getD j 0:=by grind
theorem Tab.start:Tab (List.replicate 625 0) 0 0:=⟨aT,λr c d a=>by grind⟩
theorem Tab.step{l:List Int}{n:Nat}(h:Tab l n k)(m:n<25)(f:k<25)(p:v=(Oa n k:Int)){j:Nat}(e:j=n*25+k):Tab (l.set j v) n (k+1):=by have g:=h.len;refine⟨O4,λr c d a=>?_⟩;rw [Zhj,h.eq r c d a];grind
theorem Tab.row{l:List Int}{n:Nat}(h:Tab l n k)(f:n<k):Tab l (n+1) 0:=⟨h.len,λr c e d=>by
 rw [h.eq r c e d];by_cases g:r<n\/(r=n/\c<k)
 .omega
 .rw [aJ g];by_cases a:r<n+1\/(r=n+1/\c<0)
  .rw [aO a,Zlr r c O];rfl
  omega⟩
theorem Tab.get{l:List Int}{n r c:Nat}(h:Tab l n k)(f:r<25)(d:c<25)(a:r<n\/(r=n/\c<k)){j:Nat}(e:j=r*25+c):l.getD j 0=(Oa r c:Int):=by rw [e,h.eq r c f d,aO a]
theorem Yaj (n:Nat)(k:Nat)(c:1<=n:=by omega)(a:1<=k:=by omega):Oa n k=Oa (n-1) (k-1)+Oa (n-1) k:=by obtain⟨m,rfl⟩:∃m,n=m+1:=⟨n-1,O⟩;obtain⟨j,rfl⟩:∃j,k=j+1:=⟨k-1,O⟩;rfl
end Go.Sky
namespace Go.Sky
variable{k b:Nat}{t tb:TypeId}{parts:List (Nat×Value)}{cells:Array Value}{o:Oper}{x y:Operand}{kd:IntKind}{v0 v1 v2:Value}{M M0:Nat->Prop}
structure Tb (l:List Int) (n k:Nat):Prop where
 len:l.length=36
 eq:∀r c,r<6->c<6->l.getD (r*6+c) 0=if r<n\/(r=n/\c<k)then(Oa r c:Int)else 0
theorem Tb.start:Tb (List.replicate 36 0) 0 0:=⟨aT,λr c d a=>by rw [aJ O,aN];rw [List.getElem?_replicate];split<;>rfl⟩
theorem Tb.step{l:List Int}{n:Nat}{v:Int}(h:Tb l n k)(u:n<6)(s:k<6)(q:v=(Oa n k:Int)){j:Nat}(i:j=n*6+k):Tb (l.set j v) n (k+1):=by
 subst i;have m:=h.len;refine⟨by rw [cC];exact m,λr c p f=>?_⟩;rw [Zhj,h.eq r c p f];by_cases e:r*6+c=n*6+k
 .have a:r=n:=O;have d:c=k:=O;subst a;subst d;rw [aO rfl,aO O];exact q
 .rw [aJ e];have:¬(r=n/\c=k):=λ⟨a,d⟩=>e (by rw [a,d]);by_cases g:r<n\/(r=n/\c<k)
  .rw [aO g,aO O]
  .rw [aJ g,aJ O]
theorem Tb.row{l:List Int}{n:Nat}(h:Tb l n k)(f:n<k):Tb l (n+1) 0:=⟨h.len,λr c e d=>by
 rw [h.eq r c e d];by_cases g:r<n\/(r=n/\c<k)
 .rw [aO g,aO O]
 .rw [aJ g];by_cases a:r<n+1\/(r=n+1/\c<0)
  .rw [aO a,Zlr r c O];rfl
  .rw [aJ a]⟩
theorem Tb.get{l:List Int}{n r c:Nat}(h:Tb l n k)(f:r<6)(d:c<6)(a:r<n\/(r=n/\c<k)){j:Nat}(e:j=r*6+c):l.getD j 0=(Oa r c:Int):=by rw [e,h.eq r c f d,aO a]
theorem Zww (k:Nat){n:Nat}(h:n<=5:=by omega):Oa n k<=32:=aB (Zwv n k) (aB (cY O3 h) O3)
theorem Zdt {P:Program} {e:TypeId} {n:Nat} {c a:TypeInfo} {z:Value}   (hi:P.info? t=some c) (g:P.underlying t=some (.array n e)) (h:c.zero=some z) (d:P.info? e=some a)
  (f:Instr.fill (λi=>some (i*a.size,a.size)) z.cells parts=some cells):P.built t parts=some cells:=by
 unfold Program.built;simp only [hi,g,h,d,f]
variable {P:Program} {N:Nat} {sc:Nat->Prop} {env env':Qk} {H H':Hp} {Q Q':Exit->Act->World->Prop}
def Yg{α:Type _}(i:Nat)(a b c:α):α:=match i with
 | 0=>a
 | 1=>b
 | _=>c
theorem Bn{α:Type _}{p:α->Prop}{i:Nat}{a b c:α}(d:p a)(e:p b)(f:p c):p (Yg i a b c):=by unfold Yg;split<;>assumption
theorem Znr (i:Nat)   {e:TypeId}   {m:Int}  (j:o.op= .index t x y) (n:ev env x=some (.agg #[v0,v1,v2])) (p:ev env y=some (.int kd m))
  (l:P.underlying t=some (.array 3 e)) (g:∀w,(sizeOf e).run P w= .ok 1 w) (f:∀w,(isAgg e).run P w= .ok false w) (c:m=(i:Int)) (h:i<3:=by omega):Mv P N sc o env H (Yg i v0 v1 v2):=λa w hs=>by
 subst c;have d:i=0\/i=1\/i=2:=O;rcases d with rfl|rfl|rfl<;>simp [execOp,j,hs.ev n,hs.ev p,Instr.index,asIntOf,run_underlying l,g,f,asAgg,part,Yg]
theorem Zg3 {α:Type}  {enc:α->Value}  {f g j:List α} (i c d e n:Nat) (l:lk H c=some (Yn k enc v0 f)) (m:lk H d=some (Yn k enc v1 g)) (p:lk H e=some (Yn k enc v2 j))
  (q:Nat.beq c 0=false) (r:Nat.beq d 0=false) (s:Nat.beq e 0=false):∀a w,Sat N sc env H a w->Sat N sc env ((n,Yn k enc (Yg i v0 v1 v2) (Yg i f g j))::H) a w:=by
 match i with
 | 0=>exact Zcb c n l q rfl (λw h=>h) (λb h=>h) rfl
 | 1=>exact Zcb d n m r rfl (λw h=>h) (λb h=>h) rfl
 | i+2=>exact Zcb e n p s rfl (λw h=>h) (λb h=>h) rfl
theorem Zt7 (i:Nat)(j:Nat){α:Type}{enc:α->Value}{l:List α}(d:α)(n:o.op= .load t x)(s:ev env x=some (.pointer (some ⟨b,0+j*k,none⟩)))(g:lk H i=some (box b tb (cellsOf enc l).toArray))(e:Enc P t k enc)(m:j<l.length) :
  Mv P N sc o env H (enc (l.getD j d)):=λa w hs=>by
 have hi:l[j]? = some (l.getD j d):=by simp [List.getD,aM m]
 have h:=e.load (l.getD j d) w ⟨b,0+j*k,none⟩ (λq u p=>by have f:=Hz e.cells l j _ hi q u p;rw [Py,hs.boxc g];simpa using f)
 have c:=hs.ev s;generalize enc (l.getD j d)=r at h ⊢;generalize (⟨b,0+j*k,none⟩:Addr)=v at h c;simp [execOp,n,c,Instr.loadAt,Instr.sureAddr,h]
theorem t_sbe (i:Nat)(j:Nat)(k:Nat) {α:Type}      {enc:α->Value} {l:List α} (z:α) {w0:World}  (q:o.op= .store t x y) (n:o.dst=none)
  (v:ev env x=some (.pointer (some ⟨b,0+j*k,none⟩))) (w:ev env y=some (enc z)) (h:lk H i=some (box b tb (cellsOf enc l).toArray)) (a:Enc P t k enc) (f:j<l.length)
  (g:lk H 0=some (Zt w0 M0)) (s:∀b,w0.heap.size<=b->sc b) (m:M b) (c:i≠0:=by decide) :
  T P N sc M o env H (G:=Unit) (λ_=>True) (λ_=>env) (λ_=>(i,box b tb (cellsOf enc (l.set j z)).toArray)::H):=by
 have p:=Xb a.cells l;have e:(enc z).cells.toList.length=k:=by simp [a.cells]
 have d:(j+1)*k<=l.length*k:=aP _ f;rw [eT]at d;refine Zhu (vs:=(enc z).cells.toList) q n v w h c rfl a.size e (by rw [e,lY,p];omega) (λu r=>Zl (a.one z u r)) ?_ g s m;unfold Gt;rw [bT,e,Zc2 a.cells l j z f]
end Go.Sky
namespace Go.Sky
variable{o:Oper}{x:Operand}{t tb te:TypeId}{M M0:Nat->Prop}{cs:Array Value}
variable {P:Program} {N:Nat} {sc:Nat->Prop} {env env':Qk} {H H':Hp} {Q Q':Exit->Act->World->Prop}
theorem d_lea{α:Type}{i b k q:Nat}{enc:α->Value}{l:List α}(f:o.op= .load t x)(j:ev env x=some (.pointer (some ⟨b,0,none⟩)))(a:lk H i=some (box b tb (cellsOf enc l).toArray))(c:Enc P te q enc)(g:∀w,(isAgg t).run P w= .ok true w)(d:∀w,(sizeOf t).run P w= .ok k w)(e:l.length*q=k) :
  Mv P N sc o env H (.agg (cellsOf enc l).toArray):=
 Zz8 (vs:=cellsOf enc l) f j a g d (by rw [Xb c.cells l];exact e) (λn u h=>by rw [bT];simpa using h)
theorem t_sea {α:Type}   {y:Operand}  {i b k q:Nat}  {enc:α->Value} {l:List α} {w0:World}  (r:o.op= .store t x y) (m:o.dst=none)
  (v:ev env x=some (.pointer (some ⟨b,0,none⟩))) (B:ev env y=some (.agg (cellsOf enc l).toArray)) (g:lk H i=some (box b tb cs)) (d:Enc P te q enc) (n:∀w,(sizeOf t).run P w= .ok k w) (p:l.length*q=k) (j:cs.size=k)
  (f:lk H 0=some (Zt w0 M0)) (s:∀b,w0.heap.size<=b->sc b) (h:M b) (a:i≠0:=by decide) :
  T P N sc M o env H (G:=Unit) (λ_=>True) (λ_=>env) (λ_=>(i,box b tb (cellsOf enc l).toArray)::H):=by
 have c:(cellsOf enc l).length=k:=by rw [Xb d.cells l];exact p
 refine Zhu (vs:=cellsOf enc l) r m v B g a rfl n c (by rw [c,bT,j];exact aI _) (λu e=>?_) (by unfold Gt;rw [fT,kJ,bT,List.drop_eq_nil_of_le O9,iE]) f s h
 unfold cellsOf at e;obtain⟨z,_,D⟩:=gT.1 e;exact Zl (d.one z u D)
end Go.Sky
namespace Go.Sky
variable {P:Program} {N:Nat} {sc:Nat->Prop} {env env':Qk} {H H':Hp} {Q Q':Exit->Act->World->Prop}
abbrev Ze:=(Int×Int×Int)×(SL×List Int)×(SL×List Int)×(SL×List Int)
abbrev Pw (g:Ze):Value:= .agg #[.int .i64 g.1.1,.int .i64 g.1.2.1,.int .i64 g.1.2.2,Yx g.2.1.1,Yx g.2.2.1.1,Yx g.2.2.2.1]
abbrev qC (z:SL×List Int):Pc:=Yn 1 Xi (Yx z.1) z.2
abbrev qG (g:Ze):Pc:=Hi qC [g.2.1,g.2.2.1,g.2.2.2]
abbrev G0:Ze:=((0,0,0),((none,0,0),[]),((none,0,0),[]),((none,0,0),[]))
def Gr (g:Ze)(z:SL×List Int){v:Value}{ps:List Ze}(j n:Nat)(i:lk H j=some (Xp 6 Pw qG v ps))(c:Nat.beq j 0=false)(d:g∈ps)(e:z∈[g.2.1,g.2.2.1,g.2.2.2]):∀a w,Sat N sc env H a w->Sat N sc env ((n,Yn 1 Xi (Yx z.1) z.2)::H) a w:=
 Zcb j n i c rfl (λw h=>h.2 g d z e) (λb f=> .inr ⟨g,d,z,e,f⟩) rfl
end Go.Sky
namespace Go.Sky
variable{x c z y:List Int}{i:Nat}{over ov:Int}
theorem Eo{x:Int}(h:My x):bl x.natAbs<=64:=(Qs 64 _).2 (by obtain⟨a,b⟩:=h;omega)
theorem in_bl{x:Int}(h:bl x.natAbs<=63):My x:=by have:=(Qs 63 x.natAbs).1 h;exact⟨O,O⟩
theorem bl_pw{n:Int}(h:bl n.natAbs<=100)(hi:i<=10):bl (n^i).natAbs<=1000:=by
 rcases aX i with a|a
 .subst a;rw [eK];decide
 .exact aB (Bf n h i a) (by have:=aP 100 hi;omega)
def Av:List Int->Int
 | []=>1
 | x::r=>x*Av r
def zc6_eq:(Value.agg (List.replicate 36 (Value.int .i64 0)).toArray).cells=Af (List.replicate 36 0):=rfl
def Zq3:(Value.agg (List.replicate 36 (Value.int .i64 0)).toArray).cells.size=36:=rfl
def w60(n j k:Nat):Int:=60/(Oa n k:Int)*(Oa j k:Int)
def ctl(c:List Int)(j m:Nat):Int:=Yf (λk=>c.getD k 0*w60 (c.length-1) j k) m
def Yin(c:List Int)(j m:Nat):ctl c j (m+1)=ctl c j m+c.getD m 0*w60 (c.length-1) j m:=rfl
theorem Zqj:∀{n k:Nat},k<=n->0<Oa n k
 | n,0,_=>by cases n<;>exact Nat.one_pos
 | n+1,k+1,h=>by have:=Zqj (n:=n) (k:=k) O;show 0<Oa n k+Oa n (k+1);omega
theorem Yda (n:Nat)(k:Nat){j:Nat}(d:j<=5):0<=w60 n j k/\w60 n j k<=1920:=by have e:=Zww k d;unfold w60;have a:(0:Int)<=60/(Oa n k:Int):=kI O3 O;have b:(60:Int)/(Oa n k:Int)<=60:=jZ _ O3;refine⟨cZ a O,?_⟩;have:=jK b (show(Oa j k:Int)<=32 by omega) O O3;omega
theorem Zw3 (k:Nat){n j:Nat}(a:j<=5):bl (w60 n j k).natAbs<=11:=by have:=Yda n k a;exact(Qs 11 _).2 O
theorem Fc(h:∀x∈c,My x)(k:Nat):My (c.getD k 0):=by
 by_cases a:k<c.length
 .exact h _ (Zk a)
 .rw [aN,cQ O];exact⟨O3,O3⟩
theorem Yi8(h:∀x∈c,My x){j m:Nat}(a:j<=5)(b:m<=31):bl (ctl c j m).natAbs<=80:=
 Zja (K:=75) (λk _=>by have d:=Eo (Fc h k);have e:=Zw3 k (n:=c.length-1) a;have:=Xx (c.getD k 0) (w60 (c.length-1) j k);omega) b
def Zhn(c:List Int)(over:Int):Bool:=(List.range c.length).all λj=>decide ((ctl c j (j+1)).natAbs<=62914560*over)
theorem Zqr(h:∀j,j<c.length->((ctl c j (j+1)).natAbs:Int)<=62914560*over):Zhn c over=true:=by unfold Zhn;rw [bA];intro j a;exact aD (h j (cM.1 a))
theorem bndB_f{j:Nat}(a:j<c.length)(h:¬((ctl c j (j+1)).natAbs:Int)<=62914560*over):Zhn c over=false:=by
 cases hb:Zhn c over with
 | false=>rfl
 | true=>
  unfold Zhn at hb;rw [bA]at hb;exact absurd (cH (hb j (cM.2 a))) h
theorem wc_abs{s:Int}:(#[.bool false,.string (Xn s.natAbs)]:Array Value)=wc (s.natAbs:Int):=by have:decide (((s.natAbs:Nat):Int)<0)=false:=aF O;rw [show wc (s.natAbs:Int)=#[.bool (decide (((s.natAbs:Nat):Int)<0)),.string (Xn ((s.natAbs:Nat):Int).natAbs)]from rfl,this,eH]
theorem sgp{z:Int}:0<z.sign↔0<z:=by simpa using Zbd z
def axB(c:List Int)(over:Int):Bool:=decide (1<=c.length) && decide (c.length<=6) && !(decide (1<c.length) && decide (c.getD (c.length-1) 0=0)) && Zhn c over
def Lm(g:Int):List Int->Int
 | []=>g
 | x::r=>Lm (Int.gcd g x) r
theorem Ch:∀(a b:List Int) (g:Int),Lm g (a ++ b)=Lm (Lm g a) b
 | [],_,_=>rfl
 | x::a,b,g=>Ch a b _
theorem Zhk{l:List Int}{g:Int}(h:i<l.length):Lm g (l.take (i+1))=(Int.gcd (Lm g (l.take i)) (l.getD i 0):Int):=by rw [Pr 0 _ _ h,Ch];rfl
theorem Zgm:∀{l:List Int} {g:Int} {m:Nat},(∀x∈l,bl x.natAbs<=m)->bl g.natAbs<=m->bl (Lm g l).natAbs<=m
 | [],_,_,_,h=>h
 | x::l,g,m,h,hg=>Zgm (l:=l) (λy a=>h y (bN _ a)) (aB (Zqt g x) (by have:=h x (bX ..);omega))
abbrev Cs:=List Int×List Int×List Int
def Zu5(fr a ov:Int):Bool:=decide (0<=fr) && decide (fr<a) && decide (a<=3600000) && decide (1<=ov) && decide (ov<=4294967296)
def Zap(fr a ov:Int)(x y z:List Int):Bool:=Zu5 fr a ov && axB x ov && axB y ov && axB z ov && decide (Lm ov (x ++ y ++ z)=1)
def Ij(i:Nat)(x y z:List Int):List Int:=match i with
 | 0=>[]
 | 1=>x
 | 2=>x ++ y
 | _=>x ++ y ++ z
theorem Zco(x y z:List Int)(h:i<3):Ij (i+1) x y z=Ij i x y z ++ Yg i x y z:=by
 match i,h with
 | 0,_=>rfl
 | 1,_=>rfl
 | 2,_=>rfl
theorem Zj1 (i:Nat){fr a:Int}(h:axB (Yg i x y z) ov=false):Zap fr a ov x y z=false:=by unfold Zap;revert h;unfold Yg;split<;>intro h<;>simp [h]
theorem Zjq{fr a:Int}(h:¬(0<=fr/\fr<a/\a<=3600000/\1<=ov/\ov<=4294967296)):Zap fr a ov x y z=false:=by
 cases hb:Zap fr a ov x y z with
 | false=>rfl
 | true=>
  unfold Zap Zu5 at hb;simp only [aQ,cS]at hb;exact absurd O h
theorem Zus(h:1<=c.length->c.length<=6->¬(1<c.length/\c.getD (c.length-1) 0=0)->Zhn c ov=true->False):axB c ov=false:=by
 cases hb:axB c ov with
 | false=>rfl
 | true=>
  unfold axB at hb;simp only [aQ,fN,iS,cS,fU]at hb;exact(h hb.1.1.1 hb.1.1.2 (λb=>by rcases hb.1.2 with a|a;exact a b.1;exact a b.2) hb.2).elim
theorem Yjk(b:1<=c.length)(d:c.length<=6)(e:¬(1<c.length/\c.getD (c.length-1) 0=0))(f:Zhn c ov=true):axB c ov=true:=by
 unfold axB;simp only [aQ,fN,iS,cS,fU];refine⟨⟨⟨b,d⟩,?_⟩,f⟩;by_cases a:1<c.length
 .exact .inr λg=>e ⟨a,g⟩
 .exact .inl a
theorem segB_e{fr d:Int}(a:0<=fr/\fr<d/\d<=3600000/\1<=ov/\ov<=4294967296)(b:∀k,k<3->axB (Yg k x y z) ov=true):Zap fr d ov x y z=decide (Lm ov (Ij 3 x y z)=1):=by have e:axB x ov=true:=b 0 O3;have f:axB y ov=true:=b 1 O3;have g:axB z ov=true:=b 2 O3;unfold Zap Zu5;rw [aD a.1,aD a.2.1,aD a.2.2.1,aD a.2.2.2.1,aD a.2.2.2.2,e,f,g];rfl
def Zaa(b:∀a∈x,My a)(d:∀a∈y,My a)(e:∀a∈z,My a)(i:Nat):∀a∈Yg i x y z,My a:=Bn (p:=λl=>∀a∈l,My a) b d e
theorem bl_fc(d:∀a∈x,My a)(e:∀a∈y,My a)(f:∀a∈z,My a)(g:bl ov.natAbs<=64)(i k:Nat):bl (Lm (Lm ov (Ij i x y z)) ((Yg i x y z).take k)).natAbs<=64:=by
 refine Zgm (λa b=>Eo (Zaa d e f i a (fP b))) (Zgm (λa b=>Eo ?_) g);unfold Ij at b;split at b
 .cases b
 .exact d a b
 .rcases cW.1 b with h|h
  .exact d a h
  .exact e a h
 .rcases cW.1 b with h|h
  .rcases cW.1 h with h|h
   .exact d a h
   .exact e a h
  .exact f a h
end Go.Sky

