/- Rules, arithmetic and contracts: part 4. No conditions but those that each theorem names. -/
import Derived.Test.YthennaflbbajkaaGreatAx02
import Derived.Scope
set_option linter.all false
namespace Go.Sky
variable{a b s c:List Int}
theorem Bc (k:Nat){f:Nat->Int} : ∀{n:Nat},k<n->(∀i,i<n->i≠k->f i=0)->Yc f n=f k
 | 0,d,_=>absurd d (bH _)
 | n+1,d,h=>by
  rw [Yp];by_cases e:k=n
  .subst e;rw [Fo λi hi=>h i O O,lZ]
  .rw [h n O6 (λx=>e x.symm),Bc _ O (λi hi=>h i O),bK]
theorem Bn{p q:List Int}{a b:Nat}(e:∀i,a<i->cf p i=0)(f:∀i,b<i->cf q i=0):(ps p*ps q).c (a+b)=cf p a*cf q b:=by
 rw [PS.mul_c,Bc a O λi hi d=>?_]
 .grind [Ld]
 .rw [Ld,Ld];grind
theorem Zj9(s e:List Int)(c d:Int)(f:PS)(t:Nat):(ps (Zbb (Yx s c) (Yx e d))*f).c t=c*(ps s*f).c t-d*(ps e*f).c t:=by rw [PS.mul_c,PS.mul_c,PS.mul_c,<-Md,cL,<-Int.neg_mul,<-Md,<-Ev];refine Xg λk _=>?_;rw [Ld,Ld,Ld,Zbm,Qm,Qm];grind
theorem Ylb{q r:List Int}(j:Tr q)(f:q≠[])(h:∀t,(ps s*ps q).c t=cf r t)(o:∀t,q.length-1<=t->cf r t=0):∀t,cf s t=0:=by
 have d:=j.mem f;have hs:tzl s=[]:=by
  rcases Zh5 _ with g|⟨u,y,g⟩
  .omega
  .have k:=Qo s;have e:tzl s≠[]:=O10;have l:=k.mem e;have m:=Bn (p:=tzl s) (q:=q) (a:=(tzl s).length-1) (b:=q.length-1) (λi hi=>Yv O) (λi hi=>Yv O);have n:ps _=ps s:=PS.ext' λi=>Iz s i;grind [Int.mul_eq_zero]
 grind [Kt]
theorem Lu(h:∀t,cf s t=0)(f:PS)(t:Nat):(ps s*f).c t=0:=by simp_all [PS.mul_c,Fo,Ld,cM]
theorem Nw{p q:List Int}(f:Tr p)(g:Tr q)(d:p≠[])(e:q≠[]):(Qw p q).length=p.length+q.length-1:=by have h:=aL.2 d;have j:=aL.2 e;unfold Qw;rw [Zad,Yy];right;rw [Yy,Kq,aN O,show p.length+q.length-1-1=(p.length-1)+(q.length-1) by omega,Bn (λi hi=>Yv O) (λi hi=>Yv O)];exact bC (f.mem d) (g.mem e)
def mono(s:Nat)(c:Int):List Int:=List.replicate s 0 ++ [c]
theorem Zip(s:Nat)(c:Int)(i:Nat):cf (mono s c) i=if i=s then c else 0:=by
 unfold mono;rw [Znc];split
 .unfold cf;grind
 .split
  .rename_i d;subst d;simp [cf]
  grind [Yv]
theorem Zkb(s:Nat)(c:Int)(f:PS)(t:Nat):(ps (mono s c)*f).c t=if s<=t then c*f.c (t-s)else 0:=by
 rw [PS.mul_c];split
 .rw [Bc s O λi _ d=>by rw [Ld,Zip,aJ d,cM],Ld,Zip,aN rfl]
 .exact Fo λk e=>by rw [Ld,Zip,aJ O,cM]
theorem Zgo{p q:List Int}(o:0<q.length)(n:q.length<=p.length):∀j,j<=p.length-q.length+1->∃s:List Int,∀t,cf q (q.length-1)^j*cf p t=(ps s*ps q).c t+cf (Pw p q j) t
 | 0,_=>⟨[],λt=>by rw [Lu (λt=>Yv (bG _))];unfold Pw;simp⟩
 | j+1,y=>by
  obtain⟨s,r⟩:=Zgo o n j O;refine⟨Zbb (Yx s (cf q (q.length-1))) (Yx (mono (p.length-1-j-(q.length-1)) (cf (Pw p q j) (p.length-1-j))) (-1)),λt=>?_⟩;rw [Zj9,Zkb];have d:=r t;show _=_+cf (Zjn q _ _) t;rw [eA];rcases aY t p.length with h|h
  .rw [Ztw (by grind [Lv])];generalize p.length-1-j-(q.length-1)=f;generalize cf (Pw p q j) t=k at d ⊢;generalize (ps s*ps q).c t=X at d ⊢;generalize cf q _^j=L at d ⊢;generalize cf q _=l at d ⊢;have e:L*l*cf p t=l*X+k*l:=O4;rw [e];by_cases m:f<=t
   .rw [aN m,Ld];by_cases x:t<f+q.length
    .omega
    .rw [Yv (p:=q) (i:=t-_) O];simp
   omega
  .have g:=Yv h;have u:cf (Pw p q j) t=0:=Yv (by grind [Lv]);have v:cf (Zjn q (Pw p q j) (p.length-1-j)) t=0:=Yv (by grind [Zfp,Lv]);have w:cf q (t-(p.length-1-j-(q.length-1)))=0:=Yv O;rw [g,u,bK]at d;rw [g,v,Ld,w,<-d];simp
theorem Zam(p:List Int){q:List Int}(e:q≠[]):∃(k:Nat) (s:List Int),∀t,cf q (q.length-1)^k*cf p t=(ps s*ps q).c t+cf (Qq p q) t:=by
 have d:=aL.2 e;rcases aY p.length q.length with h|h
 .refine⟨0,[],λt=>?_⟩;rw [Lu (λt=>Yv (bG _))];unfold Qq;grind
 .obtain⟨s,hs⟩:=Zgo d h _ (aG _);refine⟨p.length-q.length+1,s,λt=>?_⟩;unfold Qq;simp_all [aJ,Iz]
theorem Pn(p:List Int){q:List Int}(e:q≠[]):(Qq p q).length<q.length:=by
 have d:=aL.2 e;unfold Qq;split
 .omega
 .have:=Za4 (p:=Pw p q _) λi hi=>Zjm d O _ (aG _) i O;omega
theorem Ij{p q:List Int}(d:Tr p):Tr (Qq p q):=by unfold Qq;grind [Qo]
def Sim(a b:List Int):Prop:=∃m n:Int,m≠0/\n≠0/\∀i,m*cf a i=n*cf b i
def Sim.refl(a:List Int):Sim a a:=⟨1,1,O,O,λ_=>rfl⟩
def Sim.symm : Sim a b->Sim b a:=λ⟨m,n,d,e,h⟩=>⟨n,m,e,d,λi=>(h i).symm⟩
def Sim.trans : Sim a b->Sim b c->Sim a c:=λ⟨m,n,d,e,h⟩ ⟨u,v,f,g,k⟩=>
 ⟨m*u,n*v,bC d f,bC e g,λi=>O4⟩
theorem Sim.zero(h:Sim a b){i:Nat}(hi:cf a i=0):cf b i=0:=by obtain⟨m,n,d,e,h⟩:=h;grind [Int.mul_eq_zero]
theorem Sim.len_le(h:Sim a b)(e:Tr b):b.length<=a.length:=by
 rcases aY a.length b.length with f|f
 .exfalso;have d:b≠[]:=aL.1 O;exact e.mem d (h.zero (Yv O))
 omega
def Sim.len(h:Sim a b)(d:Tr a)(e:Tr b):a.length=b.length:=iW (h.symm.len_le d) (h.len_le e)
theorem Sim.nil(h:Sim a b)(d:Tr b)(e:a=[]):b=[]:=by have:=h.len_le d;simp_all
theorem Zbr(c:Int):∀(p:List Int) (g:Int),0<=g->(p.map (· * c)).foldl (λg c=>(Int.gcd g c:Int)) (g*c.natAbs)=p.foldl (λg c=>(Int.gcd g c:Int)) g*c.natAbs
 | [],g,_=>rfl
 | x::p,g,hg=>by
  rw [cI,fZ,fZ,<-Zbr c p _ O6];congr 1;have:Int.gcd (g*(c.natAbs)) (x*c)=Int.gcd g x*c.natAbs:=by unfold Int.gcd;grind [Int.natAbs_mul,Int.natAbs_natCast,Nat.gcd_mul_right]
  omega
theorem Zgt(p:List Int)(c:Int):Xq (p.map (· * c))=Xq p*c.natAbs:=by have:=Zbr c p 0 (eU _);rw [cM]at this;exact this
theorem Fd(p:List Int)(i:Nat):cf (Yt p) i*Xq p=cf p i:=by grind [Zcs,Int.ediv_mul_cancel,Kk]
theorem Yaq:Yt []=[]:=rfl
theorem Zap{p:List Int}(h:Tr p)(d:p≠[]):Xq p≠0:=λe=>h.mem d ((Zca p).1 e _)
theorem Hm{p:List Int}(h:Tr p)(d:p≠[]):Xq (Yt p)=1:=by
 have f:=Zap h d;have e:=Zgt (Yt p) (Xq p);rw [show(Yt p).map _=p from Kn (by rw [bJ,Yh]) λi _=>by grind [Zen,Fd]]at e;have g:=Ms p;have j:Xq p*(Xq (Yt p)-1)=0:=by grind
 all_goals grind [Int.mul_eq_zero]
theorem Zfa{p:List Int}(h:Xq p=1):Yt p=p:=Kn (Yh p) λi _=>by rw [Zcs,h,mA]
theorem Zd9{p:List Int}(h:Tr p):Yt (Yt p)=Yt p:=by
 by_cases d:p=[]
 .subst d;rfl
 grind [Zfa,Hm]
theorem Qt{p:List Int}(h:Tr p):Sim (Yt p) p:=by
 by_cases d:p=[]
 .subst d;exact Sim.refl _
 .exact⟨Xq p,1,Zap h d,O,λi=>by grind [Fd]⟩
def Xp(p:List Int):List Int:=Ht (Yt p)
theorem Zq4{x y:List Int}(o:Tr x)(p:Tr y)(q:x≠[])(d:Xq x=1)(f:Xq y=1)(h:Sim x y):x=y\/∀i,cf x i=- cf y i:=by
 have r:=h.len o p;obtain⟨m,n,t,l,e⟩:=h;have g:=Zgt x m;have j:=Zgt y n;rw [show x.map _=y.map (· * n)from Kn O4 λi _=>by grind [Zen,Int.mul_comm],j,d,f]at g
 have k:m=n\/m=-n:=O;rcases k with rfl|rfl
 .grind [Kn,Int.eq_of_mul_eq_mul_left]
 .exact .inr λi=>iA l O4
theorem Bq(g:List Int)(i:Nat):cf (Ht g) i=if g.length≠0/\cf g (g.length-1)<0 then-cf g i else cf g i:=by unfold Ht;grind [Qm]
theorem Nt{g:List Int}(h:Tr g):Tr (Ht g):=by unfold Ht;grind [Nk]
theorem Iu(g:List Int):Sim (Ht g) g:=by
 by_cases h:g.length≠0/\cf g (g.length-1)<0
 .exact⟨-1,1,O,O,λi=>by simp_all [Bq,aN]⟩
 .exact⟨1,1,O,O,λi=>by rw [Bq,aJ h]⟩
theorem Zsz:∀(f:Nat) {a b:List Int},Tr a->Tr b->Tr (eu f a b)
 | 0,_,_,h,_=>h
 | f+1,a,b,d,e=>by
  unfold eu;split
  .exact d
  .exact Zsz f e (Xe (Ij d))
theorem Zyw:∀(f:Nat) {a b:List Int},Tr a->Tr b->Yt a=a->Yt b=b->Yt (eu f a b)=eu f a b
 | 0,_,_,_,_,h,_=>h
 | f+1,a,b,d,i,e,g=>by
  unfold eu;split
  .exact e
  .exact Zyw f i (Xe (Ij d)) g (Zd9 (Ij d))
theorem Zi7{p q:List Int}(d:Tr p)(e:Tr q):Tr (gA p q):=by unfold gA;all_goals grind [Xe]
theorem Zi6{p q:List Int}(d:Tr p)(e:Tr q):Tr (gB p q):=by unfold gB;all_goals grind [Xe]
theorem Yed{F:Nat}{p q:List Int}(d:Tr p)(e:Tr q):Mo F p q=Xp (eu F (gA p q) (gB p q)):=by
 unfold Mo Xp;rw [Zyw F (Zi7 d e) (Zi6 d e)]
 .unfold gA;grind [Zd9]
 .unfold gB;grind [Zd9]
def chk:Nat->Nat->Nat->Nat->Nat->Bool
 | 0,_,d,_,_=>Nat.beq d 0
 | f+1,e,d,A,B=>Nat.beq d 0 || (bif Nat.blt e d then chk f d e B A else
   Nat.ble (A+(e-d+1)*B) 65537 && (List.range d).all λl=>chk f d l B (bif Nat.ble l 1 then 2 else A+(e-d+1)*B))
theorem cp_nf{p:List Int}{x y z:Int}{n m:Nat}(d:Sz n p)(j:bl x.natAbs<=m)(k:bl y.natAbs<=m)(l:bl z.natAbs<=m)(i:p.length<=25)(h:n+24*(m+1)+8<=65536):Qy p+(p.length-1)*(Qy [x,y,z]+1)+8<=65536:=by
 have e:=Px d;have f:Qy [x,y,z]<=m:=by simp only [Qy];omega
 have g:(p.length-1)*(Qy [x,y,z]+1)<=24*(m+1):=aS O O;omega
theorem cp_not{p:List Int}{x y z:Int}(h:Qy p+(p.length-1)*(Qy [x,y,z]+1)+8<=65536):¬Zk6 p x y z:=λd=>by have:=d.2;omega
theorem Zee(p:List Int)(x y z:Int):(Kl p x y z).length<=p.length:=by
 unfold Kl;split
 .simp
 grind [Nat.le_trans,Hj,Zcf]
theorem Zsb(x y:Int):Lb x y∣x:=by
 unfold Lb;split
 all_goals grind [Int.neg_dvd,Int.gcd_dvd_left]
theorem Zsa(x y:Int):Lb x y∣y:=by
 unfold Lb;split
 all_goals grind [Int.neg_dvd,Int.gcd_dvd_right]
def s8(l:List Int):Prop:=∀x∈l,(Xm x.natAbs).size<=8
abbrev Z0:SL×List Int:=((none,0,0),[])
theorem vp_eu:∀(f:Nat) {a b:List Int},Vp a->Vp b->eok f a b->Vp (eu f a b)
 | 0,_,_,h,_,_=>h
 | f+1,a,b,d,e,h=>by
  unfold eu;split
  .exact d
  .rcases h with h|h
   .contradiction
   .exact vp_eu f e (Ii (Zbx d h.1)) h.2
theorem Yca{g:List Int}(h:Vp g):Vp (Ht g):=by
 unfold Ht;split
 .refine⟨λi=>by rw [Qm];exact Zbn h.sz i,Nk _ _,aB Lr h.len⟩
 omega
def Yjg{F:Nat}{p q:List Int}(d:Vp p)(e:Vp q)(h:eok F (gA p q) (gB p q)):Vp (Mo F p q):=Yca (vp_eu F (vp_gA d e) (vp_gB d e) h)
def pevn(p:List Int)(x y:Int)(n:Nat):Int:=Yc (λi=>cf p i*(x^i*y^(n-1-i))) n
def dn(p:List Int)(y:Int):Int:=y^(p.length-1)
theorem Ey(q:List Int):Qw [] q=[]:=Zfc (.inl rfl)
theorem Zeb(p:List Int):Qw p []=[]:=Zfc (.inr rfl)
theorem Yfd(N D:Int):N/Lb N D*D=N*(D/Lb N D):=by grind [Int.ediv_mul_cancel,Zsb,Zsa]
theorem Ya3{N D:Int}(h:0<D):0<D/Lb N D:=by
 have f:Lb N D=(Int.gcd N D):=aJ O;have g:=lC (Zsa N D);rw [f]at g ⊢;generalize D/(Int.gcd N D)=d at *;rcases iN 0 d with e|e
 .omega
 .have:d*(Int.gcd N D)<=0:=fF e O6;omega
section
variable {p q:List Int}
theorem Zej(l:Tr p)(f:Tr q)(h:p≠[])(d:q≠[]):∀j,j<=p.length->∀t,cf (Pd (Qw p q) q j) t=(ps (p.take (p.length-j))*ps q).c t
 | 0,_,t=>by rw [iO,cE];exact Ge p q t
 | j+1,y,t=>by
  have n:=Zej l f h d j O;have z:=aL.2 d;have v:=Nw l f h d;have r:Pd (Qw p q) q (j+1)=Zm0 q (Pd (Qw p q) q j) (p.length-1-j):=by show Zm0 q _ _=_;grind
  have w:=f.mem d;have m:cf (Pd (Qw p q) q j) (p.length-1-j+q.length-1)=cf p (p.length-1-j)*cf q (q.length-1):=by rw [n,show p.length-1-j+q.length-1=(p.length-1-j)+(q.length-1) by omega,Bn (λi hi=>by rw [Eb,aJ O]) (λi hi=>Yv O),Eb,aN O]
  have e:dq q (Pd (Qw p q) q j) (p.length-1-j)=cf p (p.length-1-j):=by unfold dq;simp_all
  have u:(ps (p.take (p.length-j))*ps q).c t=(ps (p.take (p.length-(j+1)))*ps q).c t+(ps (mono (p.length-1-j) (cf p (p.length-1-j)))*ps q).c t:=by rw [PS.mul_c,PS.mul_c,PS.mul_c,<-Ev];refine Xg λk _=>?_;rw [Ld,Ld,Ld,Ld,Eb,Eb,Zip];grind
  rw [r];unfold Zm0;rw [Kq,Zai,v,e,n,u,Zkb,Ld];by_cases g:t<p.length+q.length-1
  .rw [aN g];by_cases o:p.length-1-j<=t
   .rw [aN o];by_cases x:t<p.length-1-j+q.length
    .omega
    .rw [Yv (p:=q) O];simp
   omega
  .rw [aJ g,PS.mul_c];refine(Fo λk _=>?_).symm;rw [Ld,Ld,Eb];split
   .rw [Yv (p:=q) O,dY]
   omega
theorem Zxs(f:Tr p)(g:Tr q)(e:q≠[]):pdv (Qw p q) q/\Hc (Qw p q) q=p:=by
 by_cases d:p=[]
 .subst d;rw [Ey];exact⟨.inl rfl,rfl⟩
 have r:=aL.2 d;have t:=aL.2 e;have o:=Nw f g d e;have m:=g.mem e;have n:∀k,k<=p.length-1->cf (Pd _ q (p.length-1-k)) (k+q.length-1)=cf p k*cf q _:=λk j=>by rw [Zej f g d e _ O,show k+q.length-1=k+(q.length-1) by omega,Bn (λi hi=>by rw [Eb,aJ O]) (λi hi=>Yv O),Eb,aN O]
 have l:(Qw p q).length-q.length=p.length-1:=O;have h:Qw p q≠[]:=aL.1 O;refine⟨.inr ⟨O,λk j=>?_,?_⟩,?_⟩
 .unfold Iy;simp_all
 .rw [l,show p.length-1+1=p.length by omega];refine(Kt _).2 λi=>?_;rw [Zej f g d e _ (aG _),jE];simp [Lu,Yv,bG]
 .rw [Zro h];unfold Yd5;rw [l,show p.length-1+1=p.length by omega,Bj λk j=>?_,Zie,Zad f];unfold Zy9 dq;grind [Int.mul_ediv_cancel]
end
def Dv(g a:List Int):Prop:=∃(k:Int) (s:List Int),k≠0/\∀t,k*cf a t=(ps s*ps g).c t
theorem Zry(f:PS)(t:Nat):(ps [1]*f).c t=f.c t:=by rw [PS.mul_c,Bc 0 O6 λi _ d=>by rw [Ld,Yv O4,cM],Ld,show cf [1] 0=1 from rfl,iF,iO]
theorem Dv.refl(a:List Int):Dv a a:=⟨1,[1],O,λt=>by rw [Zry,iF,Ld]⟩
theorem Dv.nil(g:List Int):Dv g []:=⟨1,[],O,λt=>by simp [Lu,Yv,bG]⟩
theorem Dv.sim{g:List Int} : Dv g a->Sim a b->Dv g b:=λ⟨k,s,d,h⟩ ⟨m,n,j,f,e⟩=>
 ⟨k*n,Yx s m,bC d f,λt=>by rw [PS.mul_c,show(λi=>(ps _).c i*(ps g).c _)=λi=>m*((ps s).c i*(ps g).c (t-i))from mO λi=>by grind [Ld,Qm],Md,<-PS.mul_c];grind⟩
theorem Dv.lin{g:List Int}(e:Dv g a)(f:Dv g b)(s:List Int)(L:Int)(d:L≠0)(h:∀t,L*cf c t=(ps s*ps a).c t+cf b t):Dv g c:=by
 obtain⟨k,u,j,r⟩:=e;obtain⟨m,v,l,w⟩:=f;refine⟨L*(k*m),Zcb (Yx (Qw s u) m) (Yx v k),bC d (bC j l),λt=>?_⟩;have n:k*(ps s*ps a).c t=(ps (Qw s u)*ps g).c t:=by rw [Ykr,PS.mul_assoc',PS.mul_c,PS.mul_c,<-Md];grind [Xg,Ld]
 have o:(ps (Zcb (Yx (Qw s u) m) (Yx v k))*ps g).c t=m*(ps (Qw s u)*ps g).c t+k*(ps v*ps g).c t:=by rw [PS.mul_c,PS.mul_c,PS.mul_c,<-Md,<-Md,<-Ev];refine Xg λi _=>?_;rw [Ld,Ld,Ld,Ld,Zzo,Qm,Qm];grind
 grind
theorem eu_dv:∀(f:Nat) {a b:List Int},Tr a->Tr b->eok f a b->Dv (eu f a b) a/\Dv (eu f a b) b
 | 0,a,b,j,d,h=>by rw [show b=[]from h];exact⟨Dv.refl _,Dv.nil _⟩
 | f+1,a,b,j,d,h=>by
  by_cases i:b=[]
  .grind [Zky,Dv.refl,Dv.nil]
  .rcases h with h|h
   .grind
   .have e:eu (f+1) a b=eu f b (Yt (Qq a b)):=by
     conv=>lhs;unfold eu
     grind
    rw [e];have t1:=Ij (q:=b) j;obtain⟨g,l⟩:=eu_dv f d (Xe t1) h.2;obtain⟨k,s,hs⟩:=Zam a i;exact⟨g.lin (l.sim (Qt t1)) s _ (Ic (d.mem i) k) hs,g⟩
theorem Dv.of_sim{g d:List Int} : Dv g a->Sim g d->Dv d a:=λ⟨k,s,f,h⟩ ⟨m,n,i,j,e⟩=>
 ⟨m*k,Yx s n,bC i f,λt=>by grind [Int.mul_assoc,PS.mul_c,Md,Xg,Ld,Qm]⟩
theorem Dv.zero(e:Tr a)(h:Dv [] a):a=[]:=by obtain⟨k,s,f,h⟩:=h;rw [<-Zad e,Kt];intro i;have d:=h i;rw [PS.mul_comm',Lu (λt=>Yv (bG _))]at d;grind [Int.mul_eq_zero]
theorem Zc7{F:Nat}{p q:List Int}(g:Tr p)(i:Tr q)(h:eok F (gA p q) (gB p q)):Dv (Mo F p q) p/\Dv (Mo F p q) q:=by
 have j:=Zi7 g i;have k:=Zi6 g i;obtain⟨d,e⟩:=eu_dv F j k h;have hs:Sim _ (Mo F p q):=(Iu _).symm;have d:=d.of_sim hs;have e:=e.of_sim hs;by_cases f:p.length<q.length
 .rw [show gA p q=Yt q from aN f]at d;rw [show gB p q=Yt p from aN f]at e;exact⟨e.sim (Qt g),d.sim (Qt i)⟩
 .rw [show gA p q=Yt p from aJ f]at d;rw [show gB p q=Yt q from aJ f]at e;exact⟨d.sim (Qt g),e.sim (Qt i)⟩
def Zey (F:Nat){p q:List Int}(d:Tr p)(e:Tr q):Tr (Mo F p q):=Nt (Zsz F (Zi7 d e) (Zi6 d e))
theorem Zuo{p:List Int}{c:Int}(h:c≠0):Sim p (Yx p c):=⟨c,1,h,O,λi=>by grind [Qm]⟩
def fin8(d A:Nat):Bool:=Nat.ble d 2 || Nat.ble (64+(9-d)*A) 65536
def chk2:Nat->Nat->Nat->Nat->Nat->Bool
 | 0,d,_,A,_=>fin8 d A
 | f+1,d,e,A,B=>bif Nat.beq e 0 then fin8 d A else bif Nat.blt d e then chk2 f e d B A else
   (List.range e).all λl=>chk2 f e l B (bif Nat.ble l 1 then 2 else A+(d-e+1)*B)
theorem Zbf{g:List Int}(h:Tr g):(Ht g).length=g.length:=(Iu g).len (Nt h) h
theorem Zhl(g:List Int):Xq (Ht g)=Xq g:=by
 have d:Xq (Ht g)∣Xq g:=Db λi=>by
  have h:=Kk (Ht g) i;rw [Bq]at h;split at h
  all_goals simp_all
 have e:Xq g∣Xq (Ht g):=Db λi=>by
  rw [Bq];split
  all_goals grind [Int.dvd_neg,Kk]
 exact Int.dvd_antisymm (Ms _) (Ms _) d e
theorem Zjz{F:Nat}{p q:List Int}(f:Tr p)(g:Tr q)(d:Mo F p q≠[]):Xq (Mo F p q)=1:=by rw [Yed f g]at d ⊢;unfold Xp at d ⊢;rw [Zhl];refine Hm (Zsz F (Zi7 f g) (Zi6 f g)) λe=>d ?_;rw [e];rfl
end Go.Sky
namespace Go.Sky
variable{a b p x y xs:List Int}{i:Nat}{s:Int}{ls:List (SL×List Int)}
def Zal(xs:List Int):Prop:=xs.length=0\/(xs.length+2)*(xs.length+2)*(Qy xs+16)<=65536
instance (xs:List Int):Decidable (Zal xs):=by unfold Zal;infer_instance
def sqf(F:Nat)(xs:List Int):List Int:=Hc (Xp xs) (Mo F (Xp xs) (Xc (Xp xs)))
def Yj0(F:Nat)(xs:List Int):Prop:=(∀i,i<xs.length->bl (cf (Xp xs) (i+1)*((i:Int)+1)).natAbs<=65536)/\¬Zmv (Xp xs) (Xc (Xp xs))/\eok F (gA (Xp xs) (Xc (Xp xs))) (gB (Xp xs) (Xc (Xp xs)))/\
 Ct (Xp xs) (Mo F (Xp xs) (Xc (Xp xs)))=0/\pdv (Xp xs) (Mo F (Xp xs) (Xc (Xp xs)))
def Me(x y:List Int):List Int:=if cf y (y.length-1)<0/\(x.length-y.length+1)%2=1 then Yt (Qq x y)else Yx (Yt (Qq x y)) (-1)
def cok:Nat->List Int->List Int->Prop
 | 0,_,y=>y=[]
 | f+1,x,y=>y=[]\/(Ct x y=0/\y.length<=x.length/\cok f y (Me x y))
def Mm:Nat->List Int->List Int->List (List Int)
 | 0,x,_=>[x]
 | f+1,x,y=>if y=[]then [x]else x::Mm f y (Me x y)
theorem Bf(f:Nat)(x:List Int):Mm f x []=[x]:=by cases f<;>rfl
theorem Zk8{f:Nat}(h:cok f a b)(c:b≠[]):∃g,f=g+1/\Ct a b=0/\b.length<=a.length/\cok g b (Me a b)/\Mm f a b=a::Mm g b (Me a b):=by
 cases f with
 | zero=>exact absurd h c
 | succ g=>
  rcases h with h|h
  .exact absurd h c
  .exact⟨g,rfl,h.1,h.2.1,h.2.2,by show(if b=[]then [a]else _)=_;rw [aJ c]⟩
def chn(F:Nat)(xs:List Int):List (List Int):=Mm F (sqf F xs) (Yt (Xc (sqf F xs)))
def Ac(F:Nat)(xs:List Int):Prop:=Yj0 F xs/\(∀i,i<xs.length->bl (cf (sqf F xs) (i+1)*((i:Int)+1)).natAbs<=65536)/\cok F (sqf F xs) (Yt (Xc (sqf F xs)))
theorem Yb9(h:Vp p):Vp (Xp p):=by
 unfold Xp;have c:=Ii h;refine⟨λi=>?_,Nt c.tr,by rw [Zbf c.tr];exact c.len⟩;rw [Bq];split
 .rw [gP];exact c.sz i
 .exact c.sz i
theorem Pj(h:Tr p):(Xp p).length=p.length:=by unfold Xp;rw [Zbf (Xe h),Yh]
theorem Zqp(d:Vp x)(c:Ct x y=0):Vp (Me x y):=by
 have h:=Ii (Zbx d c);unfold Me;split
 .exact h
 .exact⟨λi=>by rw [Qm];exact Zbn h.sz i,Nk _ _,aB Lr h.len⟩
def Mb(s:Int×Int)(x:Int):Int×Int:=if x=0 then s else(if x=-s.2 then s.1+1 else s.1,x)
def chg(l:List Int):Int:=(l.foldl Mb (0,0)).1
def Zeg{α β:Type}(f:α->β->α)(a:α)(l:List β)(x:β):(l ++ [x]).foldl f a=f (l.foldl f a) x:=O6
theorem chg1_n(s:Int×Int)(x:Int):(Mb s x).1=s.1\/(Mb s x).1=s.1+1:=by
 unfold Mb;split
 .exact .inl rfl
 .dsimp only;split
  .exact .inr rfl
  .exact .inl rfl
def sgs(ls:List (List Int))(x y:Int):List Int:=ls.map λp=>(pev p x y).sign
def sgr(ls:List (List Int)):List Int:=ls.map λp=>(cf p (p.length-1)).sign
def sgl(ls:List (List Int)):List Int:=ls.map λp=>if p.length%2=0 then-(cf p (p.length-1)).sign else(cf p (p.length-1)).sign
def smost(xs:List Int):Nat:=(xs.take (xs.length-1)).foldl (λm c=>max m c.natAbs) 0
def sbound(xs:List Int):Int:=((smost xs/(cf xs (xs.length-1)).natAbs:Nat):Int)+2
def Zv6(xs:List Int):Int:=if xs.length=0 then 3 else if Zal xs then 0 else 7
def ef(z:Int×Int):Bool:=decide (512<bl z.1.natAbs) || decide (512<bl z.2.natAbs)
def chk2r(xs:List Int)(x y c d:Int):Int:=if xs.length=0 then 3 else if 0<x*d-c*y then 3 else if Zal xs/\ef (x,y)=false/\ef (c,d)=false then 0 else 7
theorem Ym8(c:xs≠[])(h:Zal xs):Zv6 xs=0:=by unfold Zv6;rw [aJ (λe=>c (aI e)),aN h]
theorem Zx0(h:¬cf (Yt xs) ((Yt xs).length-1)<0):Xp xs=Yt xs:=by unfold Xp Ht;rw [aJ O]
theorem Zx1(c:(Yt xs).length≠0)(h:cf (Yt xs) ((Yt xs).length-1)<0):Xp xs=Yx (Yt xs) (-1):=by unfold Xp Ht;rw [aN ⟨c,h⟩]
theorem Zeh (P:Nat->Prop) : ∀n,P n->∃m,P m/\∀k,k<m->¬P k:=by
 intro n
 induction n using Nat.strongRecOn with
 | _ n f=>
  intro h;by_cases e:∃k,k<n/\P k
  .obtain⟨k,d,c⟩:=e;exact f k d c
  .exact⟨n,h,λk d c=>e ⟨k,d,c⟩⟩
theorem Ya5{n:Nat}(h:2<=n):∃p,2<=p/\p∣n/\∀d,2<=d->d∣n->p<=d:=by
 obtain⟨p,⟨f,g⟩,j⟩:=Zeh (λd=>2<=d/\d∣n) n ⟨h,Nat.dvd_refl n⟩;exact⟨p,f,g,λd k e=>by
  rcases aY d p with c|c
  .exact absurd ⟨k,e⟩ (j d c)
  .exact c⟩
theorem Zsi{n p:Nat}(q:2<=p)(j:p∣n)(k:∀d,2<=d->d∣n->p<=d)(u:0<n){x y:Int}(h:(p:Int)∣x*y):(p:Int)∣x\/(p:Int)∣y:=by
 by_cases g:(p:Int)∣x
 .exact .inl g
 .right;have m:Nat.gcd p x.natAbs=1:=by
   have f:=Nat.gcd_dvd_left p x.natAbs;have o:0<Nat.gcd p x.natAbs:=Nat.gcd_pos_of_pos_left _ O;rcases aY (Nat.gcd p x.natAbs) 2 with c|c
   .omega
   .have r:=k _ c (Nat.dvd_trans f j);have t:=jY O f;exfalso;refine g (fI.1 ?_);rw [eE];have l:Nat.gcd p x.natAbs=p:=O;rw [<-l];exact Nat.gcd_dvd_right _ _
  have e:=fI.2 h;rw [eE,bQ]at e;refine fI.1 ?_;rw [eE];exact(show Nat.Coprime p x.natAbs from m).dvd_of_dvd_mul_left e
theorem gauss{g:List Int}(hg:Xq g=1):∀(n:Nat) (k:Int) (s:List Int),k.natAbs=n->k≠0->(∀t,k*cf a t=(ps s*ps g).c t)->∃q:List Int,∀t,cf a t=(ps q*ps g).c t:=by
 intro n
 induction n using Nat.strongRecOn with
 | _ n ih=>
  intro k s o S h;rcases aY n 2 with P|P
  .have G:k*k=1:=by have:k=1\/k=-1:=O;rcases this with e|e<;>subst e<;>rfl
   refine⟨Yx s k,λt=>?_⟩;have e:(ps (Yx s k)*ps g).c t=k*(ps s*ps g).c t:=by rw [PS.mul_c,PS.mul_c,<-Md];exact Xg λi _=>by rw [Ld,Ld,Ld,Qm];grind
   rw [e,<-h,<-fQ,G,iF]
  .obtain⟨p,V,W,pm⟩:=Ya5 P;have I:∀{x y:Int},(p:Int)∣x*y->(p:Int)∣x\/(p:Int)∣y:=Zsi V W pm O;have r:(p:Int)∣k:=fI.1 (by rw [eE,o];exact W);have w:∃j,¬(p:Int)∣cf g j:=bB λu=>by have:(p:Int)∣Xq g:=Db λi=>bB λhy=>u ⟨i,hy⟩;rw [hg]at this;have:=lF O3 this;omega
   obtain⟨j0,D⟩:=w;obtain⟨j,hj,F⟩:=Zeh (λj=>¬(p:Int)∣cf g j) j0 D;have hs:∀i,(p:Int)∣cf s i:=λi0=>bB λz=>by
    obtain⟨i,hi,B⟩:=Zeh (λi=>¬(p:Int)∣cf s i) i0 z;have Q:=h (i+j);rw [PS.mul_c]at Q;have N:∀m,m<=i+j+1->(p:Int)∣Yc (λk=>if k=i then 0 else(ps s).c k*(ps g).c (i+j-k)) m:=λm=>by
     induction m with
     | zero=>intro _;exact jF _
     | succ m M=>
      intro hm;rw [Yp];refine Int.dvd_add (M O) ?_;split
      .exact jF _
      .rename_i a0;rw [Ld,Ld];rcases aY m i with v|v
       .exact fA (bB λu=>B m v u) (jU _ _)
       .exact fA (bB λu=>F (i+j-m) O u) (Int.dvd_mul_left _ _)
    have Y:Yc (λk=>(ps s).c k*(ps g).c (i+j-k)) (i+j+1)=Yc (λk=>if k=i then 0 else(ps s).c k*(ps g).c (i+j-k)) (i+j+1)+cf s i*cf g j:=by
     have Z:Yc (λk=>(ps s).c k*(ps g).c (i+j-k)) (i+j+1)=Yc (λk=>(if k=i then 0 else(ps s).c k*(ps g).c (i+j-k))+(if k=i then(ps s).c k*(ps g).c (i+j-k)else 0)) (i+j+1):=
      Xg λk _=>by split<;>omega
     rw [Z,Ev,Bc i (f:=λk=>if k=i then(ps s).c k*(ps g).c (i+j-k)else 0) O (λq _ hq=>aJ hq),aN rfl,Ld,Ld,show i+j-i=j by omega]
    rw [Y]at Q;have v:(p:Int)∣cf s i*cf g j:=by have l:cf s i*cf g j=k*cf a (i+j)-Yc (λk=>if k=i then 0 else(ps s).c k*(ps g).c (i+j-k)) (i+j+1):=O;rw [l];exact Int.dvd_sub (fA r (jU _ _)) (N _ (aG _))
    rcases I v with l|l
    .exact hi l
    .exact hj l
   obtain⟨d,c⟩:=r;have H:(p:Int)≠0:=O;refine ih d.natAbs ?_ d (s.map (· / (p:Int))) rfl ?_ ?_
   .rw [<-o,c,bQ,eE];have:0<d.natAbs:=by
     rcases aX d.natAbs with R|R
     .rw [show d=0 by omega]at c;simp at c;exact absurd c S
     .exact R
    have:=aP d.natAbs V;omega
   .intro e;rw [e]at c;simp at c;exact S c
   .intro t;refine iA H ?_;rw [<-fQ,<-c,h,PS.mul_c,PS.mul_c,<-Md];refine Xg λi _=>?_;rw [Ld,Ld,Ld,Zen _ _ O6,<-fQ,kW (hs i)]
def ev1:List Int->Int->Int
 | [],_=>0
 | c::r,t=>c+t*ev1 r t
def sdv:List Int->Int->List Int
 | [],_=>[]
 | [_],_=>[]
 | _::c::r,t=>ev1 (c::r) t::sdv (c::r) t
theorem Zkk:∀(u:List Int) (t:Int),(sdv u t).length=u.length-1
 | [],_=>rfl
 | [_],_=>rfl
 | _::c::r,t=>by unfold sdv;rw [dW,Zkk _ t];simp
theorem Zyu:∀(u:List Int) (t x:Int),ev1 u x=ev1 u t+(x-t)*ev1 (sdv u t) x
 | [],t,x=>by simp [ev1,sdv]
 | [c],t,x=>by simp [ev1,sdv]
 | a::c::r,t,x=>by have d:=Zyu (c::r) t x;show a+x*ev1 _ x=a+t*ev1 _ t+(x-t)*(ev1 _ t+x*ev1 _ x);grind
theorem Zzq(a:Int)(u:List Int)(i:Nat):cf (a::u) i=if i=0 then a else cf u (i-1):=by
 cases i with
 | zero=>rfl
 | succ i=>rfl
theorem Zct(i:Nat):cf [] i=0:=Yv (bG _)
theorem Yhw:∀(u:List Int) (t:Int) (i:Nat),cf u (i+1)=cf (sdv u t) i-t*cf (sdv u t) (i+1)
 | [],t,i=>by unfold sdv;simp [Zct]
 | [c],t,i=>by unfold sdv;simp [Zzq,aJ,Zct]
 | a::c::r,t,i=>by
  cases i with
  | zero=>
   show c=ev1 _ t-t*cf _ 0
   match r with
   | []=>simp [ev1,sdv,cf]
   | d::r'=>unfold sdv;rw [Zzq];show c=(c+t*ev1 _ t)-_;simp
  | succ i=>
   exact Yhw _ t i
theorem Ynb:∀(u:List Int) (t:Int),cf u 0=ev1 u t-t*cf (sdv u t) 0
 | [],t=>by simp [ev1,sdv,cf]
 | [c],t=>by simp [ev1,sdv,cf]
 | a::c::r,t=>by show a=(a+t*ev1 _ t)-t*ev1 _ t;simp
theorem Zrg:∀(n:Nat) (u:List Int) (R:List Int),u.length=n->(∃i,cf u i≠0)->R.Nodup->(∀t∈R,ev1 u t=0)->R.length<n
 | 0,u,R,d,c,_,_=>by grind [List.eq_nil_of_length_eq_zero,Zct]
 | n+1,u,[],d,c,_,_=>O6
 | n+1,u,t::R,d,c,hd,hR=>by
  have h:=hR t (bW ..);have j:=Zkk u t;have g:∃i,cf (sdv u t) i≠0:=bB λe=>by
   obtain⟨i,hi⟩:=c;cases i with
   | zero=>grind [Ynb]
   | succ i=>grind [Yhw]
  have:=Zrg n _ R O g (kL.1 hd).2 λx e=>by have f:=hR x (bN _ e);rw [Zyu u t x]at f;grind [Int.mul_eq_zero,List.nodup_cons]
  grind
def kk:Nat->Nat
 | 0=>0
 | d+1=>30*kk d+1
def pts:List Int:=[0,1,2,3,4,5,6,7,8,9,10,11,12,13,14]
def Psim(a b:List Int):Prop:=∃m n:Int,0<m/\0<n/\∀i,m*cf a i=n*cf b i
def Psim.refl(a:List Int):Psim a a:=⟨1,1,O,O,λ_=>rfl⟩
def Psim.symm : Psim a b->Psim b a:=λ⟨m,n,c,d,h⟩=>⟨n,m,d,c,λi=>(h i).symm⟩
def Psim.trans{c:List Int} : Psim a b->Psim b c->Psim a c:=λ⟨m,n,d,e,h⟩ ⟨u,v,f,g,k⟩=>
 ⟨m*u,n*v,fB d f,fB e g,λi=>O4⟩
def Psim.sim : Psim a b->Sim a b:=λ⟨m,n,c,d,h⟩=>⟨m,n,O,O,h⟩
theorem Zd8(h:Tr p):Psim (Yt p) p:=by
 by_cases c:p=[]
 .subst c;exact Psim.refl _
 .exact⟨Xq p,1,by have:=Ms p;grind [Zap],O,λi=>by grind [Fd]⟩
theorem Zjw(f:Tr a)(g:Tr b)(h:Psim a b):Yt a=Yt b:=by
 by_cases c:a=[]
 .rw [h.sim.nil g c,c]
 .have j:=λe=>c (h.sim.symm.nil f e);obtain⟨m,n,u,v,e⟩:=(Zd8 f).trans (h.trans (Zd8 g).symm);have l:=Xe f;have t:=Xe g;have hs:Sim _ _:=⟨m,n,O,O,e⟩;have d:Yt a≠[]:=λe=>c (aI (by grind [Yh]));rcases Zq4 l t d (Hm f c) (Hm g j) hs with k|k
  .omega
  .have o:=l.mem d;have q:=e ((Yt a).length-1);have r:=k ((Yt a).length-1);rw [r]at q o;grind [Int.mul_neg,Int.add_mul,Int.mul_eq_zero]
def Zb6(y:List Int):Int:=if cf y (y.length-1)<0 then-cf y (y.length-1)else cf y (y.length-1)
def rb(x y:List Int):Int:=if cf y (y.length-1)<0 then-cf x (x.length-1)else cf x (x.length-1)
def Zhj(x y:List Int):List Int:=Zbb (Yx x (Zb6 y)) (shm y (rb x y) (x.length-y.length) y.length)
def Za8:Nat->List Int->List Int->List Int
 | 0,x,_=>x
 | f+1,x,y=>if x.length<y.length then x else Za8 f (Zhj x y) y
theorem Zoy(e:Tr x)(f:0<y.length)(d:y.length<=x.length):(Zhj x y).length<x.length:=by
 have h:=Za4 (p:=Zhj x y) (n:=x.length-1) λi hi=>by
  unfold Zhj;rw [Zbm,Qm,Yhv];by_cases c:i=x.length-1
  .unfold Zb6 rb;grind
  .rw [Yv O,aJ O];simp
 rw [show tzl _=Zhj x y from Zad Zww]at h;omega
theorem Ydq(x:List Int)(t:Nat):Zb6 y*cf x t=(ps (mono (x.length-y.length) (rb x y))*ps y).c t+cf (Zhj x y) t:=by
 unfold Zhj;rw [Zkb,Zbm,Qm,Yhv,Ld];by_cases c:x.length-y.length<=t
 .by_cases d:t<x.length-y.length+y.length
  .grind
  .rw [Yv (p:=y) O,iP _];simp
 grind
theorem Ze8(d:Tr y)(c:y≠[]):0<Zb6 y:=by have:=d.mem c;unfold Zb6;split<;>omega
theorem Ze4{y:List Int}(l:Tr y)(d:y≠[]):∀(f:Nat) (x:List Int),Tr x->x.length<y.length+f->Tr (Za8 f x y)/\(Za8 f x y).length<y.length/\∃(k:Nat) (s:List Int),∀t,Zb6 y^k*cf x t=(ps s*ps y).c t+cf (Za8 f x y) t
 | 0,x,c,e=>⟨c,e,0,[],λt=>by rw [Lu (λt=>Yv (bG _))];unfold Za8;simp⟩
 | f+1,x,c,e=>by
  unfold Za8;by_cases h:x.length<y.length
  .rw [aN h];exact⟨c,h,0,[],λt=>by simp [Lu,Yv,bG,eH]⟩
  .rw [aJ h];have m:=Zoy c (aL.2 d) O;obtain⟨g,j,k,s,hs⟩:=Ze4 l d f (Zhj x y) Zww O;refine⟨g,j,k+1,Zbb (Yx s 1) (Yx (mono (x.length-y.length) (rb x y)) (-(Zb6 y^k))),λt=>?_⟩;grind [Ydq,Zj9,Int.pow_succ]
theorem Zrp(l:Int)(h:l≠0):∀n:Nat,(l<0/\n%2=1->l^n<0)/\(¬(l<0/\n%2=1)->0<l^n)
 | 0=>⟨λh=>O,λ_=>O6⟩
 | n+1=>by
  have e:=Zrp l h n;rw [eA];by_cases d:l<0
  .by_cases f:n%2=1
   .have c:=e.1 ⟨d,f⟩;exact⟨λh=>O,λ_=>Int.mul_pos_of_neg_of_neg c d⟩
   .have c:=e.2 O;exact⟨λ_=>Int.mul_neg_of_pos_of_neg c d,λh=>O⟩
  .have c:=e.2 O;exact⟨λh=>O,λ_=>fB c O⟩
def Zgs(p:List Int):List Int:=Yx p (-1)
theorem Az(p:List Int)(i:Nat):cf (Zgs p) i=- cf p i:=by unfold Zgs;grind [Qm]
theorem Zu0(h:Tr p):Yt (Zgs p)=Zgs (Yt p):=by
 have e:=by
  have c:Xq (Zgs p)∣Xq p:=Db λi=>by have h:=Kk (Zgs p) i;simp_all [Az,Int.dvd_neg]
  have d:Xq p∣Xq (Zgs p):=Db λi=>by simp [Az,Int.dvd_neg,Kk]
  exact Int.dvd_antisymm (Ms _) (Ms _) c d
 refine(Xe (Nk _ _)).ext (Nk _ _) λi=>?_;show cf (Yt (Zgs p)) i=cf _ i;simp_all [Az,Zcs,Int.neg_ediv_of_dvd,Kk]
theorem Zgk (f:Nat)(u:Tr x)(m:Tr y)(g:y≠[])(B:y.length<=x.length)(w:x.length<y.length+f):Yt (Zgs (Za8 f x y))=Me x y:=by
 obtain⟨N,M,k,s,hs⟩:=Ze4 m g f x u w;have F:=aL.2 g;obtain⟨G,o⟩:=Zgo (p:=x) F B _ (aG _);have D:∀t,cf (Pw x y (x.length-y.length+1)) t=cf (Qq x y) t:=λt=>by unfold Qq;simp_all [aJ,Iz]
 have lp:=Pn x g;have h:=Ij (q:=y) u;have c:=m.mem g;have n:0<Zb6 y^k:=iH (Ze8 m g);have d:=Zrp (cf y (y.length-1)) c (x.length-y.length+1);generalize H:cf y (y.length-1)^(x.length-y.length+1)=L at o d;generalize Zb6 y^k=K at hs n;have j:∀t,(ps (Zbb (Yx G K) (Yx s L))*ps y).c t=cf (Zbb (Yx (Za8 f x y) L) (Yx (Qq x y) K)) t:=λt=>by rw [Zj9,Zbm,Qm,Qm,<-D t];grind
 have z:=Ylb m g j λt I=>by rw [Zbm,Qm,Qm,Yv (p:=Za8 f x y) O,Yv (p:=Qq x y) O];simp
 have e:∀t,L*cf (Za8 f x y) t=K*cf (Qq x y) t:=λt=>by have v:=j t;rw [Lu z,Zbm,Qm,Qm]at v;grind
 unfold Me;by_cases l:cf y (y.length-1)<0/\(x.length-y.length+1)%2=1
 .rw [aN l];have r:=d.1 l;exact Zjw (Nk _ _) h ⟨-L,K,O,n,λt=>by grind [Az]⟩
 .rw [aJ l];have r:=d.2 l;rw [show Yx (Yt (Qq x y)) (-1)=Zgs (Yt (Qq x y))from rfl,<-Zu0 h];exact Zjw (Nk _ _) (Nk _ _) ⟨L,K,r,n,λt=>by simp_all [Az,mJ]⟩
theorem Zbz(c:Tr x):Tr (Me x y):=by unfold Me;grind [Xe,Ij,Nk]
theorem Zbe(c:Tr x):(Me x y).length=(Qq x y).length:=by
 unfold Me;have h:Tr (Yt (Qq x y)):=Xe (Ij c);split
 .simp [Yh]
 .rw [<-Yh (Qq x y)];exact((Zuo O).len h (Nk _ _)).symm
theorem Zuk{n:Nat}(h:Sz n p):Sz n (Xp p):=λi=>by
 unfold Xp;rw [Bq];split
 .rw [gP];exact Ds h i
 .exact Ds h i
theorem Zj6(h:Tr p)(c:p≠[]):Xp p≠[]:=λe=>c (aI (by grind [Pj]))
theorem Bk{g:List Int}(h:Tr g)(c:g≠[]):0<cf (Ht g) ((Ht g).length-1):=by have d:=h.mem c;grind [Zbf,Bq,List.eq_nil_of_length_eq_zero]
theorem Zc8(h:Tr p)(c:p≠[]):Xq (Xp p)=1:=by unfold Xp;grind [Zhl,Hm]
theorem Zu5(h:Tr p)(c:Xq p=1)(d:0<cf p (p.length-1)):Xp p=p:=by unfold Xp;rw [Zfa c];unfold Ht;grind
theorem Nb (F:Nat)(o:Tr xs)(r:xs≠[])(v:eok F (gA (Xp xs) (Xc (Xp xs))) (gB (Xp xs) (Xc (Xp xs)))) :
  pdv (Xp xs) (Mo F (Xp xs) (Xc (Xp xs)))/\Tr (sqf F xs)/\sqf F xs≠[]/\Xp xs=Qw (sqf F xs) (Mo F (Xp xs) (Xc (Xp xs)))/\Mo F (Xp xs) (Xc (Xp xs))≠[]/\Xp (sqf F xs)=sqf F xs:=by
 have hs:Tr (Xp xs):=Nt (Xe o);have f:=Mc hs;have l:=Zj6 o r;have g:=(Zc7 hs f v).1;have n:=Zey F hs f;have c:Mo F (Xp xs) (Xc (Xp xs))≠[]:=λe=>l ((e▸g).zero hs);have H:=Zjz hs f c;obtain⟨k,s,I,h⟩:=g;obtain⟨q,P⟩:=gauss H _ k s rfl I h;have d:Xp xs=Qw (tzl q) (Mo F (Xp xs) (Xc (Xp xs))):=hs.ext (Qn _ _) λi=>by grind [Ge,Yd1]
 obtain⟨B,S⟩:=Zxs (Qo q) n c;have w:sqf F xs=tzl q:=by unfold sqf;grind
 rw [<-d]at B;have j:tzl q≠[]:=λe=>l (by grind [Ey]);refine⟨B,by grind [Qo],O4,O4,c,?_⟩;rw [w];refine Zu5 (Qo q) ?_ ?_
 .have D:=Zc8 o r;have t:Xq (tzl q)∣Xq (Xp xs):=Db λi=>by
   rw [d,Ge,PS.mul_c];have N:∀m,Xq (tzl q)∣Yc (λk=>(ps (tzl q)).c k*(ps (Mo F (Xp xs) (Xc (Xp xs)))).c (i-k)) m:=λm=>by
    induction m with
    | zero=>exact jF _
    | succ m M=>exact Int.dvd_add M (fA (Kk (tzl q) m) (jU _ _))
   grind
  have u:=Ms (tzl q);have G:=lF O t;grind [Zap,Qo]
 .have Q:=aL.2 j;have R:=aL.2 c;have D:0<cf (Xp xs) ((Xp xs).length-1):=Bk (Xe o) (λe=>r (aI (by grind [Yh])));have t:0<cf (Mo F (Xp xs) (Xc (Xp xs))) ((Mo F (Xp xs) _).length-1):=Bk (Zsz F (Zi7 hs f) (Zi6 hs f)) (λe=>c (by unfold Mo;rw [e];rfl));have u:=Nw (Qo q) n j c;rw [<-d]at u;have G:cf (Xp xs) ((Xp xs).length-1)=cf (tzl q) ((tzl q).length-1)*cf (Mo F (Xp xs) (Xc (Xp xs))) ((Mo F (Xp xs) (Xc (Xp xs))).length-1):=by rw [u,d,Ge,<-d,show(tzl q).length+(Mo F (Xp xs) (Xc (Xp xs))).length-1-1=((tzl q).length-1)+((Mo F (Xp xs) (Xc (Xp xs))).length-1) by omega];grind [Bn,Yv]
  rcases iN 0 _ with z|z
  .omega
  .exfalso;have:=fF z (dZ t);omega
def Nn(p:List Int):(Xc p).length=p.length-1:=Yy _ _
theorem Zvv{n:Nat}(c:Sz n p)(g:p.length<=25)(i:Nat):bl (cf p (i+1)*((i:Int)+1)).natAbs<=n+5:=by
 rcases aY (i+1) p.length with h|h
 .have d:=Xt (cf p (i+1)) ((i)+1);have e:=c (i+1);have f:bl ((i:Int)+1).natAbs<=5:=(Qr 5 _).2 O;omega
 grind [Yv,Gf]
theorem Zf5(p:List Int)(i:Nat):cf (Xc p) i=cf p (i+1)*((i:Int)+1):=by unfold Xc;simp_all [Kq,Yv,cM]
theorem Zaj{n:Nat}(d:Sz n p)(c:p.length<=25):Sz (n+5) (Xc p):=λi=>by simp_all [Zf5,Zvv]
theorem Zew(h:Vp p)(c:∀i,i<p.length->bl (cf p (i+1)*((i:Int)+1)).natAbs<=65536):Vp (Xc p):=by
 refine⟨λi=>?_,Mc h.tr,by rw [Nn];have:=h.len;omega⟩;rw [Zf5];by_cases hi:i<p.length
 .grind
 .rw [Yv O];simp [Gf]
def sf_t(h:xs.length=0):Value.bool (decide (Zal xs))= .bool true:=aE _ (aH (.inl h))
theorem sf_i{n:Int}(h:xs.length≠0)(c:n=(((xs.length+2)*(xs.length+2)*(Qy xs+16):Nat):Int)):Value.bool (decide (Zal xs))= .bool (decide (n<=65536)):=aE _ (bM.2 (by show(xs.length=0\/(xs.length+2)*(xs.length+2)*(Qy xs+16)<=65536)↔_;omega))
theorem Yae(h:(Qq x y).length=0):Me x y=[]:=by have c:=aI h;unfold Me;rw [c];split<;>rfl
theorem Yj1(e:y.length<=x.length)(c:(cf y (y.length-1)).sign<0)(d:((x.length:Int)-(y.length:Int)+1)%2=1):Me x y=Yt (Qq x y):=by unfold Me;grind
theorem Zw1(c:¬(cf y (y.length-1)).sign<0):Me x y=Yx (Yt (Qq x y)) (-1):=by unfold Me;grind
theorem Zw0(d:y.length<=x.length)(c:¬((x.length:Int)-(y.length:Int)+1)%2=1):Me x y=Yx (Yt (Qq x y)) (-1):=by unfold Me;grind
theorem Zuf{F:Nat}(j:Vp xs)(k:xs≠[])(h:Yj0 F xs):Vp (sqf F xs):=by
 obtain⟨_,_,_,d,c⟩:=h;have g:=Yb9 j;unfold sqf Hc;split
 .grind
 .rename_i l;rcases c with c|c
  .grind
  .have e:=(Zdi d).2 c.1;refine⟨?_,Qo _,?_⟩
   .rw [<-Zfy];exact(Zwy e c.2.1).tzl
   .have f:=Hj (Zlv (Xp xs) (Mo F (Xp xs) (Xc (Xp xs))) ((Xp xs).length-(Mo F (Xp xs) (Xc (Xp xs))).length+1));rw [Zfy,Zce]at f;have:=g.len;grind [Zdi]
theorem Zki{F:Nat}(d:Vp xs)(h:Yj0 F xs):(sqf F xs).length<=xs.length:=by
 obtain⟨_,_,_,e,c⟩:=h;have j:=Pj d.tr;unfold sqf Hc;split
 .simp
 .rename_i f;rcases c with c|c
  .grind
  .have g:=Hj (Zlv (Xp xs) (Mo F (Xp xs) (Xc (Xp xs))) ((Xp xs).length-(Mo F (Xp xs) (Xc (Xp xs))).length+1));grind [Zfy,Zce,Zdi]
theorem Zzn{L:List Int}{n l:Int}(hi:i<L.length)(h:(n,l)=(L.take i).foldl Mb (0,0))(hs:L.getD i 0=s)(c:s=0):(n,l)=(L.take (i+1)).foldl Mb (0,0):=by rw [Po 0 L i hi,Zeg,<-h];unfold Mb;grind
theorem Zzm{L:List Int}{n l:Int}(hi:i<L.length)(h:(n,l)=(L.take i).foldl Mb (0,0))(hs:L.getD i 0=s)(c:s≠0)(d:s=-l):(n+1,s)=(L.take (i+1)).foldl Mb (0,0):=by rw [Po 0 L i hi,Zeg,<-h];unfold Mb;grind
theorem Zzl{L:List Int}{n l:Int}(hi:i<L.length)(h:(n,l)=(L.take i).foldl Mb (0,0))(hs:L.getD i 0=s)(c:s≠0)(d:¬s=-l):(n,s)=(L.take (i+1)).foldl Mb (0,0):=by rw [Po 0 L i hi,Zeg,<-h];unfold Mb;grind
theorem Yna{L:List Int}{n l:Int}(hi:L.length<=i)(h:(n,l)=(L.take i).foldl Mb (0,0)):n=chg L:=by rw [cK hi]at h;unfold chg;grind
theorem Yde{z:Int}:-1<=z.sign/\z.sign<=1:=by grind
theorem Ye6{α:Type}{d:α}{f:α->Int}{ls:List α}(h:i<ls.length):(ls.map f).getD i 0=f (ls.getD i d):=by grind
def sgx(ls:List (SL×List Int))(f:List Int->Int):List Int:=ls.map λz=>f z.2
def Zq6(ls:List (SL×List Int))(f:List Int->Int)(h:i<ls.length):(sgx ls f).getD i 0=f (ls.getD i ((none,0,0),[])).2:=Ye6 h
def Zkj(ls:List (SL×List Int))(f:List Int->Int):(sgx ls f).length=ls.length:=bJ ..
def fr(p:List Int):Int:=(cf p (p.length-1)).sign
def fl(p:List Int):Int:=if p.length%2=0 then-(cf p (p.length-1)).sign else(cf p (p.length-1)).sign
def fat(x y:Int)(p:List Int):Int:=(pev p x y).sign
def fat_r(x y:Int)(p:List Int):-1<=fat x y p/\fat x y p<=1:=Yde
theorem Zlx:∀(f:Nat) {x y:List Int},Vp x->Vp y->cok f x y->∀p∈Mm f x y,Vp p
 | 0,x,y,d,_,_,p,c=>by rw [bX.1 c];omega
 | f+1,x,y,d,e,h,p,c=>by
  unfold Mm at c;split at c
  .rw [bX.1 c];exact d
  .rcases h with h|h
   .contradiction
   .rcases aV.1 c with rfl|c
    .exact d
    .exact Zlx f e (Zqp d h.1) h.2.2 p c
theorem vp_chn{F:Nat}(j:Vp xs)(d:xs≠[])(h:Ac F xs):∀p∈chn F xs,Vp p:=by obtain⟨e,f,g⟩:=h;have c:=Zuf j d e;exact Zlx F c (Ii (Zew c (λi hi=>f i (by grind [Zki])))) g
def cnt(F:Nat)(xs:List Int)(x y:Int):Int:=chg ((chn F xs).map (fat x y))
def sright(F:Nat)(xs:List Int):Int:=chg ((chn F xs).map fr)
def sleft(F:Nat)(xs:List Int):Int:=chg ((chn F xs).map fl)
theorem Zw5{C:List (List Int)}(h:ls.map Prod.snd=C)(f:List Int->Int):sgx ls f=C.map f:=by rw [<-h,fY];rfl
def Mt{C:List (List Int)}{p:List Int->Prop}(h:ls.map Prod.snd=C)(c:∀q∈C,p q):∀z∈ls,p z.2:=λz d=>c _ (h▸List.mem_map_of_mem d)
theorem Zg5(L:List Int):0<=chg L/\chg L<=L.length:=by
 unfold chg;suffices h:∀(l:List Int) (s:Int×Int),s.1<=(l.foldl Mb s).1/\(l.foldl Mb s).1<=s.1+l.length by grind
 intro l
 induction l with
 | nil=>simp
 | cons x l c=>
  intro s;have d:=c (Mb s x);have e:=chg1_n s x;simp only [fZ,dW];omega
theorem Zdz:∀(f:Nat) (x y:List Int),(Mm f x y).length<=f+1
 | 0,x,y=>aG _
 | f+1,x,y=>by
  unfold Mm;split
  .simp
  .have:=Zdz f y (Me x y);simp;omega
def sm(xs:List Int)(i:Nat):Nat:=(xs.take i).foldl (λm c=>max m c.natAbs) 0
def Zbc{x y:Int}(h:¬Mw x y):Gh x y=x/Lb x y/\Ik x y=y/Lb x y/\Ydw x y=0:=⟨aJ h,aJ h,aJ h⟩
theorem nr_bl{x y:Int}(h:¬Mw x y):bl (Gh x y).natAbs<=65536/\bl (Ik x y).natAbs<=65536:=by obtain⟨c,d,_⟩:=Zbc h;rw [c,d];unfold Mw at h;omega
theorem Zom{x y:Int}(h:¬Mw x y)(c:0<y):0<Ik x y:=by simp_all [Zbc,Ya3]
abbrev R2:=Int×Int
def Pq(a b:R2):R2:=(Gh (Gh (a.1*b.2+b.1*a.2) (a.2*b.2)*1) (Ik (a.1*b.2+b.1*a.2) (a.2*b.2)*2),Ik (Gh (a.1*b.2+b.1*a.2) (a.2*b.2)*1) (Ik (a.1*b.2+b.1*a.2) (a.2*b.2)*2))
def Zdy(a b:R2):Prop:=¬Mw (a.1*b.2+b.1*a.2) (a.2*b.2)/\¬Mw (Gh (a.1*b.2+b.1*a.2) (a.2*b.2)*1) (Ik (a.1*b.2+b.1*a.2) (a.2*b.2)*2)
instance (a b:R2):Decidable (Zdy a b):=by unfold Zdy;infer_instance
def Ya0{a b:R2}(h:Zdy a b):Ydw (Gh (a.1*b.2+b.1*a.2) (a.2*b.2)*1) (Ik (a.1*b.2+b.1*a.2) (a.2*b.2)*2)=0:=(Zbc h.2).2.2
def isp(c:R2->Int)(e:Int):Nat->R2->R2->Int->Int->Nat->List (R2×R2)
 | 0,_,_,_,_,_=>[]
 | f+1,a,b,fr,g,d=>if fr=g then []else if fr-g=1/\e<=(d:Int)then [(a,b)]else isp c e f a (Pq a b) fr (c (Pq a b)) (d+1) ++ isp c e f (Pq a b) b (c (Pq a b)) g (d+1)
def Zyi(c:R2->Int)(g:R2->Prop)(e:Int):Nat->R2->R2->Int->Int->Nat->Prop
 | 0,_,_,_,_,_=>False
 | f+1,a,b,fr,h,d=>fr=h\/(fr-h=1/\e<=(d:Int))\/(d<1000/\Zdy a b/\g (Pq a b)/\Zyi c g e f a (Pq a b) fr (c (Pq a b)) (d+1)/\Zyi c g e f (Pq a b) b (c (Pq a b)) h (d+1))
instance ispDec (c:R2->Int) (e:R2->Prop) [DecidablePred e] (g:Int):∀f a b fr h d,Decidable (Zyi c e g f a b fr h d)
 | 0,_,_,_,_,_=>inferInstanceAs (Decidable False)
 | f+1,a,b,fr,h,d=>@instDecidableOr _ _ _ (@instDecidableOr _ _ _ (@instDecidableAnd _ _ _ (@instDecidableAnd _ _ _ (@instDecidableAnd _ _ _ (@instDecidableAnd _ _ (ispDec c e g f a (Pq a b) fr (c (Pq a b)) (d+1)) (ispDec c e g f (Pq a b) b (c (Pq a b)) h (d+1)))))))
def okQ(z:R2):Prop:=bl z.1.natAbs<=65536/\bl z.2.natAbs<=65536/\0<z.2
def evok(ls:List (SL×List Int))(m:R2):Prop:=∀z∈ls,¬Ly z.2 m.1 m.2
def cvx(ls:List (SL×List Int))(m:R2):Int:=chg (sgx ls (fat m.1 m.2))
def cvc(F:Nat)(xs:List Int)(m:R2):Int:=cnt F xs m.1 m.2
def evc(F:Nat)(xs:List Int)(m:R2):Prop:=∀p∈chn F xs,¬Ly p m.1 m.2
def slow(a:R2):R2:=(Gh a.1 a.2,Ik a.1 a.2)
def sisol(F:Nat)(xs:List Int)(f:Nat)(a b:R2)(c:Int):List (R2×R2):=isp (cvc F xs) c f (slow a) (slow b) (cvc F xs a) (cvc F xs b) 0
def isOK(F:Nat)(xs:List Int)(f:Nat)(a b:R2)(c:Int):Prop:=Ac F xs/\evc F xs a/\evc F xs b/\¬Mw a.1 a.2/\¬Mw b.1 b.2/\Zyi (cvc F xs) (evc F xs) c f (slow a) (slow b) (cvc F xs a) (cvc F xs b) 0/\(sisol F xs f a b c).length<=1000000
open Go.RowKit Below
variable {P:Program} {N:Nat} {sc:Nat->Prop} {env env':Qh} {H H':Hp} {Q Q':Exit->Act->World->Prop} {M:Nat->Prop}
def CalM(P:Program)(f:FuncId)(args:Array Value)(pre:List Pc){G:Type}(φ:G->Prop)(val:G->Value)(d c:G->Pc):Prop:=
 ∀w,(∀p∈pre,p.holds w)->Calls P f args w λe h=>∃g,e= .returned (val g)/\φ g/\Below w.heap.size w h/\(d g).holds h/\(∀b,(d g).fp b->w.heap.size<=b)/\
  (c g).holds h/\(c g).own=false/\(∀b,(c g).fp b->w.heap.size<=b\/∃q∈pre,q.fp b)/\∀b,(d g).fp b->(c g).fp b->False
def FPostM(P:Program)(fn:Func)(w0:World)(pre:List Pc){G:Type}(φ:G->Prop)(val:G->Value)(d c:G->Pc):Exit->Act->World->Prop:=
 bodyPost P fn λe f=>∃g,e= .returned (val g)/\φ g/\Below w0.heap.size w0 f/\(d g).holds f/\(∀b,(d g).fp b->w0.heap.size<=b)/\
  (c g).holds f/\(c g).own=false/\(∀b,(c g).fp b->w0.heap.size<=b\/∃q∈pre,q.fp b)/\∀b,(d g).fp b->(c g).fp b->False
theorem Zd6{β:Type}{q:β->Pc}{zs ys:List β}(i j n:Nat)(hi:lk H i=some (Hf q zs))(l:lk H j=some (Hf q ys))(d:Nat.beq i 0=false)(e:Nat.beq j 0=false) :
  ∀a w,Sat N sc env H a w->Sat N sc env ((n,Hf q (zs ++ ys))::H) a w:=
 Zus i j n hi l d e rfl rfl (λw g k y f=>by
  rcases cP.1 f with h|h
  .exact g y h
  .exact k y h) (λb c=>by
  obtain⟨y,f,c⟩:=c;rcases cP.1 f with h|h
  .exact .inl ⟨y,h,c⟩
  .exact .inr ⟨y,h,c⟩) rfl
abbrev qD (z:SL×Nat):Pc:=d9p (Xa z.1) z.2
abbrev JE:=(R2×R2)×(SL×SL×SL×SL)
abbrev encJ (y:JE):Value:= .agg #[.bool (decide (y.1.1.1<0)),Xa y.2.1,.bool (decide (y.1.1.2<0)),Xa y.2.2.1,.bool (decide (y.1.2.1<0)),Xa y.2.2.2.1,.bool (decide (y.1.2.2<0)),Xa y.2.2.2.2]
abbrev qJ (y:JE):Pc:=Hf qD [(y.2.1,y.1.1.1.natAbs),(y.2.2.1,y.1.1.2.natAbs),(y.2.2.2.1,y.1.2.1.natAbs),(y.2.2.2.2,y.1.2.2.natAbs)]
abbrev J0:JE:=(((0,0),(0,0)),((none,0,0),(none,0,0),(none,0,0),(none,0,0)))
end Go.Sky
namespace Go.Sky
variable{M M0:Nat->Prop}{o:Oper}{x y:Operand}{t tb:TypeId}{cs:Array Value}{v:Value}{vs:List Value}{zs:List (SL×List Int)}{r:List Pc}{z:SL×List Int}
variable {P:Program} {N:Nat} {sc:Nat->Prop} {env env':Qh} {H H':Hp} {Q Q':Exit->Act->World->Prop}
theorem Zrb(w:World)(g:Nat)(cs:Array Value)(t:TypeId){fr:Nat×Nat}(a:w.heap[g]? = some (.cells cs t fr)):w.setRow g cs=w:=by
 obtain⟨b,c⟩:=aK.1 a;have h:(w.setRow g cs).heap=w.heap:=by
  apply Array.ext_getElem?;intro i;by_cases h:g=i
  .subst h;rw [setRow_heap w g cs cs t fr a,a]
  .unfold World.setRow;dsimp only;rw [Array.getElem?_modify,aJ h]
 have e:w.setRow g cs={ w with heap:=(w.setRow g cs).heap }:=rfl;rw [e,h]
theorem Zl7 (i:Nat)     {b j k:Nat}    (s:o.op= .store t x y) (p:o.dst=none)
  (D:ev env x=some (.pointer (some ⟨b,j,none⟩))) (F:ev env y=some v) (m:lk H i=some (Ow b tb cs)) (B:v.cells=vs.toArray) (q:∀w,(sizeOf t).run P w= .ok k w) (d:vs.length=k)
  (c:Nat.ble (j+vs.length) cs.size=true) (l:∀u∈vs,u.oneCell'=true) (e:Gk cs j vs=cs) :
  T P N sc M o env H (G:=Unit) (λ_=>True) (λ_=>env) (λ_=>H):=λa w hs K Q n=>by
 have g:w.heap[b]? = some (.cells cs tb (0,0)):=hs.hold i _ m;have f:=run_storeCells_at P b j tb vs 0 cs w g (by simpa using gD c) l;simp only [fX]at f;have h:(execOp a.eval o).run P w= .ok .skip (w.setRow b (Gk cs j vs)):=by simp [execOp,s,hs.ev D,hs.ev F,Instr.storeAt,Instr.sureAddr,storeVar,B,q,d,f,Gk]
 rw [e,Zrb w b cs tb g]at h;unfold Oper.wp;rw [h];show K (a.put o.dst _) _;rw [p];exact n () _ _ aA (hs.put_none undef) (Chg.refl _ _)
def t_stp1     {i b j:Nat}   {w0:World}  (m:o.op= .store t x y) (k:o.dst=none)
  (p:ev env x=some (.pointer (some ⟨b,j,none⟩))) (q:ev env y=some v) (g:lk H i=some (box b tb cs)) (d:i≠0) (l:∀w,(sizeOf t).run P w= .ok 1 w) (c:Nat.ble (j+1) cs.size=true) (e:One N sc env H v)
  (f:lk H 0=some (Zt w0 M0)) (n:∀b,w0.heap.size<=b->sc b) (h:M b) :
  T P N sc M o env H (G:=Unit) (λ_=>True) (λ_=>env) (λ_=>(i,box b tb (Gk cs j [v]))::H):=λa w hs=>
 t_stp (cs':=#[]) (vs:=[v]) m k p q g d (Zn (e a w hs)) l rfl c ⟨e,aA⟩ f n h a w hs
def Yd4{al:Bool}(i:Nat)(hi:lk H i=some (Qi 1 Pb (λy:SL×List Int=>Yl 2 wv (Xa y.1) y.2) v zs))(a:Nat.beq i 0=false)(b:z∈zs)(h:PreOk H al r):PreOk H al (Yl 2 wv (Xa z.1) z.2::r):=Yd3 (q:=λy:SL×List Int=>Yl 2 wv (Xa y.1) y.2) (z:=z) i hi a b h
end Go.Sky
namespace Go.Sky
variable{v:Int}{o:Oper}{x y:Operand}{t tb:TypeId}{b k i:Nat}{kd:IntKind}{M M0:Nat->Prop}{w0:World}{cs:Array Value}
variable {P:Program} {N:Nat} {sc:Nat->Prop} {env env':Qh} {H H':Hp} {Q Q':Exit->Act->World->Prop}
def Bv(l:List Int):Array Value:=(l.map (Value.int .i64)).toArray
theorem Zz6(l:List Int):(Bv l).size=l.length:=by simp [Bv]
theorem Yb7{l:List Int}{j:Nat}(h:j<l.length):(Bv l)[j]? = some (.int .i64 (l.getD j 0)):=by simp [Bv,aM h,aO]
theorem Yb6{l:List Int}{j:Nat}(h:j<l.length):Gk (Bv l) j [.int .i64 v]=Bv (l.set j v):=by unfold Gk Bv;grind
theorem Gm (i:Nat)   {e:TypeId} {d c:Nat}  {m:Int} (j:o.op= .indexAddr t x y) (n:ev env x=some (.pointer (some ⟨b,d,none⟩))) (p:ev env y=some (.int kd m))
  (l:P.underlying t=some (.array c e)) (h:∀w,(sizeOf e).run P w= .ok k w) (f:m=(i:Int):=by omega) (g:i<c:=by omega):Mr P N sc o env H (.pointer (some ⟨b,d+i*k,none⟩)):=λa w hs=>by
 subst f;simp [execOp,j,hs.ev n,hs.ev p,Instr.indexAt,Instr.sureAddr,asIntOf,run_underlying l,h,g,Og]
theorem Ybn (i:Nat){j:Nat}{l:List Int}(d:o.op= .load t x)(f:ev env x=some (.pointer (some ⟨b,j,none⟩)))(a:lk H i=some (box b tb (Bv l)))(e:∀w,(isAgg t).run P w= .ok false w)(c:j<l.length:=by omega) :
  Mr P N sc o env H (.int .i64 (l.getD j 0)):=Zk5 _ d f a e (Yb7 c)
theorem d_lwa{l:List Int}(d:o.op= .load t x)(g:ev env x=some (.pointer (some ⟨b,0,none⟩)))(a:lk H i=some (box b tb (Bv l)))(e:∀w,(isAgg t).run P w= .ok true w)(c:∀w,(sizeOf t).run P w= .ok k w)(h:l.length=k) :
  Mr P N sc o env H (.agg (Bv l)):=
 Zza d g a e c O4 (λn u f=>by simpa [Bv]using f)
theorem Zuj (i:Nat)     {j:Nat} {l:List Int}    (m:o.op= .store t x y) (f:o.dst=none)
  (q:ev env x=some (.pointer (some ⟨b,j,none⟩))) (r:ev env y=some (.int .i64 v)) (d:lk H i=some (box b tb (Bv l))) (h:∀w,(sizeOf t).run P w= .ok 1 w) 
  (c:lk H 0=some (Zt w0 M0)) (p:∀b,w0.heap.size<=b->sc b) (e:M b) (a:i≠0:=by decide) (g:j<l.length:=by omega) :
  T P N sc M o env H (G:=Unit) (λ_=>True) (λ_=>env) (λ_=>(i,box b tb (Bv (l.set j v)))::H):=by
 rw [<-Yb6 g];exact Zhd m f q r d a rfl h rfl (by grind [Zz6]) (λu n=>Zk (by rw [List.mem_singleton.1 n];rfl)) rfl c p e
theorem Ycj (i:Nat)       {l:List Int}   (h:o.op= .store t x y) (f:o.dst=none)
  (n:ev env x=some (.pointer (some ⟨b,0,none⟩))) (p:ev env y=some (.agg (Bv l))) (d:lk H i=some (box b tb cs)) (g:∀w,(sizeOf t).run P w= .ok k w) (r:l.length=k) (q:cs.size=k)
  (c:lk H 0=some (Zt w0 M0)) (m:∀b,w0.heap.size<=b->sc b) (e:M b) (a:i≠0:=by decide) :
  T P N sc M o env H (G:=Unit) (λ_=>True) (λ_=>env) (λ_=>(i,box b tb (Bv l))::H):=
 Zhd h f n p d a rfl g O4 O4 (λu j=>Zk (by obtain⟨z,_,rfl⟩:=eG.1 j;rfl)) (by unfold Gk Bv;grind) c m e
def Pv:Nat->Nat->Nat
 | _,0=>1
 | 0,_+1=>0
 | n+1,k+1=>Pv n k+Pv n (k+1)
theorem Zv4:∀n k,Pv n k<=2^n
 | 0,0=>O3
 | _+1,0=>dJ _
 | 0,_+1=>bG _
 | n+1,k+1=>by have a:=Zv4 n k;have c:=Zv4 n (k+1);show Pv n k+Pv n _<=2^(n+1);omega
theorem Zk9:∀n k,n<k->Pv n k=0
 | _,0,h=>absurd h (bH _)
 | 0,_+1,_=>rfl
 | n+1,k+1,h=>by show Pv n k+Pv n _=0;rw [Zk9 n k O,Zk9 n _ O]
structure Tab (l:List Int) (n k:Nat):Prop where
 len:l.length=625
 eq:∀r c,r<25->c<25->l.getD (r*25+c) 0=if r<n\/(r=n/\c<k)then(Pv r c:Int)else 0
theorem Zg2{l:List Int}{j:Nat}(hi:i<l.length:=by omega):(l.set i v).getD j 0=if j=i then v else l.getD j 0:=by grind
theorem Tab.start:Tab (List.replicate 625 0) 0 0:=⟨aT,λr c d a=>by grind⟩
theorem Tab.step{l:List Int}{n:Nat}(h:Tab l n k)(m:n<25)(f:k<25)(p:v=(Pv n k:Int)){j:Nat}(e:j=n*25+k):Tab (l.set j v) n (k+1):=by have g:=h.len;refine⟨O4,λr c d a=>?_⟩;rw [Zg2,h.eq r c d a];grind
theorem Tab.row{l:List Int}{n:Nat}(h:Tab l n k)(f:n<k):Tab l (n+1) 0:=⟨h.len,λr c e d=>by
 rw [h.eq r c e d];by_cases g:r<n\/(r=n/\c<k)
 .omega
 .rw [aJ g];by_cases a:r<n+1\/(r=n+1/\c<0)
  .rw [aN a,Zk9 r c O];rfl
  omega⟩
theorem Tab.get{l:List Int}{n r c:Nat}(h:Tab l n k)(f:r<25)(d:c<25)(a:r<n\/(r=n/\c<k)){j:Nat}(e:j=r*25+c):l.getD j 0=(Pv r c:Int):=by rw [e,h.eq r c f d,aN a]
theorem Zzk (n:Nat)(k:Nat)(c:1<=n:=by omega)(a:1<=k:=by omega):Pv n k=Pv (n-1) (k-1)+Pv (n-1) k:=by obtain⟨m,rfl⟩:∃m,n=m+1:=⟨n-1,O⟩;obtain⟨j,rfl⟩:∃j,k=j+1:=⟨k-1,O⟩;rfl
end Go.Sky
namespace Go.Sky
variable{k b:Nat}{t tb:TypeId}{parts:List (Nat×Value)}{cells:Array Value}{o:Oper}{x y:Operand}{kd:IntKind}{v0 v1 v2:Value}{M M0:Nat->Prop}
structure Tb (l:List Int) (n k:Nat):Prop where
 len:l.length=36
 eq:∀r c,r<6->c<6->l.getD (r*6+c) 0=if r<n\/(r=n/\c<k)then(Pv r c:Int)else 0
theorem Tb.start:Tb (List.replicate 36 0) 0 0:=⟨aT,λr c d a=>by rw [aJ O,aO];rw [List.getElem?_replicate];split<;>rfl⟩
theorem Tb.step{l:List Int}{n:Nat}{v:Int}(h:Tb l n k)(u:n<6)(s:k<6)(q:v=(Pv n k:Int)){j:Nat}(i:j=n*6+k):Tb (l.set j v) n (k+1):=by
 subst i;have m:=h.len;refine⟨by rw [bZ];exact m,λr c p f=>?_⟩;rw [Zg2,h.eq r c p f];by_cases e:r*6+c=n*6+k
 .have a:r=n:=O;have d:c=k:=O;subst a;subst d;rw [aN rfl,aN O];exact q
 .rw [aJ e];have:¬(r=n/\c=k):=λ⟨a,d⟩=>e (by rw [a,d]);by_cases g:r<n\/(r=n/\c<k)
  .rw [aN g,aN O]
  .rw [aJ g,aJ O]
theorem Tb.row{l:List Int}{n:Nat}(h:Tb l n k)(f:n<k):Tb l (n+1) 0:=⟨h.len,λr c e d=>by
 rw [h.eq r c e d];by_cases g:r<n\/(r=n/\c<k)
 .rw [aN g,aN O]
 .rw [aJ g];by_cases a:r<n+1\/(r=n+1/\c<0)
  .rw [aN a,Zk9 r c O];rfl
  .rw [aJ a]⟩
theorem Tb.get{l:List Int}{n r c:Nat}(h:Tb l n k)(f:r<6)(d:c<6)(a:r<n\/(r=n/\c<k)){j:Nat}(e:j=r*6+c):l.getD j 0=(Pv r c:Int):=by rw [e,h.eq r c f d,aN a]
theorem Zv5 (k:Nat){n:Nat}(h:n<=5:=by omega):Pv n k<=32:=aB (Zv4 n k) (aB (cQ O3 h) O3)
theorem Zdl {P:Program} {e:TypeId} {n:Nat} {c a:TypeInfo} {z:Value}   (hi:P.info? t=some c) (g:P.underlying t=some (.array n e)) (h:c.zero=some z) (d:P.info? e=some a)
  (f:Instr.fill (λi=>some (i*a.size,a.size)) z.cells parts=some cells):P.built t parts=some cells:=by
 unfold Program.built;simp only [hi,g,h,d,f]
variable {P:Program} {N:Nat} {sc:Nat->Prop} {env env':Qh} {H H':Hp} {Q Q':Exit->Act->World->Prop}
def Ye{α:Type _}(i:Nat)(a b c:α):α:=match i with
 | 0=>a
 | 1=>b
 | _=>c
theorem Be{α:Type _}{p:α->Prop}{i:Nat}{a b c:α}(d:p a)(e:p b)(f:p c):p (Ye i a b c):=by unfold Ye;split<;>assumption
theorem Zm8 (i:Nat)   {e:TypeId}   {m:Int}  (j:o.op= .index t x y) (n:ev env x=some (.agg #[v0,v1,v2])) (p:ev env y=some (.int kd m))
  (l:P.underlying t=some (.array 3 e)) (g:∀w,(sizeOf e).run P w= .ok 1 w) (f:∀w,(isAgg e).run P w= .ok false w) (c:m=(i:Int)) (h:i<3:=by omega):Mr P N sc o env H (Ye i v0 v1 v2):=λa w hs=>by
 subst c;have d:i=0\/i=1\/i=2:=O;rcases d with rfl|rfl|rfl<;>simp [execOp,j,hs.ev n,hs.ev p,Instr.index,asIntOf,run_underlying l,g,f,asAgg,part,Ye]
theorem Zgn {α:Type}  {enc:α->Value}  {f g j:List α} (i c d e n:Nat) (l:lk H c=some (Yl k enc v0 f)) (m:lk H d=some (Yl k enc v1 g)) (p:lk H e=some (Yl k enc v2 j))
  (q:Nat.beq c 0=false) (r:Nat.beq d 0=false) (s:Nat.beq e 0=false):∀a w,Sat N sc env H a w->Sat N sc env ((n,Yl k enc (Ye i v0 v1 v2) (Ye i f g j))::H) a w:=by
 match i with
 | 0=>exact Zb3 c n l q rfl (λw h=>h) (λb h=>h) rfl
 | 1=>exact Zb3 d n m r rfl (λw h=>h) (λb h=>h) rfl
 | i+2=>exact Zb3 e n p s rfl (λw h=>h) (λb h=>h) rfl
theorem Ztk (i:Nat)(j:Nat){α:Type}{enc:α->Value}{l:List α}(d:α)(n:o.op= .load t x)(s:ev env x=some (.pointer (some ⟨b,0+j*k,none⟩)))(g:lk H i=some (box b tb (cellsOf enc l).toArray))(e:Enc P t k enc)(m:j<l.length) :
  Mr P N sc o env H (enc (l.getD j d)):=λa w hs=>by
 have hi:l[j]? = some (l.getD j d):=by simp [List.getD,aM m]
 have h:=e.load (l.getD j d) w ⟨b,0+j*k,none⟩ (λq u p=>by have f:=Hu e.cells l j _ hi q u p;rw [Og,hs.boxc g];simpa using f)
 have c:=hs.ev s;generalize enc (l.getD j d)=r at h ⊢;generalize (⟨b,0+j*k,none⟩:Addr)=v at h c;simp [execOp,n,c,Instr.loadAt,Instr.sureAddr,h]
theorem t_sbe (i:Nat)(j:Nat)(k:Nat) {α:Type}      {enc:α->Value} {l:List α} (z:α) {w0:World}  (q:o.op= .store t x y) (n:o.dst=none)
  (v:ev env x=some (.pointer (some ⟨b,0+j*k,none⟩))) (w:ev env y=some (enc z)) (h:lk H i=some (box b tb (cellsOf enc l).toArray)) (a:Enc P t k enc) (f:j<l.length)
  (g:lk H 0=some (Zt w0 M0)) (s:∀b,w0.heap.size<=b->sc b) (m:M b) (c:i≠0:=by decide) :
  T P N sc M o env H (G:=Unit) (λ_=>True) (λ_=>env) (λ_=>(i,box b tb (cellsOf enc (l.set j z)).toArray)::H):=by
 have p:=Xb a.cells l;have e:(enc z).cells.toList.length=k:=by simp [a.cells]
 have d:(j+1)*k<=l.length*k:=aP _ f;rw [eR]at d;refine Zhd (vs:=(enc z).cells.toList) q n v w h c rfl a.size e (by rw [e,lW,p];omega) (λu r=>Zk (a.one z u r)) ?_ g s m;unfold Gk;rw [cD,e,Zcu a.cells l j z f]
end Go.Sky
namespace Go.Sky
variable{o:Oper}{x:Operand}{t tb te:TypeId}{M M0:Nat->Prop}{cs:Array Value}
variable {P:Program} {N:Nat} {sc:Nat->Prop} {env env':Qh} {H H':Hp} {Q Q':Exit->Act->World->Prop}
theorem d_lea{α:Type}{i b k q:Nat}{enc:α->Value}{l:List α}(f:o.op= .load t x)(j:ev env x=some (.pointer (some ⟨b,0,none⟩)))(a:lk H i=some (box b tb (cellsOf enc l).toArray))(c:Enc P te q enc)(g:∀w,(isAgg t).run P w= .ok true w)(d:∀w,(sizeOf t).run P w= .ok k w)(e:l.length*q=k) :
  Mr P N sc o env H (.agg (cellsOf enc l).toArray):=
 Zza (vs:=cellsOf enc l) f j a g d (by rw [Xb c.cells l];exact e) (λn u h=>by rw [cD];simpa using h)
theorem t_sea {α:Type}   {y:Operand}  {i b k q:Nat}  {enc:α->Value} {l:List α} {w0:World}  (r:o.op= .store t x y) (m:o.dst=none)
  (v:ev env x=some (.pointer (some ⟨b,0,none⟩))) (B:ev env y=some (.agg (cellsOf enc l).toArray)) (g:lk H i=some (box b tb cs)) (d:Enc P te q enc) (n:∀w,(sizeOf t).run P w= .ok k w) (p:l.length*q=k) (j:cs.size=k)
  (f:lk H 0=some (Zt w0 M0)) (s:∀b,w0.heap.size<=b->sc b) (h:M b) (a:i≠0:=by decide) :
  T P N sc M o env H (G:=Unit) (λ_=>True) (λ_=>env) (λ_=>(i,box b tb (cellsOf enc l).toArray)::H):=by
 have c:(cellsOf enc l).length=k:=by rw [Xb d.cells l];exact p
 refine Zhd (vs:=cellsOf enc l) r m v B g a rfl n c (by rw [c,cD,j];exact aG _) (λu e=>?_) (by unfold Gk;rw [fS,kI,cD,List.drop_eq_nil_of_le O9,iD]) f s h
 unfold cellsOf at e;obtain⟨z,_,D⟩:=gT.1 e;exact Zk (d.one z u D)
end Go.Sky
namespace Go.Sky
variable {P:Program} {N:Nat} {sc:Nat->Prop} {env env':Qh} {H H':Hp} {Q Q':Exit->Act->World->Prop}
abbrev Ze:=(Int×Int×Int)×(SL×List Int)×(SL×List Int)×(SL×List Int)
abbrev Nh (g:Ze):Value:= .agg #[.int .i64 g.1.1,.int .i64 g.1.2.1,.int .i64 g.1.2.2,Xa g.2.1.1,Xa g.2.2.1.1,Xa g.2.2.2.1]
abbrev qC (z:SL×List Int):Pc:=Yl 1 Xi (Xa z.1) z.2
abbrev qG (g:Ze):Pc:=Hf qC [g.2.1,g.2.2.1,g.2.2.2]
abbrev G0:Ze:=((0,0,0),((none,0,0),[]),((none,0,0),[]),((none,0,0),[]))
def Ep (g:Ze)(z:SL×List Int){v:Value}{ps:List Ze}(j n:Nat)(i:lk H j=some (Qi 6 Nh qG v ps))(c:Nat.beq j 0=false)(d:g∈ps)(e:z∈[g.2.1,g.2.2.1,g.2.2.2]):∀a w,Sat N sc env H a w->Sat N sc env ((n,Yl 1 Xi (Xa z.1) z.2)::H) a w:=
 Zb3 j n i c rfl (λw h=>h.2 g d z e) (λb f=> .inr ⟨g,d,z,e,f⟩) rfl
end Go.Sky
namespace Go.Sky
variable{x c z y:List Int}{i:Nat}{over ov:Int}
theorem Eg{x:Int}(h:Mx x):bl x.natAbs<=64:=(Qr 64 _).2 (by obtain⟨a,b⟩:=h;omega)
theorem in_bl{x:Int}(h:bl x.natAbs<=63):Mx x:=by have:=(Qr 63 x.natAbs).1 h;exact⟨O,O⟩
theorem bl_pw{n:Int}(h:bl n.natAbs<=100)(hi:i<=10):bl (n^i).natAbs<=1000:=by
 rcases aX i with a|a
 .subst a;rw [eH];decide
 .exact aB (Cw n h i a) (by have:=aP 100 hi;omega)
def Ak:List Int->Int
 | []=>1
 | x::r=>x*Ak r
def zc6_eq:(Value.agg (List.replicate 36 (Value.int .i64 0)).toArray).cells=Bv (List.replicate 36 0):=rfl
def Zqh:(Value.agg (List.replicate 36 (Value.int .i64 0)).toArray).cells.size=36:=rfl
def w60(n j k:Nat):Int:=60/(Pv n k:Int)*(Pv j k:Int)
def ctl(c:List Int)(j m:Nat):Int:=Yc (λk=>c.getD k 0*w60 (c.length-1) j k) m
def Yhk(c:List Int)(j m:Nat):ctl c j (m+1)=ctl c j m+c.getD m 0*w60 (c.length-1) j m:=rfl
theorem Zpy:∀{n k:Nat},k<=n->0<Pv n k
 | n,0,_=>by cases n<;>exact Nat.one_pos
 | n+1,k+1,h=>by have:=Zpy (n:=n) (k:=k) O;show 0<Pv n k+Pv n (k+1);omega
theorem Yb8 (n:Nat)(k:Nat){j:Nat}(d:j<=5):0<=w60 n j k/\w60 n j k<=1920:=by have e:=Zv5 k d;unfold w60;have a:(0:Int)<=60/(Pv n k:Int):=kH O3 O;have b:(60:Int)/(Pv n k:Int)<=60:=jZ _ O3;refine⟨cS a O,?_⟩;have:=jK b (show(Pv j k:Int)<=32 by omega) O O3;omega
theorem Zwc (k:Nat){n j:Nat}(a:j<=5):bl (w60 n j k).natAbs<=11:=by have:=Yb8 n k a;exact(Qr 11 _).2 O
theorem Gs(h:∀x∈c,Mx x)(k:Nat):Mx (c.getD k 0):=by
 by_cases a:k<c.length
 .exact h _ (Zj a)
 .rw [aO,dI O];exact⟨O3,O3⟩
theorem Yh5(h:∀x∈c,Mx x){j m:Nat}(a:j<=5)(b:m<=31):bl (ctl c j m).natAbs<=80:=
 Zis (K:=75) (λk _=>by have d:=Eg (Gs h k);have e:=Zwc k (n:=c.length-1) a;have:=Xt (c.getD k 0) (w60 (c.length-1) j k);omega) b
def Zg6(c:List Int)(over:Int):Bool:=(List.range c.length).all λj=>decide ((ctl c j (j+1)).natAbs<=62914560*over)
theorem Zp6(h:∀j,j<c.length->((ctl c j (j+1)).natAbs:Int)<=62914560*over):Zg6 c over=true:=by unfold Zg6;rw [aZ];intro j a;exact aH (h j (cN.1 a))
theorem bndB_f{j:Nat}(a:j<c.length)(h:¬((ctl c j (j+1)).natAbs:Int)<=62914560*over):Zg6 c over=false:=by
 cases hb:Zg6 c over with
 | false=>rfl
 | true=>
  unfold Zg6 at hb;rw [aZ]at hb;exact absurd (cH (hb j (cN.2 a))) h
theorem wc_abs{s:Int}:(#[.bool false,.string (Xm s.natAbs)]:Array Value)=wc (s.natAbs:Int):=by have:decide (((s.natAbs:Nat):Int)<0)=false:=aF O;rw [show wc (s.natAbs:Int)=#[.bool (decide (((s.natAbs:Nat):Int)<0)),.string (Xm ((s.natAbs:Nat):Int).natAbs)]from rfl,this,eE]
theorem sgp{z:Int}:0<z.sign↔0<z:=by simpa using Za6 z
def axB(c:List Int)(over:Int):Bool:=decide (1<=c.length) && decide (c.length<=6) && !(decide (1<c.length) && decide (c.getD (c.length-1) 0=0)) && Zg6 c over
def Li(g:Int):List Int->Int
 | []=>g
 | x::r=>Li (Int.gcd g x) r
theorem Cb:∀(a b:List Int) (g:Int),Li g (a ++ b)=Li (Li g a) b
 | [],_,_=>rfl
 | x::a,b,g=>Cb a b _
theorem Zg3{l:List Int}{g:Int}(h:i<l.length):Li g (l.take (i+1))=(Int.gcd (Li g (l.take i)) (l.getD i 0):Int):=by rw [Po 0 _ _ h,Cb];rfl
theorem Zf6:∀{l:List Int} {g:Int} {m:Nat},(∀x∈l,bl x.natAbs<=m)->bl g.natAbs<=m->bl (Li g l).natAbs<=m
 | [],_,_,_,h=>h
 | x::l,g,m,h,hg=>Zf6 (l:=l) (λy a=>h y (bN _ a)) (aB (Zp8 g x) (by have:=h x (bW ..);omega))
abbrev Cs:=List Int×List Int×List Int
def Zuh(fr a ov:Int):Bool:=decide (0<=fr) && decide (fr<a) && decide (a<=3600000) && decide (1<=ov) && decide (ov<=4294967296)
def Zag(fr a ov:Int)(x y z:List Int):Bool:=Zuh fr a ov && axB x ov && axB y ov && axB z ov && decide (Li ov (x ++ y ++ z)=1)
def Ie(i:Nat)(x y z:List Int):List Int:=match i with
 | 0=>[]
 | 1=>x
 | 2=>x ++ y
 | _=>x ++ y ++ z
theorem Zci(x y z:List Int)(h:i<3):Ie (i+1) x y z=Ie i x y z ++ Ye i x y z:=by
 match i,h with
 | 0,_=>rfl
 | 1,_=>rfl
 | 2,_=>rfl
theorem Zjj (i:Nat){fr a:Int}(h:axB (Ye i x y z) ov=false):Zag fr a ov x y z=false:=by unfold Zag;revert h;unfold Ye;split<;>intro h<;>simp [h]
theorem Zi8{fr a:Int}(h:¬(0<=fr/\fr<a/\a<=3600000/\1<=ov/\ov<=4294967296)):Zag fr a ov x y z=false:=by
 cases hb:Zag fr a ov x y z with
 | false=>rfl
 | true=>
  unfold Zag Zuh at hb;simp only [aQ,cW]at hb;exact absurd O h
theorem Zt4(h:1<=c.length->c.length<=6->¬(1<c.length/\c.getD (c.length-1) 0=0)->Zg6 c ov=true->False):axB c ov=false:=by
 cases hb:axB c ov with
 | false=>rfl
 | true=>
  unfold axB at hb;simp only [aQ,fL,iR,cW,fT]at hb;exact(h hb.1.1.1 hb.1.1.2 (λb=>by rcases hb.1.2 with a|a;exact a b.1;exact a b.2) hb.2).elim
theorem Yih(b:1<=c.length)(d:c.length<=6)(e:¬(1<c.length/\c.getD (c.length-1) 0=0))(f:Zg6 c ov=true):axB c ov=true:=by
 unfold axB;simp only [aQ,fL,iR,cW,fT];refine⟨⟨⟨b,d⟩,?_⟩,f⟩;by_cases a:1<c.length
 .exact .inr λg=>e ⟨a,g⟩
 .exact .inl a
theorem segB_e{fr d:Int}(a:0<=fr/\fr<d/\d<=3600000/\1<=ov/\ov<=4294967296)(b:∀k,k<3->axB (Ye k x y z) ov=true):Zag fr d ov x y z=decide (Li ov (Ie 3 x y z)=1):=by have e:axB x ov=true:=b 0 O3;have f:axB y ov=true:=b 1 O3;have g:axB z ov=true:=b 2 O3;unfold Zag Zuh;rw [aH a.1,aH a.2.1,aH a.2.2.1,aH a.2.2.2.1,aH a.2.2.2.2,e,f,g];rfl
def Ap(b:∀a∈x,Mx a)(d:∀a∈y,Mx a)(e:∀a∈z,Mx a)(i:Nat):∀a∈Ye i x y z,Mx a:=Be (p:=λl=>∀a∈l,Mx a) b d e
theorem bl_fc(d:∀a∈x,Mx a)(e:∀a∈y,Mx a)(f:∀a∈z,Mx a)(g:bl ov.natAbs<=64)(i k:Nat):bl (Li (Li ov (Ie i x y z)) ((Ye i x y z).take k)).natAbs<=64:=by
 refine Zf6 (λa b=>Eg (Ap d e f i a (gO b))) (Zf6 (λa b=>Eg ?_) g);unfold Ie at b;split at b
 .cases b
 .exact d a b
 .rcases cP.1 b with h|h
  .exact d a h
  .exact e a h
 .rcases cP.1 b with h|h
  .rcases cP.1 h with h|h
   .exact d a h
   .exact e a h
  .exact f a h
end Go.Sky

