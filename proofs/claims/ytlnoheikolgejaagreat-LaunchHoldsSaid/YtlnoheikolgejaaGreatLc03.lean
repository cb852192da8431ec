/- Rules, arithmetic and contracts: part 4. No conditions but those that each theorem names. -/
import Derived.Test.YtlnoheikolgejaaGreatLc02
import Derived.Scope
set_option linter.all false
namespace Go.Sky
variable{a b s c:List Int}
theorem Ao (k:Nat){f:Nat->Int} : ∀{n:Nat},k<n->(∀i,i<n->i≠k->f i=0)->Yo f n=f k
 | 0,d,_=>absurd d (aR _)
 | n+1,d,h=>by
  rw [Ys];by_cases e:k=n
  .subst e;rw [Gl λi hi=>h i O O,kH]
  .rw [h n O5 (λx=>e x.symm),Ao _ O (λi hi=>h i O),gC]
theorem Az{p q:List Int}{a b:Nat}(e:∀i,a<i->cf p i=0)(f:∀i,b<i->cf q i=0):(ps p*ps q).c (a+b)=cf p a*cf q b:=by
 rw [PS.mul_c,Ao a O λi hi d=>?_]
 .grind [Nu]
 .rw [Nu,Nu];grind
theorem Zg8(s e:List Int)(c d:Int)(f:PS)(t:Nat):(ps (Bf (Zw s c) (Zw e d))*f).c t=c*(ps s*f).c t-d*(ps e*f).c t:=by rw [PS.mul_c,PS.mul_c,PS.mul_c,<-Mh,eO,<-Int.neg_mul,<-Mh,<-Fy];refine Xl λk _=>?_;rw [Nu,Nu,Nu,Hd,Ym,Ym];grind
theorem Zvm(f:PS)(q d:List Int)(u v:Int)(h:∀i,u*cf q i=v*cf d i)(t:Nat):u*(f*ps q).c t=v*(f*ps d).c t:=by grind [PS.mul_c,Mh,Xl,Nu]
theorem Ybw{q r:List Int}(j:Tr q)(f:q≠[])(h:∀t,(ps s*ps q).c t=cf r t)(o:∀t,q.length-1<=t->cf r t=0):∀t,cf s t=0:=by
 have d:=j.mem f;have hs:tzl s=[]:=by
  rcases Zkd _ with g|⟨u,y,g⟩
  .omega
  .have k:=Xy s;have e:tzl s≠[]:=O10;have l:=k.mem e;have m:=Az (p:=tzl s) (q:=q) (a:=(tzl s).length-1) (b:=q.length-1) (λi hi=>Yt O) (λi hi=>Yt O);have n:ps _=ps s:=PS.ext' λi=>Lg s i;grind [Int.mul_eq_zero]
 grind [Ik]
theorem Lx(h:∀t,cf s t=0)(f:PS)(t:Nat):(ps s*f).c t=0:=by simp_all [PS.mul_c,Gl,Nu,cJ]
theorem Oz{p q:List Int}(f:Tr p)(g:Tr q)(d:p≠[])(e:q≠[]):(Pf p q).length=p.length+q.length-1:=by have h:=aI.2 d;have j:=aI.2 e;unfold Pf;rw [An,Yy];right;rw [Yy,Md,aP O,show p.length+q.length-1-1=(p.length-1)+(q.length-1) by omega,Az (λi hi=>Yt O) (λi hi=>Yt O)];exact bE (f.mem d) (g.mem e)
def mono(s:Nat)(c:Int):List Int:=List.replicate s 0 ++ [c]
theorem Zk8(s:Nat)(c:Int)(i:Nat):cf (mono s c) i=if i=s then c else 0:=by
 unfold mono;rw [Zqa];split
 .unfold cf;grind
 .split
  .rename_i d;subst d;simp [cf]
  grind [Yt]
theorem Zmx(s:Nat)(c:Int)(f:PS)(t:Nat):(ps (mono s c)*f).c t=if s<=t then c*f.c (t-s)else 0:=by
 rw [PS.mul_c];split
 .rw [Ao s O λi _ d=>by rw [Nu,Zk8,aJ d,cJ],Nu,Zk8,aP rfl]
 .exact Gl λk e=>by rw [Nu,Zk8,aJ O,cJ]
theorem Zil{p q:List Int}(o:0<q.length)(n:q.length<=p.length):∀j,j<=p.length-q.length+1->∃s:List Int,∀t,cf q (q.length-1)^j*cf p t=(ps s*ps q).c t+cf (Pp p q j) t
 | 0,_=>⟨[],λt=>by rw [Lx (λt=>Yt (aX _))];unfold Pp;simp⟩
 | j+1,y=>by
  obtain⟨s,r⟩:=Zil o n j O;refine⟨Bf (Zw s (cf q (q.length-1))) (Zw (mono (p.length-1-j-(q.length-1)) (cf (Pp p q j) (p.length-1-j))) (-1)),λt=>?_⟩;rw [Zg8,Zmx];have d:=r t;show _=_+cf (Zgr q _ _) t;rw [dE];rcases bA t p.length with h|h
  .rw [Zhz (by grind [Ob])];generalize p.length-1-j-(q.length-1)=f;generalize cf (Pp p q j) t=k at d ⊢;generalize (ps s*ps q).c t=X at d ⊢;generalize cf q _^j=L at d ⊢;generalize cf q _=l at d ⊢;have e:L*l*cf p t=l*X+k*l:=O4;rw [e];by_cases m:f<=t
   .rw [aP m,Nu];by_cases x:t<f+q.length
    .omega
    .rw [Yt (p:=q) (i:=t-_) O];simp
   omega
  .have g:=Yt h;have u:cf (Pp p q j) t=0:=Yt (by grind [Ob]);have v:cf (Zgr q (Pp p q j) (p.length-1-j)) t=0:=Yt (by grind [Zhd,Ob]);have w:cf q (t-(p.length-1-j-(q.length-1)))=0:=Yt O;rw [g,u,gC]at d;rw [g,v,Nu,w,<-d];simp
theorem Cr(p:List Int){q:List Int}(e:q≠[]):∃(k:Nat) (s:List Int),∀t,cf q (q.length-1)^k*cf p t=(ps s*ps q).c t+cf (Qq p q) t:=by
 have d:=aI.2 e;rcases bA p.length q.length with h|h
 .refine⟨0,[],λt=>?_⟩;rw [Lx (λt=>Yt (aX _))];unfold Qq;grind
 .obtain⟨s,hs⟩:=Zil d h _ (aF _);refine⟨p.length-q.length+1,s,λt=>?_⟩;unfold Qq;simp_all [aJ,Lg]
theorem Pi(p:List Int){q:List Int}(e:q≠[]):(Qq p q).length<q.length:=by
 have d:=aI.2 e;unfold Qq;split
 .omega
 .have:=Zb0 (p:=Pp p q _) λi hi=>Zfn d O _ (aF _) i O;omega
theorem Kj{p q:List Int}(d:Tr p):Tr (Qq p q):=by unfold Qq;grind [Xy]
def Sim(a b:List Int):Prop:=∃m n:Int,m≠0/\n≠0/\∀i,m*cf a i=n*cf b i
def Sim.refl(a:List Int):Sim a a:=⟨1,1,O,O,λ_=>rfl⟩
def Sim.symm : Sim a b->Sim b a:=λ⟨m,n,d,e,h⟩=>⟨n,m,e,d,λi=>(h i).symm⟩
def Sim.trans : Sim a b->Sim b c->Sim a c:=λ⟨m,n,d,e,h⟩ ⟨u,v,f,g,k⟩=>
 ⟨m*u,n*v,bE d f,bE e g,λi=>O4⟩
theorem Sim.zero(h:Sim a b){i:Nat}(hi:cf a i=0):cf b i=0:=by obtain⟨m,n,d,e,h⟩:=h;grind [Int.mul_eq_zero]
theorem Sim.len_le(h:Sim a b)(e:Tr b):b.length<=a.length:=by
 rcases bA a.length b.length with f|f
 .exfalso;have d:b≠[]:=aI.1 O;exact e.mem d (h.zero (Yt O))
 omega
def Sim.len(h:Sim a b)(d:Tr a)(e:Tr b):a.length=b.length:=gF (h.symm.len_le d) (h.len_le e)
theorem Sim.nil(h:Sim a b)(d:Tr b)(e:a=[]):b=[]:=by have:=h.len_le d;simp_all
theorem Yfb{g d:List Int}(R:Tr a)(H:Tr g)(w:Tr b)(h:Tr d)(l:b≠[])(F:Sim a g)(q:Sim b d):Sim (Qq a b) (Qq g d):=by
 have f:d≠[]:=λe=>l (q.symm.nil w e);have y:=q.len w h;obtain⟨k,s,hs⟩:=Cr a l;obtain⟨x,I,i⟩:=Cr g f;have G:cf b (b.length-1)^k≠0:=Ml (w.mem l) k;have r:cf d (d.length-1)^x≠0:=Ml (h.mem f) x;generalize cf b (b.length-1)^k=L at hs G;generalize cf d (d.length-1)^x=o at i r;obtain⟨m,n,S,V,B⟩:=F;obtain⟨u,v,Y,Z,D⟩:=q;have l1:=Pi a l;have l2:=Pi g f;have j:∀t,(ps (Bf (Zw s (o*m*v)) (Zw I (L*n*u)))*ps d).c t=cf (Bf (Zw (Qq g d) (L*n*u)) (Zw (Qq a b) (o*m*u))) t:=λt=>by rw [Zg8,Hd,Ym,Ym];have M:=hs t;have N:=i t;have P:=B t;have Q:=Zvm (ps s) b d u v D t;grind
 have z:=Ybw h f j λt W=>by rw [Hd,Ym,Ym,Yt (p:=Qq g d) O,Yt (p:=Qq a b) O];simp
 refine⟨o*m*u,L*n*u,by simp [*],by simp [*],λt=>?_⟩;have:=j t;rw [Lx z,Hd,Ym,Ym]at this;grind
theorem Zcq(c:Int):∀(p:List Int) (g:Int),0<=g->(p.map (· * c)).foldl (λg c=>(Int.gcd g c:Int)) (g*c.natAbs)=p.foldl (λg c=>(Int.gcd g c:Int)) g*c.natAbs
 | [],g,_=>rfl
 | x::p,g,hg=>by
  rw [bQ,gG,gG,<-Zcq c p _ O5];congr 1;have:Int.gcd (g*(c.natAbs)) (x*c)=Int.gcd g x*c.natAbs:=by unfold Int.gcd;grind [Int.natAbs_mul,Int.natAbs_natCast,Nat.gcd_mul_right]
  omega
theorem Zis(p:List Int)(c:Int):Yx (p.map (· * c))=Yx p*c.natAbs:=by have:=Zcq c p 0 (eQ _);rw [cJ]at this;exact this
theorem Eb(p:List Int)(i:Nat):cf (Yf p) i*Yx p=cf p i:=by grind [Zdr,Int.ediv_mul_cancel,Ki]
theorem Yfc:Yf []=[]:=rfl
theorem Cv{p:List Int}(h:Tr p)(d:p≠[]):Yx p≠0:=λe=>h.mem d ((Zdc p).1 e _)
theorem Kk{p:List Int}(h:Tr p)(d:p≠[]):Yx (Yf p)=1:=by
 have f:=Cv h d;have e:=Zis (Yf p) (Yx p);rw [show(Yf p).map _=p from Ib (by rw [aW,Yi]) λi _=>by grind [Zf2,Eb]]at e;have g:=Ns p;have j:Yx p*(Yx (Yf p)-1)=0:=by grind
 all_goals grind [Int.mul_eq_zero]
theorem Zgz{p:List Int}(h:Yx p=1):Yf p=p:=Ib (Yi p) λi _=>by rw [Zdr,h,Int.ediv_one]
theorem Zfs{p:List Int}(h:Tr p):Yf (Yf p)=Yf p:=by
 by_cases d:p=[]
 .subst d;rfl
 grind [Zgz,Kk]
theorem Qm{p:List Int}(h:Tr p):Sim (Yf p) p:=by
 by_cases d:p=[]
 .subst d;exact Sim.refl _
 .exact⟨Yx p,1,Cv h d,O,λi=>by grind [Eb]⟩
def Xg(p:List Int):List Int:=Lp (Yf p)
theorem Zlw{x y:List Int}(o:Tr x)(p:Tr y)(q:x≠[])(d:Yx x=1)(f:Yx y=1)(h:Sim x y):x=y\/∀i,cf x i=- cf y i:=by
 have r:=h.len o p;obtain⟨m,n,t,l,e⟩:=h;have g:=Zis x m;have j:=Zis y n;rw [show x.map _=y.map (· * n)from Ib O4 λi _=>by grind [Zf2,Int.mul_comm],j,d,f]at g
 have k:m=n\/m=-n:=O;rcases k with rfl|rfl
 .grind [Ib,Int.eq_of_mul_eq_mul_left]
 .exact .inr λi=>iJ l O4
theorem Dd(g:List Int)(i:Nat):cf (Lp g) i=if g.length≠0/\cf g (g.length-1)<0 then-cf g i else cf g i:=by unfold Lp;grind [Ym]
theorem Ng{g:List Int}(h:Tr g):Tr (Lp g):=by unfold Lp;grind [Ql]
theorem Hk(g:List Int):Sim (Lp g) g:=by
 by_cases h:g.length≠0/\cf g (g.length-1)<0
 .exact⟨-1,1,O,O,λi=>by simp_all [Dd,aP]⟩
 .exact⟨1,1,O,O,λi=>by rw [Dd,aJ h]⟩
theorem Zro(g:Tr a)(j:Tr b)(h:Sim a b):Xg a=Xg b:=by
 by_cases d:a=[]
 .rw [h.nil j d,d]
 .have l:=λe=>d (h.symm.nil g e);have hs:=(Qm g).trans (h.trans (Qm j).symm);have m:=Yw g;have k:=Yw j;have n:=hs.len m k;have f:Yf a≠[]:=λe=>d (aC (by grind [Yi]));rcases Zlw m k f (Kk g d) (Kk j l) hs with e|e
  .unfold Xg;grind
  .unfold Xg;refine(Ng m).ext (Ng k) λi=>?_;rw [Dd,Dd];have o:cf (Yf b) ((Yf a).length-1)≠0:=by rw [n];exact k.mem (λp=>f (aC O4))
   grind
theorem Zy8:∀(f:Nat) {a b k g:List Int},Tr a->Tr k->Tr b->Tr g->Sim a k->Sim b g->Sim (eu f a b) (eu f k g)
 | 0,_,_,_,_,_,_,_,_,h,_=>h
 | f+1,a,b,k,g,n,j,m,d,o,l=>by
  unfold eu;by_cases i:b=[]
  .rw [aP i,aP (l.nil d i)];omega
  .rw [aJ i,aJ (λe=>i (l.symm.nil m e))];have t1:=Kj (q:=b) n;have t2:=Kj (q:=g) j;exact Zy8 f m d (Yw t1) (Yw t2) l ((Qm t1).trans ((Yfb n j m d i o l).trans (Qm t2).symm))
theorem Znn:∀(f:Nat) {a b:List Int},Tr a->Tr b->Tr (eu f a b)
 | 0,_,_,h,_=>h
 | f+1,a,b,d,e=>by
  unfold eu;split
  .exact d
  .exact Znn f e (Yw (Kj d))
theorem Zk3:∀(f k:Nat) {a b:List Int},eok f a b->eu (f+k) a b=eu f a b
 | 0,k,a,b,h=>by rw [show b=[]from h,Bj,Bj]
 | f+1,k,a,b,h=>by
  rcases h with h|h
  .rw [h,Bj,Bj]
  .by_cases d:b=[]
   .rw [d,Bj,Bj]
   .rw [show f+1+k=f+k+1 by omega];unfold eu;rw [aJ d,aJ d];exact Zk3 f k h.2
theorem Ycp:∀(f:Nat) {a b:List Int},Tr a->Tr b->Yf a=a->Yf b=b->Yf (eu f a b)=eu f a b
 | 0,_,_,_,_,h,_=>h
 | f+1,a,b,d,i,e,g=>by
  unfold eu;split
  .exact e
  .exact Ycp f i (Yw (Kj d)) g (Zfs (Kj d))
theorem Zjh{p q:List Int}(d:Tr p)(e:Tr q):Tr (gA p q):=by unfold gA;all_goals grind [Yw]
theorem Zjg{p q:List Int}(d:Tr p)(e:Tr q):Tr (gB p q):=by unfold gB;all_goals grind [Yw]
theorem Zvf{F:Nat}{p q:List Int}(d:Tr p)(e:Tr q):Nv F p q=Xg (eu F (gA p q) (gB p q)):=by
 unfold Nv Xg;rw [Ycp F (Zjh d e) (Zjg d e)]
 .unfold gA;grind [Zfs]
 .unfold gB;grind [Zfs]
theorem Yr8{F G:Nat}{p q:List Int}(e:Tr p)(d:Tr q)(g:eok F p q)(i:eok G (gA p q) (gB p q)):Lp (Yf (eu F p q))=Nv G p q:=by
 rw [Zvf e d];rw [<-Zk3 F _ g,<-Zk3 G F i];refine Zro (Znn _ e d) (Znn _ (Zjh e d) (Zjg e d)) ?_;rcases bA _ _ with h|h
 .rw [show gA p q=Yf q from aP h,show gB p q=Yf p from aP h];rw [show F+(G+1)=F+G+1 by rfl,show G+F=F+G by omega];have f:q≠[]:=aI.1 O;have:eu (F+G+1) p q=eu (F+G) q (Yf p):=by
   conv=>lhs;unfold eu
   rw [aJ f,show Qq p q=p from aP h]
  rw [this];exact Zy8 _ d (Yw d) (Yw e) (Yw e) (Qm d).symm (Sim.refl _)
 .rw [show gA p q=Yf p from aJ O,show gB p q=Yf q from aJ O];have j:eu (F+(G+1)) p q=eu (F+G) p q:=by simp_all [Zk3]
  rw [j,show G+F=F+G by omega];exact Zy8 _ e (Yw e) d (Yw d) (Qm e).symm (Qm d).symm
def chk:Nat->Nat->Nat->Nat->Nat->Bool
 | 0,_,d,_,_=>Nat.beq d 0
 | f+1,e,d,A,B=>Nat.beq d 0 || (bif Nat.blt e d then chk f d e B A else
   Nat.ble (A+(e-d+1)*B) 65537 && (List.range d).all λl=>chk f d l B (bif Nat.ble l 1 then 2 else A+(e-d+1)*B))
theorem cp_nf{p:List Int}{x y z:Int}{n m:Nat}(d:Sz n p)(j:bl x.natAbs<=m)(k:bl y.natAbs<=m)(l:bl z.natAbs<=m)(i:p.length<=25)(h:n+24*(m+1)+8<=65536):Xx p+(p.length-1)*(Xx [x,y,z]+1)+8<=65536:=by
 have e:=Qu d;have f:Xx [x,y,z]<=m:=by simp only [Xx];omega
 have g:(p.length-1)*(Xx [x,y,z]+1)<=24*(m+1):=aQ O O;omega
theorem cp_not{p:List Int}{x y z:Int}(h:Xx p+(p.length-1)*(Xx [x,y,z]+1)+8<=65536):¬Zns p x y z:=λd=>by have:=d.2;omega
theorem Zfv(p:List Int)(x y z:Int):(Lh p x y z).length<=p.length:=by
 unfold Lh;split
 .simp
 grind [Nat.le_trans,Mg,Zdf]
theorem Zvu(x y:Int):Kl x y∣x:=by
 unfold Kl;split
 all_goals grind [Int.neg_dvd,Int.gcd_dvd_left]
theorem Zvt(x y:Int):Kl x y∣y:=by
 unfold Kl;split
 all_goals grind [Int.neg_dvd,Int.gcd_dvd_right]
abbrev Z0:SL×List Int:=((none,0,0),[])
theorem vp_eu:∀(f:Nat) {a b:List Int},Vp a->Vp b->eok f a b->Vp (eu f a b)
 | 0,_,_,h,_,_=>h
 | f+1,a,b,d,e,h=>by
  unfold eu;split
  .exact d
  .rcases h with h|h
   .contradiction
   .exact vp_eu f e (Lu (Za6 d h.1)) h.2
theorem Ygy{g:List Int}(h:Vp g):Vp (Lp g):=by
 unfold Lp;split
 .refine⟨λi=>by rw [Ym];exact Zcm h.sz i,Ql _ _,aB (Pz _ _) h.len⟩
 omega
def Zz7{F:Nat}{p q:List Int}(d:Vp p)(e:Vp q)(h:eok F (gA p q) (gB p q)):Vp (Nv F p q):=Ygy (vp_eu F (vp_gA d e) (vp_gB d e) h)
theorem Fr(q:List Int):Pf [] q=[]:=Zbh (.inl rfl)
theorem Zca(p:List Int):Pf p []=[]:=Zbh (.inr rfl)
theorem Ylp(N D:Int):N/Kl N D*D=N*(D/Kl N D):=by grind [Int.ediv_mul_cancel,Zvu,Zvt]
theorem Yfv{N D:Int}(h:0<D):0<D/Kl N D:=by
 have f:Kl N D=(Int.gcd N D):=aJ O;have g:=lN (Zvt N D);rw [f]at g ⊢;generalize D/(Int.gcd N D)=d at *;rcases gD 0 d with e|e
 .omega
 .have:d*(Int.gcd N D)<=0:=eZ e O5;omega
section
variable {p q:List Int}
theorem Zfz(l:Tr p)(f:Tr q)(h:p≠[])(d:q≠[]):∀j,j<=p.length->∀t,cf (Xr (Pf p q) q j) t=(ps (p.take (p.length-j))*ps q).c t
 | 0,_,t=>by rw [kK,bS];exact Gw p q t
 | j+1,y,t=>by
  have n:=Zfz l f h d j O;have z:=aI.2 d;have v:=Oz l f h d;have r:Xr (Pf p q) q (j+1)=Zhn q (Xr (Pf p q) q j) (p.length-1-j):=by show Zhn q _ _=_;grind
  have w:=f.mem d;have m:cf (Xr (Pf p q) q j) (p.length-1-j+q.length-1)=cf p (p.length-1-j)*cf q (q.length-1):=by rw [n,show p.length-1-j+q.length-1=(p.length-1-j)+(q.length-1) by omega,Az (λi hi=>by rw [Db,aJ O]) (λi hi=>Yt O),Db,aP O]
  have e:dq q (Xr (Pf p q) q j) (p.length-1-j)=cf p (p.length-1-j):=by unfold dq;simp_all
  have u:(ps (p.take (p.length-j))*ps q).c t=(ps (p.take (p.length-(j+1)))*ps q).c t+(ps (mono (p.length-1-j) (cf p (p.length-1-j)))*ps q).c t:=by rw [PS.mul_c,PS.mul_c,PS.mul_c,<-Fy];refine Xl λk _=>?_;rw [Nu,Nu,Nu,Nu,Db,Db,Zk8];grind
  rw [r];unfold Zhn;rw [Md,Fi,v,e,n,u,Zmx,Nu];by_cases g:t<p.length+q.length-1
  .rw [aP g];by_cases o:p.length-1-j<=t
   .rw [aP o];by_cases x:t<p.length-1-j+q.length
    .omega
    .rw [Yt (p:=q) O];simp
   omega
  .rw [aJ g,PS.mul_c];refine(Gl λk _=>?_).symm;rw [Nu,Nu,Db];split
   .rw [Yt (p:=q) O,dX]
   omega
theorem Zrh(f:Tr p)(g:Tr q)(e:q≠[]):pdv (Pf p q) q/\Lv (Pf p q) q=p:=by
 by_cases d:p=[]
 .subst d;rw [Fr];exact⟨.inl rfl,rfl⟩
 have r:=aI.2 d;have t:=aI.2 e;have o:=Oz f g d e;have m:=g.mem e;have n:∀k,k<=p.length-1->cf (Xr _ q (p.length-1-k)) (k+q.length-1)=cf p k*cf q _:=λk j=>by rw [Zfz f g d e _ O,show k+q.length-1=k+(q.length-1) by omega,Az (λi hi=>by rw [Db,aJ O]) (λi hi=>Yt O),Db,aP O]
 have l:(Pf p q).length-q.length=p.length-1:=O;have h:Pf p q≠[]:=aI.1 O;refine⟨.inr ⟨O,λk j=>?_,?_⟩,?_⟩
 .unfold Mx;simp_all
 .rw [l,show p.length-1+1=p.length by omega];refine(Ik _).2 λi=>?_;rw [Zfz f g d e _ (aF _),fZ];simp [Lx,Yt,aX]
 .rw [Zmi h];unfold Yj4;rw [l,show p.length-1+1=p.length by omega,Cx λk j=>?_,Zej,An f];unfold Zwx dq;grind [Int.mul_ediv_cancel]
end
def Dv(g a:List Int):Prop:=∃(k:Int) (s:List Int),k≠0/\∀t,k*cf a t=(ps s*ps g).c t
theorem Zvi(f:PS)(t:Nat):(ps [1]*f).c t=f.c t:=by rw [PS.mul_c,Ao 0 O5 λi _ d=>by rw [Nu,Yt O4,cJ],Nu,show cf [1] 0=1 from rfl,fR,kK]
theorem Dv.refl(a:List Int):Dv a a:=⟨1,[1],O,λt=>by rw [Zvi,fR,Nu]⟩
theorem Dv.nil(g:List Int):Dv g []:=⟨1,[],O,λt=>by simp [Lx,Yt,aX]⟩
theorem Dv.sim{g:List Int} : Dv g a->Sim a b->Dv g b:=λ⟨k,s,d,h⟩ ⟨m,n,j,f,e⟩=>
 ⟨k*n,Zw s m,bE d f,λt=>by rw [PS.mul_c,show(λi=>(ps _).c i*(ps g).c _)=λi=>m*((ps s).c i*(ps g).c (t-i))from mT λi=>by grind [Nu,Ym],Mh,<-PS.mul_c];grind⟩
theorem Dv.lin{g:List Int}(e:Dv g a)(f:Dv g b)(s:List Int)(L:Int)(d:L≠0)(h:∀t,L*cf c t=(ps s*ps a).c t+cf b t):Dv g c:=by
 obtain⟨k,u,j,r⟩:=e;obtain⟨m,v,l,w⟩:=f;refine⟨L*(k*m),Gy (Zw (Pf s u) m) (Zw v k),bE d (bE j l),λt=>?_⟩;have n:k*(ps s*ps a).c t=(ps (Pf s u)*ps g).c t:=by rw [Zks,PS.mul_assoc',PS.mul_c,PS.mul_c,<-Mh];grind [Xl,Nu]
 have o:(ps (Gy (Zw (Pf s u) m) (Zw v k))*ps g).c t=m*(ps (Pf s u)*ps g).c t+k*(ps v*ps g).c t:=by rw [PS.mul_c,PS.mul_c,PS.mul_c,<-Mh,<-Mh,<-Fy];refine Xl λi _=>?_;rw [Nu,Nu,Nu,Nu,Ck,Ym,Ym];grind
 grind
theorem eu_dv:∀(f:Nat) {a b:List Int},Tr a->Tr b->eok f a b->Dv (eu f a b) a/\Dv (eu f a b) b
 | 0,a,b,j,d,h=>by rw [show b=[]from h];exact⟨Dv.refl _,Dv.nil _⟩
 | f+1,a,b,j,d,h=>by
  by_cases i:b=[]
  .grind [Bj,Dv.refl,Dv.nil]
  .rcases h with h|h
   .grind
   .have e:eu (f+1) a b=eu f b (Yf (Qq a b)):=by
     conv=>lhs;unfold eu
     grind
    rw [e];have t1:=Kj (q:=b) j;obtain⟨g,l⟩:=eu_dv f d (Yw t1) h.2;obtain⟨k,s,hs⟩:=Cr a i;exact⟨g.lin (l.sim (Qm t1)) s _ (Ml (d.mem i) k) hs,g⟩
theorem Dv.of_sim{g d:List Int} : Dv g a->Sim g d->Dv d a:=λ⟨k,s,f,h⟩ ⟨m,n,i,j,e⟩=>
 ⟨m*k,Zw s n,bE i f,λt=>by grind [Int.mul_assoc,PS.mul_c,Mh,Xl,Nu,Ym]⟩
theorem Dv.zero(e:Tr a)(h:Dv [] a):a=[]:=by obtain⟨k,s,f,h⟩:=h;rw [<-An e,Ik];intro i;have d:=h i;rw [PS.mul_comm',Lx (λt=>Yt (aX _))]at d;grind [Int.mul_eq_zero]
theorem Zef{F:Nat}{p q:List Int}(g:Tr p)(i:Tr q)(h:eok F (gA p q) (gB p q)):Dv (Nv F p q) p/\Dv (Nv F p q) q:=by
 have j:=Zjh g i;have k:=Zjg g i;obtain⟨d,e⟩:=eu_dv F j k h;have hs:Sim _ (Nv F p q):=(Hk _).symm;have d:=d.of_sim hs;have e:=e.of_sim hs;by_cases f:p.length<q.length
 .rw [show gA p q=Yf q from aP f]at d;rw [show gB p q=Yf p from aP f]at e;exact⟨e.sim (Qm g),d.sim (Qm i)⟩
 .rw [show gA p q=Yf p from aJ f]at d;rw [show gB p q=Yf q from aJ f]at e;exact⟨d.sim (Qm g),e.sim (Qm i)⟩
def Zd4 (F:Nat){p q:List Int}(d:Tr p)(e:Tr q):Tr (Nv F p q):=Ng (Znn F (Zjh d e) (Zjg d e))
theorem Zfm(p:List Int){c:Int}(h:c≠0):Sim p (Zw p c):=⟨c,1,h,O,λi=>by grind [Ym]⟩
theorem Zcf{g:List Int}(h:Tr g):(Lp g).length=g.length:=(Hk g).len (Ng h) h
theorem Zjs(g:List Int):Yx (Lp g)=Yx g:=by
 have d:Yx (Lp g)∣Yx g:=Eg λi=>by
  have h:=Ki (Lp g) i;rw [Dd]at h;split at h
  all_goals simp_all
 have e:Yx g∣Yx (Lp g):=Eg λi=>by
  rw [Dd];split
  all_goals grind [Int.dvd_neg,Ki]
 exact Int.dvd_antisymm (Ns _) (Ns _) d e
theorem Zmo{F:Nat}{p q:List Int}(f:Tr p)(g:Tr q)(d:Nv F p q≠[]):Yx (Nv F p q)=1:=by rw [Zvf f g]at d ⊢;unfold Xg at d ⊢;rw [Zjs];refine Kk (Znn F (Zjh f g) (Zjg f g)) λe=>d ?_;rw [e];rfl
end Go.Sky
namespace Go.Sky
variable{a b p x y xs:List Int}{i:Nat}{s:Int}{ls:List (SL×List Int)}
def Zc3(xs:List Int):Prop:=xs.length=0\/(xs.length+2)*(xs.length+2)*(Xx xs+16)<=65536
instance (xs:List Int):Decidable (Zc3 xs):=by unfold Zc3;infer_instance
def sqf(F:Nat)(xs:List Int):List Int:=Lv (Xg xs) (Nv F (Xg xs) (Xh (Xg xs)))
def Ypt(F:Nat)(xs:List Int):Prop:=(∀i,i<xs.length->bl (cf (Xg xs) (i+1)*((i:Int)+1)).natAbs<=65536)/\¬Zpw (Xg xs) (Xh (Xg xs))/\eok F (gA (Xg xs) (Xh (Xg xs))) (gB (Xg xs) (Xh (Xg xs)))/\
 Bx (Xg xs) (Nv F (Xg xs) (Xh (Xg xs)))=0/\pdv (Xg xs) (Nv F (Xg xs) (Xh (Xg xs)))
def Mt(x y:List Int):List Int:=if cf y (y.length-1)<0/\(x.length-y.length+1)%2=1 then Yf (Qq x y)else Zw (Yf (Qq x y)) (-1)
def cok:Nat->List Int->List Int->Prop
 | 0,_,y=>y=[]
 | f+1,x,y=>y=[]\/(Bx x y=0/\y.length<=x.length/\cok f y (Mt x y))
def Ma:Nat->List Int->List Int->List (List Int)
 | 0,x,_=>[x]
 | f+1,x,y=>if y=[]then [x]else x::Ma f y (Mt x y)
theorem Dt(f:Nat)(x:List Int):Ma f x []=[x]:=by cases f<;>rfl
theorem Zhx{f:Nat}(h:cok f a b)(c:b≠[]):∃g,f=g+1/\Bx a b=0/\b.length<=a.length/\cok g b (Mt a b)/\Ma f a b=a::Ma g b (Mt a b):=by
 cases f with
 | zero=>exact absurd h c
 | succ g=>
  rcases h with h|h
  .exact absurd h c
  .exact⟨g,rfl,h.1,h.2.1,h.2.2,by show(if b=[]then [a]else _)=_;rw [aJ c]⟩
def chn(F:Nat)(xs:List Int):List (List Int):=Ma F (sqf F xs) (Yf (Xh (sqf F xs)))
def Za5(F:Nat)(xs:List Int):Prop:=Ypt F xs/\(∀i,i<xs.length->bl (cf (sqf F xs) (i+1)*((i:Int)+1)).natAbs<=65536)/\cok F (sqf F xs) (Yf (Xh (sqf F xs)))
theorem Zxp(h:Vp p):Vp (Xg p):=by
 unfold Xg;have c:=Lu h;refine⟨λi=>?_,Ng c.tr,by rw [Zcf c.tr];exact c.len⟩;rw [Dd];split
 .rw [dV];exact c.sz i
 .exact c.sz i
theorem Pt(h:Tr p):(Xg p).length=p.length:=by unfold Xg;rw [Zcf (Yw h),Yi]
theorem Zlh(d:Vp x)(c:Bx x y=0):Vp (Mt x y):=by
 have h:=Lu (Za6 d c);unfold Mt;split
 .exact h
 .exact⟨λi=>by rw [Ym];exact Zcm h.sz i,Ql _ _,aB (Pz _ _) h.len⟩
def Nk(s:Int×Int)(x:Int):Int×Int:=if x=0 then s else(if x=-s.2 then s.1+1 else s.1,x)
def chg(l:List Int):Int:=(l.foldl Nk (0,0)).1
def Zci{α β:Type}(f:α->β->α)(a:α)(l:List β)(x:β):(l ++ [x]).foldl f a=f (l.foldl f a) x:=O5
theorem chg1_n(s:Int×Int)(x:Int):(Nk s x).1=s.1\/(Nk s x).1=s.1+1:=by
 unfold Nk;split
 .exact .inl rfl
 .dsimp only;split
  .exact .inr rfl
  .exact .inl rfl
def Ygh(xs:List Int):Int:=if xs.length=0 then 3 else if Zc3 xs then 0 else 7
theorem Ytk(c:xs≠[])(h:Zc3 xs):Ygh xs=0:=by unfold Ygh;rw [aJ (λe=>c (aC e)),aP h]
theorem Zkv(h:¬cf (Yf xs) ((Yf xs).length-1)<0):Xg xs=Yf xs:=by unfold Xg Lp;rw [aJ O]
theorem Zkw(c:(Yf xs).length≠0)(h:cf (Yf xs) ((Yf xs).length-1)<0):Xg xs=Zw (Yf xs) (-1):=by unfold Xg Lp;rw [aP ⟨c,h⟩]
theorem Zfx (P:Nat->Prop) : ∀n,P n->∃m,P m/\∀k,k<m->¬P k:=by
 intro n
 induction n using Nat.strongRecOn with
 | _ n c=>
  grind
theorem Yfx{n:Nat}(h:2<=n):∃p,2<=p/\p∣n/\∀d,2<=d->d∣n->p<=d:=by obtain⟨p,⟨c,e⟩,f⟩:=Zfx (λd=>2<=d/\d∣n) n ⟨h,Nat.dvd_refl n⟩;grind [Nat.lt_or_ge]
theorem Zv2{n p:Nat}(m:2<=p)(g:p∣n)(j:∀d,2<=d->d∣n->p<=d)(r:0<n){x y:Int}(h:(p:Int)∣x*y):(p:Int)∣x\/(p:Int)∣y:=by
 by_cases t:(p:Int)∣x
 .omega
 .right;have k:Nat.gcd p x.natAbs=1:=by
   have f:=Nat.gcd_dvd_left p x.natAbs;have l:0<Nat.gcd p x.natAbs:=Nat.gcd_pos_of_pos_left _ O;rcases bA (Nat.gcd p x.natAbs) 2 with c|c
   .omega
   .have o:=j _ c (Nat.dvd_trans f g);have q:=kB O f;grind [Int.natAbs_dvd_natAbs,Int.natAbs_natCast,Nat.gcd_dvd_right]
  have e:=gP.2 h;rw [cE]at e;refine gP.1 ?_;exact(show Nat.Coprime p _ from k).dvd_of_dvd_mul_left e
theorem gauss{g:List Int}(hg:Yx g=1):∀(n:Nat) (k:Int) (s:List Int),k.natAbs=n->k≠0->(∀t,k*cf a t=(ps s*ps g).c t)->∃q:List Int,∀t,cf a t=(ps q*ps g).c t:=by
 intro n
 induction n using Nat.strongRecOn with
 | _ n ih=>
  intro k s o S h;rcases bA n 2 with P|P
  .have G:k*k=1:=by have:k=1\/k=-1:=O;rcases this with e|e<;>subst e<;>rfl
   refine⟨Zw s k,λt=>?_⟩;have e:(ps (Zw s k)*ps g).c t=k*(ps s*ps g).c t:=by rw [PS.mul_c,PS.mul_c,<-Mh];exact Xl λi _=>by rw [Nu,Nu,Nu,Ym];grind
   rw [e,<-h,<-eP,G,fR]
  .obtain⟨p,V,W,pm⟩:=Yfx P;have I:∀{x y:Int},(p:Int)∣x*y->(p:Int)∣x\/(p:Int)∣y:=Zv2 V W pm O;have r:(p:Int)∣k:=gP.1 (by rw [dS,o];exact W);have w:∃j,¬(p:Int)∣cf g j:=bF λu=>by have:(p:Int)∣Yx g:=Eg λi=>bF λhy=>u ⟨i,hy⟩;rw [hg]at this;have:=kC O3 this;omega
   obtain⟨j0,D⟩:=w;obtain⟨j,hj,F⟩:=Zfx (λj=>¬(p:Int)∣cf g j) j0 D;have hs:∀i,(p:Int)∣cf s i:=λi0=>bF λz=>by
    obtain⟨i,hi,B⟩:=Zfx (λi=>¬(p:Int)∣cf s i) i0 z;have Q:=h (i+j);rw [PS.mul_c]at Q;have N:∀m,m<=i+j+1->(p:Int)∣Yo (λk=>if k=i then 0 else(ps s).c k*(ps g).c (i+j-k)) m:=λm=>by
     induction m with
     | zero=>intro _;exact jH _
     | succ m M=>
      intro hm;rw [Ys];refine Int.dvd_add (M O) ?_;split
      .exact jH _
      .rename_i a0;rw [Nu,Nu];rcases bA m i with v|v
       .exact iL (bF λu=>B m v u) (jW _ _)
       .exact iL (bF λu=>F (i+j-m) O u) (Int.dvd_mul_left _ _)
    have Y:Yo (λk=>(ps s).c k*(ps g).c (i+j-k)) (i+j+1)=Yo (λk=>if k=i then 0 else(ps s).c k*(ps g).c (i+j-k)) (i+j+1)+cf s i*cf g j:=by
     have Z:Yo (λk=>(ps s).c k*(ps g).c (i+j-k)) (i+j+1)=Yo (λk=>(if k=i then 0 else(ps s).c k*(ps g).c (i+j-k))+(if k=i then(ps s).c k*(ps g).c (i+j-k)else 0)) (i+j+1):=
      Xl λk _=>by split<;>omega
     rw [Z,Fy,Ao i (f:=λk=>if k=i then(ps s).c k*(ps g).c (i+j-k)else 0) O (λq _ hq=>aJ hq),aP rfl,Nu,Nu,show i+j-i=j by omega]
    rw [Y]at Q;have v:(p:Int)∣cf s i*cf g j:=by have l:cf s i*cf g j=k*cf a (i+j)-Yo (λk=>if k=i then 0 else(ps s).c k*(ps g).c (i+j-k)) (i+j+1):=O;rw [l];exact Int.dvd_sub (iL r (jW _ _)) (N _ (aF _))
    rcases I v with l|l
    .exact hi l
    .exact hj l
   obtain⟨d,c⟩:=r;have H:(p:Int)≠0:=O;refine ih d.natAbs ?_ d (s.map (· / (p:Int))) rfl ?_ ?_
   .rw [<-o,c,cE,dS];have:0<d.natAbs:=by
     rcases bD d.natAbs with R|R
     .rw [show d=0 by omega]at c;simp at c;exact absurd c S
     .exact R
    have:=aM d.natAbs V;omega
   .intro e;rw [e]at c;simp at c;exact S c
   .intro t;refine iJ H ?_;rw [<-eP,<-c,h,PS.mul_c,PS.mul_c,<-Mh];refine Xl λi _=>?_;rw [Nu,Nu,Nu,Zf2 _ _ O5,<-eP,lE (hs i)]
def ev1:List Int->Int->Int
 | [],_=>0
 | c::r,t=>c+t*ev1 r t
def sdv:List Int->Int->List Int
 | [],_=>[]
 | [_],_=>[]
 | _::c::r,t=>ev1 (c::r) t::sdv (c::r) t
theorem Zm6:∀(u:List Int) (t:Int),(sdv u t).length=u.length-1
 | [],_=>rfl
 | [_],_=>rfl
 | _::c::r,t=>by unfold sdv;rw [bX,Zm6 _ t];simp
theorem Ycn:∀(u:List Int) (t x:Int),ev1 u x=ev1 u t+(x-t)*ev1 (sdv u t) x
 | [],t,x=>by simp [ev1,sdv]
 | [c],t,x=>by simp [ev1,sdv]
 | a::c::r,t,x=>by have d:=Ycn (c::r) t x;show a+x*ev1 _ x=a+t*ev1 _ t+(x-t)*(ev1 _ t+x*ev1 _ x);grind
theorem Ydr(a:Int)(u:List Int)(i:Nat):cf (a::u) i=if i=0 then a else cf u (i-1):=by
 cases i with
 | zero=>rfl
 | succ i=>rfl
theorem Zds(i:Nat):cf [] i=0:=Yt (aX _)
theorem Yny:∀(u:List Int) (t:Int) (i:Nat),cf u (i+1)=cf (sdv u t) i-t*cf (sdv u t) (i+1)
 | [],t,i=>by unfold sdv;simp [Zds]
 | [c],t,i=>by unfold sdv;simp [Ydr,aJ,Zds]
 | a::c::r,t,i=>by
  cases i with
  | zero=>
   show c=ev1 _ t-t*cf _ 0
   match r with
   | []=>simp [ev1,sdv,cf]
   | d::r'=>unfold sdv;rw [Ydr];show c=(c+t*ev1 _ t)-_;simp
  | succ i=>
   exact Yny _ t i
theorem Yto:∀(u:List Int) (t:Int),cf u 0=ev1 u t-t*cf (sdv u t) 0
 | [],t=>by simp [ev1,sdv,cf]
 | [c],t=>by simp [ev1,sdv,cf]
 | a::c::r,t=>by show a=(a+t*ev1 _ t)-t*ev1 _ t;simp
theorem Zur:∀(n:Nat) (u:List Int) (R:List Int),u.length=n->(∃i,cf u i≠0)->R.Nodup->(∀t∈R,ev1 u t=0)->R.length<n
 | 0,u,R,d,c,_,_=>by grind [List.eq_nil_of_length_eq_zero,Zds]
 | n+1,u,[],d,c,_,_=>O5
 | n+1,u,t::R,d,c,hd,hR=>by
  have h:=hR t (cC ..);have j:=Zm6 u t;have g:∃i,cf (sdv u t) i≠0:=bF λe=>by
   obtain⟨i,hi⟩:=c;cases i with
   | zero=>grind [Yto]
   | succ i=>grind [Yny]
  have:=Zur n _ R O g (List.nodup_cons.1 hd).2 λx e=>by have f:=hR x (bT _ e);rw [Ycn u t x]at f;grind [Int.mul_eq_zero,List.nodup_cons]
  grind
def kk:Nat->Nat
 | 0=>0
 | d+1=>30*kk d+1
def Psim(a b:List Int):Prop:=∃m n:Int,0<m/\0<n/\∀i,m*cf a i=n*cf b i
def Psim.refl(a:List Int):Psim a a:=⟨1,1,O,O,λ_=>rfl⟩
def Psim.symm : Psim a b->Psim b a:=λ⟨m,n,c,d,h⟩=>⟨n,m,d,c,λi=>(h i).symm⟩
def Psim.trans{c:List Int} : Psim a b->Psim b c->Psim a c:=λ⟨m,n,d,e,h⟩ ⟨u,v,f,g,k⟩=>
 ⟨m*u,n*v,fH d f,fH e g,λi=>O4⟩
def Psim.sim : Psim a b->Sim a b:=λ⟨m,n,c,d,h⟩=>⟨m,n,O,O,h⟩
theorem Zfr(h:Tr p):Psim (Yf p) p:=by
 by_cases c:p=[]
 .subst c;exact Psim.refl _
 .exact⟨Yx p,1,by have:=Ns p;grind [Cv],O,λi=>by grind [Eb]⟩
theorem Zmj(f:Tr a)(g:Tr b)(h:Psim a b):Yf a=Yf b:=by
 by_cases c:a=[]
 .rw [h.sim.nil g c,c]
 .have j:=λe=>c (h.sim.symm.nil f e);obtain⟨m,n,u,v,e⟩:=(Zfr f).trans (h.trans (Zfr g).symm);have l:=Yw f;have t:=Yw g;have hs:Sim _ _:=⟨m,n,O,O,e⟩;have d:Yf a≠[]:=λe=>c (aC (by grind [Yi]));rcases Zlw l t d (Kk f c) (Kk g j) hs with k|k
  .omega
  .have o:=l.mem d;have q:=e ((Yf a).length-1);have r:=k ((Yf a).length-1);rw [r]at q o;grind [Int.mul_neg,Int.add_mul,Int.mul_eq_zero]
def Eu(y:List Int):Int:=if cf y (y.length-1)<0 then-cf y (y.length-1)else cf y (y.length-1)
def rb(x y:List Int):Int:=if cf y (y.length-1)<0 then-cf x (x.length-1)else cf x (x.length-1)
def Dn(x y:List Int):List Int:=Bf (Zw x (Eu y)) (shm y (rb x y) (x.length-y.length) y.length)
def Ff:Nat->List Int->List Int->List Int
 | 0,x,_=>x
 | f+1,x,y=>if x.length<y.length then x else Ff f (Dn x y) y
theorem Zhe(e:Tr x)(f:0<y.length)(d:y.length<=x.length):(Dn x y).length<x.length:=by
 have h:=Zb0 (p:=Dn x y) (n:=x.length-1) λi hi=>by
  unfold Dn;rw [Hd,Ym,Zs5];by_cases c:i=x.length-1
  .unfold Eu rb;grind
  .rw [Yt O,aJ O];simp
 rw [show tzl _=Dn x y from An (Zad _ _)]at h;omega
theorem Yix(x:List Int)(t:Nat):Eu y*cf x t=(ps (mono (x.length-y.length) (rb x y))*ps y).c t+cf (Dn x y) t:=by
 unfold Dn;rw [Zmx,Hd,Ym,Zs5,Nu];by_cases c:x.length-y.length<=t
 .by_cases d:t<x.length-y.length+y.length
  .grind
  .rw [Yt (p:=y) O,fD _];simp
 grind
theorem Zgx(d:Tr y)(c:y≠[]):0<Eu y:=by have:=d.mem c;unfold Eu;split<;>omega
theorem Zb3{y:List Int}(l:Tr y)(d:y≠[]):∀(f:Nat) (x:List Int),Tr x->x.length<y.length+f->Tr (Ff f x y)/\(Ff f x y).length<y.length/\∃(k:Nat) (s:List Int),∀t,Eu y^k*cf x t=(ps s*ps y).c t+cf (Ff f x y) t
 | 0,x,c,e=>⟨c,e,0,[],λt=>by rw [Lx (λt=>Yt (aX _))];unfold Ff;simp⟩
 | f+1,x,c,e=>by
  unfold Ff;by_cases h:x.length<y.length
  .rw [aP h];exact⟨c,h,0,[],λt=>by simp [Lx,Yt,aX,dD]⟩
  .rw [aJ h];have m:=Zhe c (aI.2 d) O;obtain⟨g,j,k,s,hs⟩:=Zb3 l d f (Dn x y) (Zad _ _) O;refine⟨g,j,k+1,Bf (Zw s 1) (Zw (mono (x.length-y.length) (rb x y)) (-(Eu y^k))),λt=>?_⟩;grind [Yix,Zg8,Int.pow_succ]
theorem Zu9(l:Int)(h:l≠0):∀n:Nat,(l<0/\n%2=1->l^n<0)/\(¬(l<0/\n%2=1)->0<l^n)
 | 0=>⟨λh=>O,λ_=>O5⟩
 | n+1=>by
  have e:=Zu9 l h n;rw [dE];by_cases d:l<0
  .by_cases f:n%2=1
   .have c:=e.1 ⟨d,f⟩;exact⟨λh=>O,λ_=>Int.mul_pos_of_neg_of_neg c d⟩
   .have c:=e.2 O;exact⟨λ_=>Int.mul_neg_of_pos_of_neg c d,λh=>O⟩
  .have c:=e.2 O;exact⟨λh=>O,λ_=>fH c O⟩
def Zir(p:List Int):List Int:=Zw p (-1)
theorem Zaw(p:List Int)(i:Nat):cf (Zir p) i=- cf p i:=by unfold Zir;grind [Ym]
theorem Zyi(h:Tr p):Yf (Zir p)=Zir (Yf p):=by
 have e:=by
  have c:Yx (Zir p)∣Yx p:=Eg λi=>by have h:=Ki (Zir p) i;simp_all [Zaw,mO]
  have d:Yx p∣Yx (Zir p):=Eg λi=>by simp [Zaw,mO,Ki]
  exact Int.dvd_antisymm (Ns _) (Ns _) c d
 refine(Yw (Ql _ _)).ext (Ql _ _) λi=>?_;show cf (Yf (Zir p)) i=cf _ i;simp_all [Zaw,Zdr,Int.neg_ediv_of_dvd,Ki]
theorem Zd6 (f:Nat)(u:Tr x)(m:Tr y)(g:y≠[])(B:y.length<=x.length)(w:x.length<y.length+f):Yf (Zir (Ff f x y))=Mt x y:=by
 obtain⟨N,M,k,s,hs⟩:=Zb3 m g f x u w;have F:=aI.2 g;obtain⟨G,o⟩:=Zil (p:=x) F B _ (aF _);have D:∀t,cf (Pp x y (x.length-y.length+1)) t=cf (Qq x y) t:=λt=>by unfold Qq;simp_all [aJ,Lg]
 have lp:=Pi x g;have h:=Kj (q:=y) u;have c:=m.mem g;have n:0<Eu y^k:=jC (Zgx m g);have d:=Zu9 (cf y (y.length-1)) c (x.length-y.length+1);generalize H:cf y (y.length-1)^(x.length-y.length+1)=L at o d;generalize Eu y^k=K at hs n;have j:∀t,(ps (Bf (Zw G K) (Zw s L))*ps y).c t=cf (Bf (Zw (Ff f x y) L) (Zw (Qq x y) K)) t:=λt=>by rw [Zg8,Hd,Ym,Ym,<-D t];grind
 have z:=Ybw m g j λt I=>by rw [Hd,Ym,Ym,Yt (p:=Ff f x y) O,Yt (p:=Qq x y) O];simp
 have e:∀t,L*cf (Ff f x y) t=K*cf (Qq x y) t:=λt=>by have v:=j t;rw [Lx z,Hd,Ym,Ym]at v;grind
 unfold Mt;by_cases l:cf y (y.length-1)<0/\(x.length-y.length+1)%2=1
 .rw [aP l];have r:=d.1 l;exact Zmj (Ql _ _) h ⟨-L,K,O,n,λt=>by grind [Zaw]⟩
 .rw [aJ l];have r:=d.2 l;rw [show Zw (Yf (Qq x y)) (-1)=Zir (Yf (Qq x y))from rfl,<-Zyi h];exact Zmj (Ql _ _) (Ql _ _) ⟨L,K,r,n,λt=>by simp_all [Zaw,lF]⟩
theorem Zcz(c:Tr x):Tr (Mt x y):=by unfold Mt;grind [Yw,Kj,Ql]
theorem Bu(c:Tr x):(Mt x y).length=(Qq x y).length:=by
 unfold Mt;have h:Tr (Yf (Qq x y)):=Yw (Kj c);split
 .simp [Yi]
 .rw [<-Yi (Qq x y)];exact((Zfm _ O).len h (Ql _ _)).symm
theorem Zql{n:Nat}(h:Sz n p):Sz n (Xg p):=λi=>by
 unfold Xg;rw [Dd];split
 .rw [dV];exact Hz h i
 .exact Hz h i
theorem Ziv(h:Tr p)(c:p≠[]):Xg p≠[]:=λe=>c (aC (by grind [Pt]))
theorem Ay{g:List Int}(h:Tr g)(c:g≠[]):0<cf (Lp g) ((Lp g).length-1):=by have d:=h.mem c;grind [Zcf,Dd,List.eq_nil_of_length_eq_zero]
theorem Zbi(h:Tr p)(c:p≠[]):Yx (Xg p)=1:=by unfold Xg;grind [Zjs,Kk]
theorem Zyp(h:Tr p)(c:Yx p=1)(d:0<cf p (p.length-1)):Xg p=p:=by unfold Xg;rw [Zgz c];unfold Lp;grind
theorem Ox (F:Nat)(o:Tr xs)(r:xs≠[])(v:eok F (gA (Xg xs) (Xh (Xg xs))) (gB (Xg xs) (Xh (Xg xs)))) :
  pdv (Xg xs) (Nv F (Xg xs) (Xh (Xg xs)))/\Tr (sqf F xs)/\sqf F xs≠[]/\Xg xs=Pf (sqf F xs) (Nv F (Xg xs) (Xh (Xg xs)))/\Nv F (Xg xs) (Xh (Xg xs))≠[]/\Xg (sqf F xs)=sqf F xs:=by
 have hs:Tr (Xg xs):=Ng (Yw o);have f:=Np hs;have l:=Ziv o r;have g:=(Zef hs f v).1;have n:=Zd4 F hs f;have c:Nv F (Xg xs) (Xh (Xg xs))≠[]:=λe=>l ((e▸g).zero hs);have H:=Zmo hs f c;obtain⟨k,s,I,h⟩:=g;obtain⟨q,P⟩:=gauss H _ k s rfl I h;have d:Xg xs=Pf (tzl q) (Nv F (Xg xs) (Xh (Xg xs))):=hs.ext (Qk _ _) λi=>by grind [Gw,Zq8]
 obtain⟨B,S⟩:=Zrh (Xy q) n c;have w:sqf F xs=tzl q:=by unfold sqf;grind
 rw [<-d]at B;have j:tzl q≠[]:=λe=>l (by grind [Fr]);refine⟨B,by grind [Xy],O4,O4,c,?_⟩;rw [w];refine Zyp (Xy q) ?_ ?_
 .have D:=Zbi o r;have t:Yx (tzl q)∣Yx (Xg xs):=Eg λi=>by
   rw [d,Gw,PS.mul_c];have N:∀m,Yx (tzl q)∣Yo (λk=>(ps (tzl q)).c k*(ps (Nv F (Xg xs) (Xh (Xg xs)))).c (i-k)) m:=λm=>by
    induction m with
    | zero=>exact jH _
    | succ m M=>exact Int.dvd_add M (iL (Ki (tzl q) m) (jW _ _))
   grind
  have u:=Ns (tzl q);have G:=kC O t;grind [Cv,Xy]
 .have Q:=aI.2 j;have R:=aI.2 c;have D:0<cf (Xg xs) ((Xg xs).length-1):=Ay (Yw o) (λe=>r (aC (by grind [Yi])));have t:0<cf (Nv F (Xg xs) (Xh (Xg xs))) ((Nv F (Xg xs) _).length-1):=Ay (Znn F (Zjh hs f) (Zjg hs f)) (λe=>c (by unfold Nv;rw [e];rfl));have u:=Oz (Xy q) n j c;rw [<-d]at u;have G:cf (Xg xs) ((Xg xs).length-1)=cf (tzl q) ((tzl q).length-1)*cf (Nv F (Xg xs) (Xh (Xg xs))) ((Nv F (Xg xs) (Xh (Xg xs))).length-1):=by rw [u,d,Gw,<-d,show(tzl q).length+(Nv F (Xg xs) (Xh (Xg xs))).length-1-1=((tzl q).length-1)+((Nv F (Xg xs) (Xh (Xg xs))).length-1) by omega];grind [Az,Yt]
  rcases gD 0 _ with z|z
  .omega
  .exfalso;have:=eZ z (dQ t);omega
def Of(p:List Int):(Xh p).length=p.length-1:=Yy _ _
theorem Zzd{n:Nat}(c:Sz n p)(g:p.length<=25)(i:Nat):bl (cf p (i+1)*((i:Int)+1)).natAbs<=n+5:=by
 rcases bA (i+1) p.length with h|h
 .have d:=Yu (cf p (i+1)) ((i)+1);have e:=c (i+1);have f:bl ((i:Int)+1).natAbs<=5:=(Qo 5 _).2 O;omega
 grind [Yt,Ky]
theorem Zh0(p:List Int)(i:Nat):cf (Xh p) i=cf p (i+1)*((i:Int)+1):=by unfold Xh;simp_all [Md,Yt,cJ]
theorem Fe{n:Nat}(d:Sz n p)(c:p.length<=25):Sz (n+5) (Xh p):=λi=>by simp_all [Zh0,Zzd]
theorem Zga(h:Vp p)(c:∀i,i<p.length->bl (cf p (i+1)*((i:Int)+1)).natAbs<=65536):Vp (Xh p):=by
 refine⟨λi=>?_,Np h.tr,by rw [Of];have:=h.len;omega⟩;rw [Zh0];by_cases hi:i<p.length
 .grind
 .rw [Yt O];simp [Ky]
def sf_t(h:xs.length=0):Value.bool (decide (Zc3 xs))= .bool true:=aD _ (aH (.inl h))
theorem sf_i{n:Int}(h:xs.length≠0)(c:n=(((xs.length+2)*(xs.length+2)*(Xx xs+16):Nat):Int)):Value.bool (decide (Zc3 xs))= .bool (decide (n<=65536)):=aD _ (bB.2 (by show(xs.length=0\/(xs.length+2)*(xs.length+2)*(Xx xs+16)<=65536)↔_;omega))
theorem Yer(h:(Qq x y).length=0):Mt x y=[]:=by have c:=aC h;unfold Mt;rw [c];split<;>rfl
theorem Ypu(e:y.length<=x.length)(c:(cf y (y.length-1)).sign<0)(d:((x.length:Int)-(y.length:Int)+1)%2=1):Mt x y=Yf (Qq x y):=by unfold Mt;grind
theorem Yai(c:¬(cf y (y.length-1)).sign<0):Mt x y=Zw (Yf (Qq x y)) (-1):=by unfold Mt;grind
theorem Yah(d:y.length<=x.length)(c:¬((x.length:Int)-(y.length:Int)+1)%2=1):Mt x y=Zw (Yf (Qq x y)) (-1):=by unfold Mt;grind
theorem Zlg{F:Nat}(j:Vp xs)(k:xs≠[])(h:Ypt F xs):Vp (sqf F xs):=by
 obtain⟨_,_,_,d,c⟩:=h;have g:=Zxp j;unfold sqf Lv;split
 .grind
 .rename_i l;rcases c with c|c
  .grind
  .have e:=(Zck d).2 c.1;refine⟨?_,Xy _,?_⟩
   .rw [<-Zdk];exact(Yaf e c.2.1).tzl
   .have f:=Mg (Zhr (Xg xs) (Nv F (Xg xs) (Xh (Xg xs))) ((Xg xs).length-(Nv F (Xg xs) (Xh (Xg xs))).length+1));rw [Zdk,Zao]at f;have:=g.len;grind [Zck]
theorem Zm4{F:Nat}(d:Vp xs)(h:Ypt F xs):(sqf F xs).length<=xs.length:=by
 obtain⟨_,_,_,e,c⟩:=h;have j:=Pt d.tr;unfold sqf Lv;split
 .simp
 .rename_i f;rcases c with c|c
  .grind
  .have g:=Mg (Zhr (Xg xs) (Nv F (Xg xs) (Xh (Xg xs))) ((Xg xs).length-(Nv F (Xg xs) (Xh (Xg xs))).length+1));grind [Zdk,Zao,Zck]
theorem Ydp{L:List Int}{n l:Int}(hi:i<L.length)(h:(n,l)=(L.take i).foldl Nk (0,0))(hs:L.getD i 0=s)(c:s=0):(n,l)=(L.take (i+1)).foldl Nk (0,0):=by rw [Qz 0 L i hi,Zci,<-h];unfold Nk;grind
theorem Ydo{L:List Int}{n l:Int}(hi:i<L.length)(h:(n,l)=(L.take i).foldl Nk (0,0))(hs:L.getD i 0=s)(c:s≠0)(d:s=-l):(n+1,s)=(L.take (i+1)).foldl Nk (0,0):=by rw [Qz 0 L i hi,Zci,<-h];unfold Nk;grind
theorem Ydn{L:List Int}{n l:Int}(hi:i<L.length)(h:(n,l)=(L.take i).foldl Nk (0,0))(hs:L.getD i 0=s)(c:s≠0)(d:¬s=-l):(n,s)=(L.take (i+1)).foldl Nk (0,0):=by rw [Qz 0 L i hi,Zci,<-h];unfold Nk;grind
theorem Ytm{L:List Int}{n l:Int}(hi:L.length<=i)(h:(n,l)=(L.take i).foldl Nk (0,0)):n=chg L:=by rw [bR hi]at h;unfold chg;grind
theorem Yid{z:Int}:-1<=z.sign/\z.sign<=1:=by grind
theorem Yla{α:Type}{d:α}{f:α->Int}{ls:List α}(h:i<ls.length):(ls.map f).getD i 0=f (ls.getD i d):=by grind
def sgx(ls:List (SL×List Int))(f:List Int->Int):List Int:=ls.map λz=>f z.2
def Zud(ls:List (SL×List Int))(f:List Int->Int)(h:i<ls.length):(sgx ls f).getD i 0=f (ls.getD i ((none,0,0),[])).2:=Yla h
def Zm5(ls:List (SL×List Int))(f:List Int->Int):(sgx ls f).length=ls.length:=aW ..
def fr(p:List Int):Int:=(cf p (p.length-1)).sign
def fl(p:List Int):Int:=if p.length%2=0 then-(cf p (p.length-1)).sign else(cf p (p.length-1)).sign
def Bb(x y:Int)(p:List Int):Int:=(pev p x y).sign
def fat_r(x y:Int)(p:List Int):-1<=Bb x y p/\Bb x y p<=1:=Yid
theorem Zos:∀(f:Nat) {x y:List Int},Vp x->Vp y->cok f x y->∀p∈Ma f x y,Vp p
 | 0,x,y,d,_,_,p,c=>by rw [cF.1 c];omega
 | f+1,x,y,d,e,h,p,c=>by
  unfold Ma at c;split at c
  .rw [cF.1 c];exact d
  .rcases h with h|h
   .contradiction
   .rcases bI.1 c with rfl|c
    .exact d
    .exact Zos f e (Zlh d h.1) h.2.2 p c
theorem Ygz{F:Nat}(j:Vp xs)(d:xs≠[])(h:Za5 F xs):∀p∈chn F xs,Vp p:=by obtain⟨e,f,g⟩:=h;have c:=Zlg j d e;exact Zos F c (Lu (Zga c (λi hi=>f i (by grind [Zm4])))) g
def cnt(F:Nat)(xs:List Int)(x y:Int):Int:=chg ((chn F xs).map (Bb x y))
theorem Yak{C:List (List Int)}(h:ls.map Prod.snd=C)(f:List Int->Int):sgx ls f=C.map f:=by rw [<-h,kJ];rfl
def Li{C:List (List Int)}{p:List Int->Prop}(h:ls.map Prod.snd=C)(c:∀q∈C,p q):∀z∈ls,p z.2:=λz d=>c _ (h▸lO d)
theorem Zbt(L:List Int):0<=chg L/\chg L<=L.length:=by
 unfold chg;suffices h:∀(l:List Int) (s:Int×Int),s.1<=(l.foldl Nk s).1/\(l.foldl Nk s).1<=s.1+l.length by grind
 intro l
 induction l with
 | nil=>simp
 | cons x l c=>
  intro s;have d:=c (Nk s x);have e:=chg1_n s x;simp only [gG,bX];omega
theorem Za4:∀(f:Nat) (x y:List Int),(Ma f x y).length<=f+1
 | 0,x,y=>aF _
 | f+1,x,y=>by
  unfold Ma;split
  .simp
  .have:=Za4 f y (Mt x y);simp;omega
def sm(xs:List Int)(i:Nat):Nat:=(xs.take i).foldl (λm c=>max m c.natAbs) 0
def Zfu{x y:Int}(h:¬Hh x y):Av x y=x/Kl x y/\Du x y=y/Kl x y/\Yjb x y=0:=⟨aJ h,aJ h,aJ h⟩
theorem nr_bl{x y:Int}(h:¬Hh x y):bl (Av x y).natAbs<=65536/\bl (Du x y).natAbs<=65536:=by obtain⟨c,d,_⟩:=Zfu h;rw [c,d];unfold Hh at h;omega
theorem Zyq{x y:Int}(h:¬Hh x y)(c:0<y):0<Du x y:=by simp_all [Zfu,Yfv]
abbrev R2:=Int×Int
def Nh(a b:R2):R2:=(Av (Av (a.1*b.2+b.1*a.2) (a.2*b.2)*1) (Du (a.1*b.2+b.1*a.2) (a.2*b.2)*2),Du (Av (a.1*b.2+b.1*a.2) (a.2*b.2)*1) (Du (a.1*b.2+b.1*a.2) (a.2*b.2)*2))
def Ze7(a b:R2):Prop:=¬Hh (a.1*b.2+b.1*a.2) (a.2*b.2)/\¬Hh (Av (a.1*b.2+b.1*a.2) (a.2*b.2)*1) (Du (a.1*b.2+b.1*a.2) (a.2*b.2)*2)
instance (a b:R2):Decidable (Ze7 a b):=by unfold Ze7;infer_instance
def Yfp{a b:R2}(h:Ze7 a b):Yjb (Av (a.1*b.2+b.1*a.2) (a.2*b.2)*1) (Du (a.1*b.2+b.1*a.2) (a.2*b.2)*2)=0:=(Zfu h.2).2.2
def Ylr(c:R2->Int)(g:R2->Prop)(e:Int):Nat->R2->R2->Int->Int->Nat->Prop
 | 0,_,_,_,_,_=>False
 | f+1,a,b,fr,h,d=>fr=h\/(fr-h=1/\e<=(d:Int))\/(d<1000/\Ze7 a b/\g (Nh a b)/\Ylr c g e f a (Nh a b) fr (c (Nh a b)) (d+1)/\Ylr c g e f (Nh a b) b (c (Nh a b)) h (d+1))
instance ispDec (c:R2->Int) (e:R2->Prop) [DecidablePred e] (g:Int):∀f a b fr h d,Decidable (Ylr c e g f a b fr h d)
 | 0,_,_,_,_,_=>inferInstanceAs (Decidable False)
 | f+1,a,b,fr,h,d=>@instDecidableOr _ _ _ (@instDecidableOr _ _ _ (@instDecidableAnd _ _ _ (@instDecidableAnd _ _ _ (@instDecidableAnd _ _ _ (@instDecidableAnd _ _ (ispDec c e g f a (Nh a b) fr (c (Nh a b)) (d+1)) (ispDec c e g f (Nh a b) b (c (Nh a b)) h (d+1)))))))
def cvc(F:Nat)(xs:List Int)(m:R2):Int:=cnt F xs m.1 m.2
def slow(a:R2):R2:=(Av a.1 a.2,Du a.1 a.2)
open Go.RowKit Below
variable {P:Program} {N:Nat} {sc:Nat->Prop} {env env':Px} {H H':Hp} {Q Q':Exit->Act->World->Prop} {M:Nat->Prop}
theorem Iu{β:Type}{q:β->Pc}{zs ys:List β}(i j n:Nat)(hi:lk H i=some (Nw q zs))(l:lk H j=some (Nw q ys))(d:Nat.beq i 0=false)(e:Nat.beq j 0=false) :
  ∀a w,Sat N sc env H a w->Sat N sc env ((n,Nw q (zs ++ ys))::H) a w:=
 Zx2 i j n hi l d e rfl rfl (λw g k y f=>by
  rcases cW.1 f with h|h
  .exact g y h
  .exact k y h) (λb c=>by
  obtain⟨y,f,c⟩:=c;rcases cW.1 f with h|h
  .exact .inl ⟨y,h,c⟩
  .exact .inr ⟨y,h,c⟩) rfl
end Go.Sky
namespace Go.Sky
variable{M M0:Nat->Prop}{o:Oper}{x y:Operand}{t tb:TypeId}{b:Nat}{cs:Array Value}{v:Value}{vs:List Value}{zs:List (SL×List Int)}{r:List Pc}{z:SL×List Int}
variable {P:Program} {N:Nat} {sc:Nat->Prop} {env env':Px} {H H':Hp} {Q Q':Exit->Act->World->Prop}
theorem Zui(w:World)(g:Nat)(cs:Array Value)(t:TypeId){fr:Nat×Nat}(a:w.heap[g]? = some (.cells cs t fr)):w.setRow g cs=w:=by
 obtain⟨c,d⟩:=aT.1 a;have h:(w.setRow g cs).heap=w.heap:=by
  apply Array.ext_getElem?;intro i;by_cases h:g=i
  .subst h;rw [setRow_heap w g cs cs t fr a,a]
  .unfold World.setRow;dsimp only;rw [Array.getElem?_modify,aJ h]
 have e:w.setRow g cs={ w with heap:=(w.setRow g cs).heap }:=rfl;rw [e,h]
theorem Zo2 (i:Nat)     {j k:Nat}    (s:o.op= .store t x y) (p:o.dst=none)
  (D:ev env x=some (.pointer (some ⟨b,j,none⟩))) (F:ev env y=some v) (m:lk H i=some (Hm b tb cs)) (B:v.cells=vs.toArray) (q:∀w,(sizeOf t).run P w= .ok k w) (d:vs.length=k)
  (c:Nat.ble (j+vs.length) cs.size=true) (l:∀u∈vs,u.oneCell'=true) (e:Fj cs j vs=cs) :
  T P N sc M o env H (G:=Unit) (λ_=>True) (λ_=>env) (λ_=>H):=λa w hs K Q n=>by
 have g:w.heap[b]? = some (.cells cs tb (0,0)):=hs.hold i _ m;have f:=run_storeCells_at P b j tb vs 0 cs w g (by simpa using iW c) l;simp only [eJ]at f;have h:(execOp a.eval o).run P w= .ok .skip (w.setRow b (Fj cs j vs)):=by simp [execOp,s,hs.ev D,hs.ev F,Instr.storeAt,Instr.sureAddr,storeVar,B,q,d,f,Fj]
 rw [e,Zui w b cs tb g]at h;unfold Oper.wp;rw [h];show K (a.put o.dst _) _;rw [p];exact n () _ _ aA (hs.put_none undef) (Chg.refl _ _)
def Ysj{c:Code}(h:E P N sc c (Exit.noGoto Q) env H):E P N sc (.scope c) Q env H:=λa w hs=>wp_scope_straight (h a w hs)
def Zz5(h:X N sc .ret Q env H):X N sc .ret (Exit.noGoto Q) env H:=h
def Ysk{l:Nat}(h:X N sc .normal Q env H):E P N sc (.label l) Q env H:=λa w hs=>wp_label (h a w hs)
def t_stp1     {i j:Nat}   {f:World}  (n:o.op= .store t x y) (l:o.dst=none)
  (q:ev env x=some (.pointer (some ⟨b,j,none⟩))) (s:ev env y=some v) (h:lk H i=some (box b tb cs)) (d:i≠0) (m:∀w,(sizeOf t).run P w= .ok 1 w) (c:Nat.ble (j+1) cs.size=true) (e:One N sc env H v)
  (g:lk H 0=some (Xu f M0)) (p:∀b,f.heap.size<=b->sc b) (k:M b) :
  T P N sc M o env H (G:=Unit) (λ_=>True) (λ_=>env) (λ_=>(i,box b tb (Fj cs j [v]))::H):=λa w hs=>
 t_stp (cs':=#[]) (vs:=[v]) n l q s h (Zr (e a w hs)) m rfl c ⟨e,aA⟩ g p k d a w hs
def Yj3{al:Bool}(i:Nat)(hi:lk H i=some (Xv 1 Nm (λy:SL×List Int=>Yl 2 wv (Xd y.1) y.2) v zs))(a:Nat.beq i 0=false)(c:z∈zs)(h:PreOk H al r):PreOk H al (Yl 2 wv (Xd z.1) z.2::r):=Zu8 (q:=λy:SL×List Int=>Yl 2 wv (Xd y.1) y.2) (z:=z) i hi a c h
end Go.Sky
namespace Go.Sky
variable{v:Int}{o:Oper}{x y:Operand}{t tb:TypeId}{b i:Nat}{kd:IntKind}{M M0:Nat->Prop}{w0:World}{cs:Array Value}
variable {P:Program} {N:Nat} {sc:Nat->Prop} {env env':Px} {H H':Hp} {Q Q':Exit->Act->World->Prop}
def Zab(l:List Int):Array Value:=(l.map (Value.int .i64)).toArray
theorem Yeg(l:List Int):(Zab l).size=l.length:=by simp [Zab]
theorem Ygx{l:List Int}{j:Nat}(h:j<l.length):(Zab l)[j]? = some (.int .i64 (l.getD j 0)):=by simp [Zab,aL h,aK]
theorem Ygw{l:List Int}{j:Nat}(h:j<l.length):Fj (Zab l) j [.int .i64 v]=Zab (l.set j v):=by unfold Fj Zab;grind
theorem Fk (i:Nat)   {e:TypeId} {d k c:Nat}  {m:Int} (j:o.op= .indexAddr t x y) (n:ev env x=some (.pointer (some ⟨b,d,none⟩))) (p:ev env y=some (.int kd m))
  (l:P.underlying t=some (.array c e)) (h:∀w,(sizeOf e).run P w= .ok k w) (f:m=(i:Int):=by omega) (g:i<c:=by omega):Mr P N sc o env H (.pointer (some ⟨b,d+i*k,none⟩)):=λa w hs=>by
 subst f;simp [execOp,j,hs.ev n,hs.ev p,Instr.indexAt,Instr.sureAddr,asIntOf,run_underlying l,h,g,Ol]
theorem Ygd (i:Nat){j:Nat}{l:List Int}(d:o.op= .load t x)(f:ev env x=some (.pointer (some ⟨b,j,none⟩)))(a:lk H i=some (box b tb (Zab l)))(e:∀w,(isAgg t).run P w= .ok false w)(c:j<l.length:=by omega) :
  Mr P N sc o env H (.int .i64 (l.getD j 0)):=Yge _ d f a e (Ygx c)
theorem d_lwa{k:Nat}{l:List Int}(d:o.op= .load t x)(g:ev env x=some (.pointer (some ⟨b,0,none⟩)))(a:lk H i=some (box b tb (Zab l)))(e:∀w,(isAgg t).run P w= .ok true w)(c:∀w,(sizeOf t).run P w= .ok k w)(h:l.length=k) :
  Mr P N sc o env H (.agg (Zab l)):=
 Yc4 d g a e c O4 (λn u f=>by simpa [Zab]using f)
theorem Zxt (i:Nat)     {j:Nat} {l:List Int}    (k:o.op= .store t x y) (f:o.dst=none)
  (p:ev env x=some (.pointer (some ⟨b,j,none⟩))) (q:ev env y=some (.int .i64 v)) (d:lk H i=some (box b tb (Zab l))) (h:∀w,(sizeOf t).run P w= .ok 1 w) 
  (c:lk H 0=some (Xu w0 M0)) (n:∀b,w0.heap.size<=b->sc b) (e:M b) (a:i≠0:=by decide) (g:j<l.length:=by omega) :
  T P N sc M o env H (G:=Unit) (λ_=>True) (λ_=>env) (λ_=>(i,box b tb (Zab (l.set j v)))::H):=by
 rw [<-Ygw g];exact Zji k f p q d a rfl h rfl (by grind [Yeg]) (λu m=>Zk (by rw [List.mem_singleton.1 m];rfl)) rfl c n e
theorem Yhb (i:Nat)     {k:Nat}  {l:List Int}   (h:o.op= .store t x y) (f:o.dst=none)
  (n:ev env x=some (.pointer (some ⟨b,0,none⟩))) (p:ev env y=some (.agg (Zab l))) (d:lk H i=some (box b tb cs)) (g:∀w,(sizeOf t).run P w= .ok k w) (r:l.length=k) (q:cs.size=k)
  (c:lk H 0=some (Xu w0 M0)) (m:∀b,w0.heap.size<=b->sc b) (e:M b) (a:i≠0:=by decide) :
  T P N sc M o env H (G:=Unit) (λ_=>True) (λ_=>env) (λ_=>(i,box b tb (Zab l))::H):=
 Zji h f n p d a rfl g O4 O4 (λu j=>Zk (by obtain⟨z,_,rfl⟩:=eK.1 j;rfl)) (by unfold Fj Zab;grind) c m e
def Ot:Nat->Nat->Nat
 | _,0=>1
 | 0,_+1=>0
 | n+1,k+1=>Ot n k+Ot n (k+1)
theorem Zzn:∀n k,Ot n k<=2^n
 | 0,0=>O3
 | _+1,0=>dH _
 | 0,_+1=>aX _
 | n+1,k+1=>by have a:=Zzn n k;have c:=Zzn n (k+1);show Ot n k+Ot n _<=2^(n+1);omega
theorem Znu:∀n k,n<k->Ot n k=0
 | _,0,h=>absurd h (aR _)
 | 0,_+1,_=>rfl
 | n+1,k+1,h=>by show Ot n k+Ot n _=0;rw [Znu n k O,Znu n _ O]
structure Tab (l:List Int) (n k:Nat):Prop where
 len:l.length=625
 eq:∀r c,r<25->c<25->l.getD (r*25+c) 0=if r<n\/(r=n/\c<k)then(Ot r c:Int)else 0
theorem Zi3{l:List Int}{j:Nat}(hi:i<l.length:=by omega):(l.set i v).getD j 0=if j=i then v else l.getD j 0:=by grind
theorem Tab.start:Tab (List.replicate 625 0) 0 0:=⟨aU,λr c d a=>by grind⟩
theorem Tab.step{l:List Int}{n k:Nat}(h:Tab l n k)(m:n<25)(f:k<25)(p:v=(Ot n k:Int)){j:Nat}(e:j=n*25+k):Tab (l.set j v) n (k+1):=by have g:=h.len;refine⟨O4,λr c d a=>?_⟩;rw [Zi3,h.eq r c d a];grind
theorem Tab.row{l:List Int}{n k:Nat}(h:Tab l n k)(f:n<k):Tab l (n+1) 0:=⟨h.len,λr c e d=>by
 rw [h.eq r c e d];by_cases g:r<n\/(r=n/\c<k)
 .omega
 .rw [aJ g];by_cases a:r<n+1\/(r=n+1/\c<0)
  .rw [aP a,Znu r c O];rfl
  omega⟩
theorem Tab.get{l:List Int}{n k r c:Nat}(h:Tab l n k)(f:r<25)(d:c<25)(a:r<n\/(r=n/\c<k)){j:Nat}(e:j=r*25+c):l.getD j 0=(Ot r c:Int):=by rw [e,h.eq r c f d,aP a]
theorem Ydk (n:Nat)(k:Nat)(c:1<=n:=by omega)(a:1<=k:=by omega):Ot n k=Ot (n-1) (k-1)+Ot (n-1) k:=by obtain⟨m,rfl⟩:∃m,n=m+1:=⟨n-1,O⟩;obtain⟨j,rfl⟩:∃j,k=j+1:=⟨k-1,O⟩;rfl
end Go.Sky
namespace Go.Sky
variable{t tb:TypeId}{parts:List (Nat×Value)}{cells:Array Value}{o:Oper}{x y:Operand}{kd:IntKind}{v0 v1 v2:Value}{b:Nat}{M M0:Nat->Prop}
structure Tb (l:List Int) (n k:Nat):Prop where
 len:l.length=36
 eq:∀r c,r<6->c<6->l.getD (r*6+c) 0=if r<n\/(r=n/\c<k)then(Ot r c:Int)else 0
theorem Tb.start:Tb (List.replicate 36 0) 0 0:=⟨aU,λr c d a=>by rw [aJ O,aK];rw [List.getElem?_replicate];split<;>rfl⟩
theorem Tb.step{l:List Int}{n k:Nat}{v:Int}(h:Tb l n k)(u:n<6)(s:k<6)(q:v=(Ot n k:Int)){j:Nat}(i:j=n*6+k):Tb (l.set j v) n (k+1):=by
 subst i;have m:=h.len;refine⟨by rw [cT];exact m,λr c p f=>?_⟩;rw [Zi3,h.eq r c p f];by_cases e:r*6+c=n*6+k
 .have a:r=n:=O;have d:c=k:=O;subst a;subst d;rw [aP rfl,aP O];exact q
 .rw [aJ e];have:¬(r=n/\c=k):=λ⟨a,d⟩=>e (by rw [a,d]);by_cases g:r<n\/(r=n/\c<k)
  .rw [aP g,aP O]
  .rw [aJ g,aJ O]
theorem Tb.row{l:List Int}{n k:Nat}(h:Tb l n k)(f:n<k):Tb l (n+1) 0:=⟨h.len,λr c e d=>by
 rw [h.eq r c e d];by_cases g:r<n\/(r=n/\c<k)
 .rw [aP g,aP O]
 .rw [aJ g];by_cases a:r<n+1\/(r=n+1/\c<0)
  .rw [aP a,Znu r c O];rfl
  .rw [aJ a]⟩
theorem Tb.get{l:List Int}{n k r c:Nat}(h:Tb l n k)(f:r<6)(d:c<6)(a:r<n\/(r=n/\c<k)){j:Nat}(e:j=r*6+c):l.getD j 0=(Ot r c:Int):=by rw [e,h.eq r c f d,aP a]
theorem Zs0 (n:Nat)(k:Nat)(h:n<=5:=by omega):Ot n k<=32:=aB (Zzn n k) (aB (cY O3 h) O3)
theorem Cd {P:Program} {e:TypeId} {n:Nat} {c a:TypeInfo} {z:Value}   (hi:P.info? t=some c) (g:P.underlying t=some (.array n e)) (h:c.zero=some z) (d:P.info? e=some a)
  (f:Instr.fill (λi=>some (i*a.size,a.size)) z.cells parts=some cells):P.built t parts=some cells:=by
 unfold Program.built;simp only [hi,g,h,d,f]
variable {P:Program} {N:Nat} {sc:Nat->Prop} {env env':Px} {H H':Hp} {Q Q':Exit->Act->World->Prop}
def Zt{α:Type _}(i:Nat)(a b c:α):α:=match i with
 | 0=>a
 | 1=>b
 | _=>c
theorem Ep{α:Type _}{p:α->Prop}{i:Nat}{a b c:α}(d:p a)(e:p b)(f:p c):p (Zt i a b c):=by unfold Zt;split<;>assumption
theorem Zp5 (i:Nat)   {e:TypeId}   {m:Int}  (j:o.op= .index t x y) (l:ev env x=some (.agg #[v0,v1,v2])) (n:ev env y=some (.int kd m))
  (k:P.underlying t=some (.array 3 e)) (g:∀w,(sizeOf e).run P w= .ok 1 w) (f:∀w,(isAgg e).run P w= .ok false w) (c:m=(i:Int)) (h:i<3:=by omega):Mr P N sc o env H (Zt i v0 v1 v2):=λa w hs=>by
 subst c;have d:i=0\/i=1\/i=2:=O;rcases d with rfl|rfl|rfl<;>simp [execOp,j,hs.ev l,hs.ev n,Instr.index,asIntOf,run_underlying k,g,f,asAgg,part,Zt]
theorem Zc5 {α:Type} {k:Nat} {enc:α->Value}  {f g j:List α} (i c d e n:Nat) (l:lk H c=some (Yl k enc v0 f)) (m:lk H d=some (Yl k enc v1 g)) (p:lk H e=some (Yl k enc v2 j))
  (q:Nat.beq c 0=false) (r:Nat.beq d 0=false) (s:Nat.beq e 0=false):∀a w,Sat N sc env H a w->Sat N sc env ((n,Yl k enc (Zt i v0 v1 v2) (Zt i f g j))::H) a w:=by
 match i with
 | 0=>exact Zbd c n l q rfl (λw h=>h) (λb h=>h) rfl
 | 1=>exact Zbd d n m r rfl (λw h=>h) (λb h=>h) rfl
 | i+2=>exact Zbd e n p s rfl (λw h=>h) (λb h=>h) rfl
theorem Zwz (i:Nat)(j:Nat){α:Type}{k:Nat}{enc:α->Value}{l:List α}(d:α)(n:o.op= .load t x)(s:ev env x=some (.pointer (some ⟨b,0+j*k,none⟩)))(g:lk H i=some (box b tb (cellsOf enc l).toArray))(e:Enc P t k enc)(m:j<l.length) :
  Mr P N sc o env H (enc (l.getD j d)):=λa w hs=>by
 have hi:l[j]? = some (l.getD j d):=by simp [List.getD,aL m]
 have h:=e.load (l.getD j d) w ⟨b,0+j*k,none⟩ (λq u p=>by have f:=Gf e.cells l j _ hi q u p;rw [Ol,hs.boxc g];simpa using f)
 have c:=hs.ev s;generalize enc (l.getD j d)=r at h ⊢;generalize (⟨b,0+j*k,none⟩:Addr)=v at h c;simp [execOp,n,c,Instr.loadAt,Instr.sureAddr,h]
theorem t_sbe (i:Nat)(j:Nat)(k:Nat) {α:Type}      {enc:α->Value} {l:List α} (z:α) {g:World}  (r:o.op= .store t x y) (p:o.dst=none)
  (w:ev env x=some (.pointer (some ⟨b,0+j*k,none⟩))) (B:ev env y=some (enc z)) (m:lk H i=some (box b tb (cellsOf enc l).toArray)) (a:Enc P t k enc) (f:j<l.length)
  (h:lk H 0=some (Xu g M0)) (v:∀b,g.heap.size<=b->sc b) (n:M b) (c:i≠0:=by decide) :
  T P N sc M o env H (G:=Unit) (λ_=>True) (λ_=>env) (λ_=>(i,box b tb (cellsOf enc (l.set j z)).toArray)::H):=by
 have q:=Xo a.cells l;have e:(enc z).cells.toList.length=k:=by simp [a.cells]
 have d:(j+1)*k<=l.length*k:=aM _ f;rw [dR]at d;refine Zji (vs:=(enc z).cells.toList) r p w B m c rfl a.size e (by rw [e,mH,q];omega) (λu s=>Zk (a.one z u s)) ?_ h v n;unfold Fj;rw [cD,e,Zdt a.cells l j z f]
end Go.Sky
namespace Go.Sky
variable{o:Oper}{x:Operand}{t tb te:TypeId}{M M0:Nat->Prop}{cs:Array Value}
variable {P:Program} {N:Nat} {sc:Nat->Prop} {env env':Px} {H H':Hp} {Q Q':Exit->Act->World->Prop}
theorem d_lea{α:Type}{i b k q:Nat}{enc:α->Value}{l:List α}(f:o.op= .load t x)(j:ev env x=some (.pointer (some ⟨b,0,none⟩)))(a:lk H i=some (box b tb (cellsOf enc l).toArray))(c:Enc P te q enc)(g:∀w,(isAgg t).run P w= .ok true w)(d:∀w,(sizeOf t).run P w= .ok k w)(e:l.length*q=k) :
  Mr P N sc o env H (.agg (cellsOf enc l).toArray):=
 Yc4 (vs:=cellsOf enc l) f j a g d (by rw [Xo c.cells l];exact e) (λn u h=>by rw [cD];simpa using h)
theorem t_sea {α:Type}   {y:Operand}  {i b k q:Nat}  {enc:α->Value} {l:List α} {f:World}  (s:o.op= .store t x y) (n:o.dst=none)
  (B:ev env x=some (.pointer (some ⟨b,0,none⟩))) (D:ev env y=some (.agg (cellsOf enc l).toArray)) (h:lk H i=some (box b tb cs)) (a:i≠0) (d:Enc P te q enc) (p:∀w,(sizeOf t).run P w= .ok k w) (r:l.length*q=k) (m:cs.size=k)
  (g:lk H 0=some (Xu f M0)) (v:∀b,f.heap.size<=b->sc b) (j:M b) :
  T P N sc M o env H (G:=Unit) (λ_=>True) (λ_=>env) (λ_=>(i,box b tb (cellsOf enc l).toArray)::H):=by
 have c:(cellsOf enc l).length=k:=by rw [Xo d.cells l];exact r
 refine Zji (vs:=cellsOf enc l) s n B D h a rfl p c (by rw [c,cD,m];exact aF _) (λu e=>?_) (by unfold Fj;rw [dZ,kR,cD,List.drop_eq_nil_of_le O8,eU]) g v j
 unfold cellsOf at e;obtain⟨z,_,F⟩:=iX.1 e;exact Zk (d.one z u F)
end Go.Sky
namespace Go.Sky
variable {P:Program} {N:Nat} {sc:Nat->Prop} {env env':Px} {H H':Hp} {Q Q':Exit->Act->World->Prop}
abbrev Zv:=(Int×Int×Int)×(SL×List Int)×(SL×List Int)×(SL×List Int)
abbrev Qv (g:Zv):Value:= .agg #[.int .i64 g.1.1,.int .i64 g.1.2.1,.int .i64 g.1.2.2,Xd g.2.1.1,Xd g.2.2.1.1,Xd g.2.2.2.1]
abbrev qC (z:SL×List Int):Pc:=Yl 1 Zz (Xd z.1) z.2
abbrev qG (g:Zv):Pc:=Nw qC [g.2.1,g.2.2.1,g.2.2.2]
abbrev G0:Zv:=((0,0,0),((none,0,0),[]),((none,0,0),[]),((none,0,0),[]))
def Qr (g:Zv)(z:SL×List Int){v:Value}{ps:List Zv}(j n:Nat)(i:lk H j=some (Xv 6 Qv qG v ps))(c:Nat.beq j 0=false)(d:g∈ps)(e:z∈[g.2.1,g.2.2.1,g.2.2.2]):∀a w,Sat N sc env H a w->Sat N sc env ((n,Yl 1 Zz (Xd z.1) z.2)::H) a w:=
 Zbd j n i c rfl (λw h=>h.2 g d z e) (λb f=> .inr ⟨g,d,z,e,f⟩) rfl
end Go.Sky
namespace Go.Sky
variable{x c y z:List Int}{i:Nat}{over ov:Int}
theorem Gj{x:Int}(h:Lo x):bl x.natAbs<=64:=(Qo 64 _).2 (by obtain⟨a,b⟩:=h;omega)
theorem in_bl{x:Int}(h:bl x.natAbs<=63):Lo x:=by have:=(Qo 63 x.natAbs).1 h;exact⟨O,O⟩
theorem bl_pw{n:Int}(h:bl n.natAbs<=100)(hi:i<=10):bl (n^i).natAbs<=1000:=by
 rcases bD i with a|a
 .subst a;rw [dD];decide
 .exact aB (Fp n h i a) (by have:=aM 100 hi;omega)
def zc6_eq:(Value.agg (List.replicate 36 (Value.int .i64 0)).toArray).cells=Zab (List.replicate 36 0):=rfl
def Ztl:(Value.agg (List.replicate 36 (Value.int .i64 0)).toArray).cells.size=36:=rfl
def w60(n j k:Nat):Int:=60/(Ot n k:Int)*(Ot j k:Int)
def ctl(c:List Int)(j m:Nat):Int:=Yo (λk=>c.getD k 0*w60 (c.length-1) j k) m
def Ynl(c:List Int)(j m:Nat):ctl c j (m+1)=ctl c j m+c.getD m 0*w60 (c.length-1) j m:=rfl
theorem Zk6:∀{n k:Nat},k<=n->0<Ot n k
 | n,0,_=>by cases n<;>exact Nat.one_pos
 | n+1,k+1,h=>by have:=Zk6 (n:=n) (k:=k) O;show 0<Ot n k+Ot n (k+1);omega
theorem Zxo (n:Nat)(j:Nat)(k:Nat)(d:j<=5):0<=w60 n j k/\w60 n j k<=1920:=by have e:=Zs0 _ k d;unfold w60;have a:(0:Int)<=60/(Ot n k:Int):=iN O3 O;have b:(60:Int)/(Ot n k:Int)<=60:=kF _ O3;refine⟨cP a O,?_⟩;have:=iA b (show(Ot j k:Int)<=32 by omega) O O3;omega
theorem Zn4 (n:Nat)(k:Nat){j:Nat}(a:j<=5):bl (w60 n j k).natAbs<=11:=by have:=Zxo n _ k a;exact(Qo 11 _).2 O
theorem Lj(h:∀x∈c,Lo x)(k:Nat):Lo (c.getD k 0):=by
 by_cases a:k<c.length
 .exact h _ (Zd a)
 .rw [aK,bJ O];exact⟨O3,O3⟩
theorem Zdw(h:∀x∈c,Lo x){j m:Nat}(a:j<=5)(b:m<=31):bl (ctl c j m).natAbs<=80:=
 Zla (K:=75) (λk _=>by have d:=Gj (Lj h k);have e:=Zn4 (c.length-1) k a;have:=Yu (c.getD k 0) (w60 (c.length-1) j k);omega) b
def Zn3(c:List Int)(over:Int):Bool:=(List.range c.length).all λj=>decide ((ctl c j (j+1)).natAbs<=62914560*over)
theorem Zzt(h:∀j,j<c.length->((ctl c j (j+1)).natAbs:Int)<=62914560*over):Zn3 c over=true:=by unfold Zn3;rw [bK];intro j a;exact aH (h j (fM.1 a))
theorem Zzu (j:Nat)(a:j<c.length)(h:¬((ctl c j (j+1)).natAbs:Int)<=62914560*over):Zn3 c over=false:=by
 cases hb:Zn3 c over with
 | false=>rfl
 | true=>
  unfold Zn3 at hb;rw [bK]at hb;exact absurd (bW (hb j (fM.2 a))) h
theorem wc_abs{s:Int}:(#[.bool false,.string (Qy s.natAbs)]:Array Value)=wc (s.natAbs:Int):=by have:decide (((s.natAbs:Nat):Int)<0)=false:=aE O;rw [show wc (s.natAbs:Int)=#[.bool (decide (((s.natAbs:Nat):Int)<0)),.string (Qy ((s.natAbs:Nat):Int).natAbs)]from rfl,this,dS]
theorem sgp(z:Int):0<z.sign↔0<z:=by simpa using Eo z
def axB(c:List Int)(over:Int):Bool:=decide (1<=c.length) && decide (c.length<=6) && !(decide (1<c.length) && decide (c.getD (c.length-1) 0=0)) && Zn3 c over
def Mc(g:Int):List Int->Int
 | []=>g
 | x::r=>Mc (Int.gcd g x) r
theorem Gg:∀(a b:List Int) (g:Int),Mc g (a ++ b)=Mc (Mc g a) b
 | [],_,_=>rfl
 | x::a,b,g=>Gg a b _
theorem Ah{l:List Int}{g:Int}(h:i<l.length):Mc g (l.take (i+1))=(Int.gcd (Mc g (l.take i)) (l.getD i 0):Int):=by rw [Qz 0 _ _ h,Gg];rfl
theorem Zh3:∀{l:List Int} {g:Int} {m:Nat},(∀x∈l,bl x.natAbs<=m)->bl g.natAbs<=m->bl (Mc g l).natAbs<=m
 | [],_,_,_,h=>h
 | x::l,g,m,h,hg=>Zh3 (l:=l) (λy a=>h y (bT _ a)) (aB (Zlc g x) (by have:=h x (cC ..);omega))
def Yel(fr a ov:Int):Bool:=decide (0<=fr) && decide (fr<a) && decide (a<=3600000) && decide (1<=ov) && decide (ov<=4294967296)
def Zaz(fr a ov:Int)(x y z:List Int):Bool:=Yel fr a ov && axB x ov && axB y ov && axB z ov && decide (Mc ov (x ++ y ++ z)=1)
def Mw(i:Nat)(x y z:List Int):List Int:=match i with
 | 0=>[]
 | 1=>x
 | 2=>x ++ y
 | _=>x ++ y ++ z
theorem Ee(x y z:List Int)(h:i<3):Mw (i+1) x y z=Mw i x y z ++ Zt i x y z:=by
 match i,h with
 | 0,_=>rfl
 | 1,_=>rfl
 | 2,_=>rfl
theorem Zc4 (i:Nat){fr a:Int}(h:axB (Zt i x y z) ov=false):Zaz fr a ov x y z=false:=by unfold Zaz;revert h;unfold Zt;split<;>intro h<;>simp [h]
theorem Zay{fr a:Int}(h:¬(0<=fr/\fr<a/\a<=3600000/\1<=ov/\ov<=4294967296)):Zaz fr a ov x y z=false:=by
 cases hb:Zaz fr a ov x y z with
 | false=>rfl
 | true=>
  unfold Zaz Yel at hb;simp only [aY,dI]at hb;exact absurd O h
theorem Zob(h:1<=c.length->c.length<=6->¬(1<c.length/\c.getD (c.length-1) 0=0)->Zn3 c ov=true->False):axB c ov=false:=by
 cases hb:axB c ov with
 | false=>rfl
 | true=>
  unfold axB at hb;simp only [aY,fE,gQ,dI,fN]at hb;exact(h hb.1.1.1 hb.1.1.2 (λb=>by rcases hb.1.2 with a|a;exact a b.1;exact a b.2) hb.2).elim
theorem Yea(b:1<=c.length)(d:c.length<=6)(e:¬(1<c.length/\c.getD (c.length-1) 0=0))(f:Zn3 c ov=true):axB c ov=true:=by
 unfold axB;simp only [aY,fE,gQ,dI,fN];refine⟨⟨⟨b,d⟩,?_⟩,f⟩;by_cases a:1<c.length
 .exact .inr λg=>e ⟨a,g⟩
 .exact .inl a
theorem Yik{fr d:Int}(a:0<=fr/\fr<d/\d<=3600000/\1<=ov/\ov<=4294967296)(b:∀k,k<3->axB (Zt k x y z) ov=true):Zaz fr d ov x y z=decide (Mc ov (Mw 3 x y z)=1):=by have e:axB x ov=true:=b 0 O3;have f:axB y ov=true:=b 1 O3;have g:axB z ov=true:=b 2 O3;unfold Zaz Yel;rw [aH a.1,aH a.2.1,aH a.2.2.1,aH a.2.2.2.1,aH a.2.2.2.2,e,f,g];rfl
def Kx(b:∀a∈x,Lo a)(d:∀a∈y,Lo a)(e:∀a∈z,Lo a)(i:Nat):∀a∈Zt i x y z,Lo a:=Ep (p:=λl=>∀a∈l,Lo a) b d e
theorem bl_fc(d:∀a∈x,Lo a)(e:∀a∈y,Lo a)(f:∀a∈z,Lo a)(g:bl ov.natAbs<=64)(i k:Nat):bl (Mc (Mc ov (Mw i x y z)) ((Zt i x y z).take k)).natAbs<=64:=by
 refine Zh3 (λa b=>Gj (Kx d e f i a (eR b))) (Zh3 (λa b=>Gj ?_) g);unfold Mw at b;split at b
 .cases b
 .exact d a b
 .rcases cW.1 b with h|h
  .exact d a h
  .exact e a h
 .rcases cW.1 b with h|h
  .rcases cW.1 h with h|h
   .exact d a h
   .exact e a h
  .exact f a h
def Zd8{c:Int} : c.sign<0↔c<0:=Py c
end Go.Sky
