/- Rules, arithmetic and contracts: part 4. No conditions but those that each theorem names. -/
import Derived.Test.YtlnoheikolgejaaGreatLb02
import Derived.Scope
set_option linter.all false
namespace Go.Sky
variable{a b s c:List Int}
theorem Ax (k:Nat){f:Nat->Int} : ∀{n:Nat},k<n->(∀i,i<n->i≠k->f i=0)->Yl f n=f k
 | 0,d,_=>absurd d (bG _)
 | n+1,d,h=>by
  rw [Yp];by_cases e:k=n
  .subst e;rw [Gk λi hi=>h i O O,kJ]
  .rw [h n O5 (λx=>e x.symm),Ax _ O (λi hi=>h i O),gJ]
theorem Zah{p q:List Int}{a b:Nat}(e:∀i,a<i->cf p i=0)(f:∀i,b<i->cf q i=0):(ps p*ps q).c (a+b)=cf p a*cf q b:=by
 rw [PS.mul_c,Ax a O λi hi d=>?_]
 .grind [Nx]
 .rw [Nx,Nx];grind
theorem Zhk(s e:List Int)(c d:Int)(f:PS)(t:Nat):(ps (Bj (Zy s c) (Zy e d))*f).c t=c*(ps s*f).c t-d*(ps e*f).c t:=by rw [PS.mul_c,PS.mul_c,PS.mul_c,<-Me,eP,<-Int.neg_mul,<-Me,<-Fu];refine Xj λk _=>?_;rw [Nx,Nx,Nx,Hd,Yo,Yo];grind
theorem Zv6(f:PS)(q d:List Int)(u v:Int)(h:∀i,u*cf q i=v*cf d i)(t:Nat):u*(f*ps q).c t=v*(f*ps d).c t:=by grind [PS.mul_c,Me,Xj,Nx]
theorem Ycu{q r:List Int}(j:Tr q)(f:q≠[])(h:∀t,(ps s*ps q).c t=cf r t)(o:∀t,q.length-1<=t->cf r t=0):∀t,cf s t=0:=by
 have d:=j.mem f;have hs:tzl s=[]:=by
  rcases Zkq _ with g|⟨u,y,g⟩
  .omega
  .have k:=Xx s;have e:tzl s≠[]:=O11;have l:=k.mem e;have m:=Zah (p:=tzl s) (q:=q) (a:=(tzl s).length-1) (b:=q.length-1) (λi hi=>Yr O) (λi hi=>Yr O);have n:ps _=ps s:=PS.ext' λi=>Lc s i;grind [Int.mul_eq_zero]
 grind [Ii]
theorem Lr(h:∀t,cf s t=0)(f:PS)(t:Nat):(ps s*f).c t=0:=by simp_all [PS.mul_c,Gk,Nx,cL]
theorem Ox{p q:List Int}(f:Tr p)(g:Tr q)(d:p≠[])(e:q≠[]):(Qz p q).length=p.length+q.length-1:=by have h:=aI.2 d;have j:=aI.2 e;unfold Qz;rw [Aw,Xc];right;rw [Xc,Kk,aM O,show p.length+q.length-1-1=(p.length-1)+(q.length-1) by omega,Zah (λi hi=>Yr O) (λi hi=>Yr O)];exact bC (f.mem d) (g.mem e)
def mono(s:Nat)(c:Int):List Int:=List.replicate s 0 ++ [c]
theorem Zlg(s:Nat)(c:Int)(i:Nat):cf (mono s c) i=if i=s then c else 0:=by
 unfold mono;rw [Zql];split
 .unfold cf;grind
 .split
  .rename_i d;subst d;simp [cf]
  grind [Yr]
theorem Zm9(s:Nat)(c:Int)(f:PS)(t:Nat):(ps (mono s c)*f).c t=if s<=t then c*f.c (t-s)else 0:=by
 rw [PS.mul_c];split
 .rw [Ax s O λi _ d=>by rw [Nx,Zlg,aJ d,cL],Nx,Zlg,aM rfl]
 .exact Gk λk e=>by rw [Nx,Zlg,aJ O,cL]
theorem Ziw{p q:List Int}(o:0<q.length)(n:q.length<=p.length):∀j,j<=p.length-q.length+1->∃s:List Int,∀t,cf q (q.length-1)^j*cf p t=(ps s*ps q).c t+cf (Pm p q j) t
 | 0,_=>⟨[],λt=>by rw [Lr (λt=>Yr (aV _))];unfold Pm;simp⟩
 | j+1,y=>by
  obtain⟨s,r⟩:=Ziw o n j O;refine⟨Bj (Zy s (cf q (q.length-1))) (Zy (mono (p.length-1-j-(q.length-1)) (cf (Pm p q j) (p.length-1-j))) (-1)),λt=>?_⟩;rw [Zhk,Zm9];have d:=r t;show _=_+cf (Zg1 q _ _) t;rw [dD];rcases bB t p.length with h|h
  .rw [Zia (by grind [Py])];generalize p.length-1-j-(q.length-1)=f;generalize cf (Pm p q j) t=k at d ⊢;generalize (ps s*ps q).c t=X at d ⊢;generalize cf q _^j=L at d ⊢;generalize cf q _=l at d ⊢;have e:L*l*cf p t=l*X+k*l:=O4;rw [e];by_cases m:f<=t
   .rw [aM m,Nx];by_cases x:t<f+q.length
    .omega
    .rw [Yr (p:=q) (i:=t-_) O];simp
   omega
  .have g:=Yr h;have u:cf (Pm p q j) t=0:=Yr (by grind [Py]);have v:cf (Zg1 q (Pm p q j) (p.length-1-j)) t=0:=Yr (by grind [Zhq,Py]);have w:cf q (t-(p.length-1-j-(q.length-1)))=0:=Yr O;rw [g,u,gJ]at d;rw [g,v,Nx,w,<-d];simp
theorem Cx(p:List Int){q:List Int}(e:q≠[]):∃(k:Nat) (s:List Int),∀t,cf q (q.length-1)^k*cf p t=(ps s*ps q).c t+cf (Qp p q) t:=by
 have d:=aI.2 e;rcases bB p.length q.length with h|h
 .refine⟨0,[],λt=>?_⟩;rw [Lr (λt=>Yr (aV _))];unfold Qp;grind
 .obtain⟨s,hs⟩:=Ziw d h _ (aH _);refine⟨p.length-q.length+1,s,λt=>?_⟩;unfold Qp;simp_all [aJ,Lc]
theorem Pf(p:List Int){q:List Int}(e:q≠[]):(Qp p q).length<q.length:=by
 have d:=aI.2 e;unfold Qp;split
 .omega
 .have:=Zb9 (p:=Pm p q _) λi hi=>Zfy d O _ (aH _) i O;omega
theorem Kd{p q:List Int}(d:Tr p):Tr (Qp p q):=by unfold Qp;grind [Xx]
def Sim(a b:List Int):Prop:=∃m n:Int,m≠0/\n≠0/\∀i,m*cf a i=n*cf b i
def Sim.refl(a:List Int):Sim a a:=⟨1,1,O,O,λ_=>rfl⟩
def Sim.symm : Sim a b->Sim b a:=λ⟨m,n,d,e,h⟩=>⟨n,m,e,d,λi=>(h i).symm⟩
def Sim.trans : Sim a b->Sim b c->Sim a c:=λ⟨m,n,d,e,h⟩ ⟨u,v,f,g,k⟩=>
 ⟨m*u,n*v,bC d f,bC e g,λi=>O4⟩
theorem Sim.zero(h:Sim a b){i:Nat}(hi:cf a i=0):cf b i=0:=by obtain⟨m,n,d,e,h⟩:=h;grind [Int.mul_eq_zero]
theorem Sim.len_le(h:Sim a b)(e:Tr b):b.length<=a.length:=by
 rcases bB a.length b.length with f|f
 .exfalso;have d:b≠[]:=aI.1 O;exact e.mem d (h.zero (Yr O))
 omega
def Sim.len(h:Sim a b)(d:Tr a)(e:Tr b):a.length=b.length:=jG (h.symm.len_le d) (h.len_le e)
theorem Sim.nil(h:Sim a b)(d:Tr b)(e:a=[]):b=[]:=by have:=h.len_le d;simp_all
theorem Yf5{g d:List Int}(R:Tr a)(H:Tr g)(w:Tr b)(h:Tr d)(l:b≠[])(F:Sim a g)(q:Sim b d):Sim (Qp a b) (Qp g d):=by
 have f:d≠[]:=λe=>l (q.symm.nil w e);have y:=q.len w h;obtain⟨k,s,hs⟩:=Cx a l;obtain⟨x,I,i⟩:=Cx g f;have G:cf b (b.length-1)^k≠0:=Mj (w.mem l) k;have r:cf d (d.length-1)^x≠0:=Mj (h.mem f) x;generalize cf b (b.length-1)^k=L at hs G;generalize cf d (d.length-1)^x=o at i r;obtain⟨m,n,S,V,B⟩:=F;obtain⟨u,v,Y,Z,D⟩:=q;have l1:=Pf a l;have l2:=Pf g f;have j:∀t,(ps (Bj (Zy s (o*m*v)) (Zy I (L*n*u)))*ps d).c t=cf (Bj (Zy (Qp g d) (L*n*u)) (Zy (Qp a b) (o*m*u))) t:=λt=>by rw [Zhk,Hd,Yo,Yo];have M:=hs t;have N:=i t;have P:=B t;have Q:=Zv6 (ps s) b d u v D t;grind
 have z:=Ycu h f j λt W=>by rw [Hd,Yo,Yo,Yr (p:=Qp g d) O,Yr (p:=Qp a b) O];simp
 refine⟨o*m*u,L*n*u,by simp [*],by simp [*],λt=>?_⟩;have:=j t;rw [Lr z,Hd,Yo,Yo]at this;grind
theorem Zcy(c:Int):∀(p:List Int) (g:Int),0<=g->(p.map (· * c)).foldl (λg c=>(Int.gcd g c:Int)) (g*c.natAbs)=p.foldl (λg c=>(Int.gcd g c:Int)) g*c.natAbs
 | [],g,_=>rfl
 | x::p,g,hg=>by
  rw [bH,gN,gN,<-Zcy c p _ O5];congr 1;have:Int.gcd (g*(c.natAbs)) (x*c)=Int.gcd g x*c.natAbs:=by unfold Int.gcd;grind [Int.natAbs_mul,Int.natAbs_natCast,Nat.gcd_mul_right]
  omega
theorem Zi5(p:List Int)(c:Int):Yv (p.map (· * c))=Yv p*c.natAbs:=by have:=Zcy c p 0 (eV _);rw [cL]at this;exact this
theorem Fx(p:List Int)(i:Nat):cf (Yg p) i*Yv p=cf p i:=by grind [Zd1,Int.ediv_mul_cancel,Kc]
theorem Yf6:Yg []=[]:=rfl
theorem Bb{p:List Int}(h:Tr p)(d:p≠[]):Yv p≠0:=λe=>h.mem d ((Zdj p).1 e _)
theorem Kg{p:List Int}(h:Tr p)(d:p≠[]):Yv (Yg p)=1:=by
 have f:=Bb h d;have e:=Zi5 (Yg p) (Yv p);rw [show(Yg p).map _=p from Ky (by rw [aT,Yj]) λi _=>by grind [Zge,Fx]]at e;have g:=Ns p;have j:Yv p*(Yv (Yg p)-1)=0:=by grind
 all_goals grind [Int.mul_eq_zero]
theorem Zha{p:List Int}(h:Yv p=1):Yg p=p:=Ky (Yj p) λi _=>by rw [Zd1,h,Int.ediv_one]
theorem Zf3{p:List Int}(h:Tr p):Yg (Yg p)=Yg p:=by
 by_cases d:p=[]
 .subst d;rfl
 grind [Zha,Kg]
theorem Qk{p:List Int}(h:Tr p):Sim (Yg p) p:=by
 by_cases d:p=[]
 .subst d;exact Sim.refl _
 .exact⟨Yv p,1,Bb h d,O,λi=>by grind [Fx]⟩
def Xf(p:List Int):List Int:=Lj (Yg p)
theorem Zl6{x y:List Int}(o:Tr x)(p:Tr y)(q:x≠[])(d:Yv x=1)(f:Yv y=1)(h:Sim x y):x=y\/∀i,cf x i=- cf y i:=by
 have r:=h.len o p;obtain⟨m,n,t,l,e⟩:=h;have g:=Zi5 x m;have j:=Zi5 y n;rw [show x.map _=y.map (· * n)from Ky O4 λi _=>by grind [Zge,Int.mul_comm],j,d,f]at g
 have k:m=n\/m=-n:=O;rcases k with rfl|rfl
 .grind [Ky,Int.eq_of_mul_eq_mul_left]
 .exact .inr λi=>iH l O4
theorem Dd(g:List Int)(i:Nat):cf (Lj g) i=if g.length≠0/\cf g (g.length-1)<0 then-cf g i else cf g i:=by unfold Lj;grind [Yo]
theorem Nc{g:List Int}(h:Tr g):Tr (Lj g):=by unfold Lj;grind [Qj]
theorem Hm(g:List Int):Sim (Lj g) g:=by
 by_cases h:g.length≠0/\cf g (g.length-1)<0
 .exact⟨-1,1,O,O,λi=>by simp_all [Dd,aM]⟩
 .exact⟨1,1,O,O,λi=>by rw [Dd,aJ h]⟩
theorem Zr3(g:Tr a)(j:Tr b)(h:Sim a b):Xf a=Xf b:=by
 by_cases d:a=[]
 .rw [h.nil j d,d]
 .have l:=λe=>d (h.symm.nil g e);have hs:=(Qk g).trans (h.trans (Qk j).symm);have m:=Yu g;have k:=Yu j;have n:=hs.len m k;have f:Yg a≠[]:=λe=>d (aC (by grind [Yj]));rcases Zl6 m k f (Kg g d) (Kg j l) hs with e|e
  .unfold Xf;grind
  .unfold Xf;refine(Nc m).ext (Nc k) λi=>?_;rw [Dd,Dd];have o:cf (Yg b) ((Yg a).length-1)≠0:=by rw [n];exact k.mem (λp=>f (aC O4))
   grind
theorem Zzu:∀(f:Nat) {a b k g:List Int},Tr a->Tr k->Tr b->Tr g->Sim a k->Sim b g->Sim (eu f a b) (eu f k g)
 | 0,_,_,_,_,_,_,_,_,h,_=>h
 | f+1,a,b,k,g,n,j,m,d,o,l=>by
  unfold eu;by_cases i:b=[]
  .rw [aM i,aM (l.nil d i)];omega
  .rw [aJ i,aJ (λe=>i (l.symm.nil m e))];have t1:=Kd (q:=b) n;have t2:=Kd (q:=g) j;exact Zzu f m d (Yu t1) (Yu t2) l ((Qk t1).trans ((Yf5 n j m d i o l).trans (Qk t2).symm))
theorem Znz:∀(f:Nat) {a b:List Int},Tr a->Tr b->Tr (eu f a b)
 | 0,_,_,h,_=>h
 | f+1,a,b,d,e=>by
  unfold eu;split
  .exact d
  .exact Znz f e (Yu (Kd d))
theorem Zlc:∀(f k:Nat) {a b:List Int},eok f a b->eu (f+k) a b=eu f a b
 | 0,k,a,b,h=>by rw [show b=[]from h,Bm,Bm]
 | f+1,k,a,b,h=>by
  rcases h with h|h
  .rw [h,Bm,Bm]
  .by_cases d:b=[]
   .rw [d,Bm,Bm]
   .rw [show f+1+k=f+k+1 by omega];unfold eu;rw [aJ d,aJ d];exact Zlc f k h.2
theorem Ydp:∀(f:Nat) {a b:List Int},Tr a->Tr b->Yg a=a->Yg b=b->Yg (eu f a b)=eu f a b
 | 0,_,_,_,_,h,_=>h
 | f+1,a,b,d,i,e,g=>by
  unfold eu;split
  .exact e
  .exact Ydp f i (Yu (Kd d)) g (Zf3 (Kd d))
theorem Zjo{p q:List Int}(d:Tr p)(e:Tr q):Tr (gA p q):=by unfold gA;all_goals grind [Yu]
theorem Zjn{p q:List Int}(d:Tr p)(e:Tr q):Tr (gB p q):=by unfold gB;all_goals grind [Yu]
theorem Zvw{F:Nat}{p q:List Int}(d:Tr p)(e:Tr q):Nm F p q=Xf (eu F (gA p q) (gB p q)):=by
 unfold Nm Xf;rw [Ydp F (Zjo d e) (Zjn d e)]
 .unfold gA;grind [Zf3]
 .unfold gB;grind [Zf3]
theorem Ysg{F G:Nat}{p q:List Int}(e:Tr p)(d:Tr q)(g:eok F p q)(i:eok G (gA p q) (gB p q)):Lj (Yg (eu F p q))=Nm G p q:=by
 rw [Zvw e d];rw [<-Zlc F _ g,<-Zlc G F i];refine Zr3 (Znz _ e d) (Znz _ (Zjo e d) (Zjn e d)) ?_;rcases bB _ _ with h|h
 .rw [show gA p q=Yg q from aM h,show gB p q=Yg p from aM h];rw [show F+(G+1)=F+G+1 by rfl,show G+F=F+G by omega];have f:q≠[]:=aI.1 O;have:eu (F+G+1) p q=eu (F+G) q (Yg p):=by
   conv=>lhs;unfold eu
   rw [aJ f,show Qp p q=p from aM h]
  rw [this];exact Zzu _ d (Yu d) (Yu e) (Yu e) (Qk d).symm (Sim.refl _)
 .rw [show gA p q=Yg p from aJ O,show gB p q=Yg q from aJ O];have j:eu (F+(G+1)) p q=eu (F+G) p q:=by simp_all [Zlc]
  rw [j,show G+F=F+G by omega];exact Zzu _ e (Yu e) d (Yu d) (Qk e).symm (Qk d).symm
def chk:Nat->Nat->Nat->Nat->Nat->Bool
 | 0,_,d,_,_=>Nat.beq d 0
 | f+1,e,d,A,B=>Nat.beq d 0 || (bif Nat.blt e d then chk f d e B A else
   Nat.ble (A+(e-d+1)*B) 65537 && (List.range d).all λl=>chk f d l B (bif Nat.ble l 1 then 2 else A+(e-d+1)*B))
theorem cp_nf{p:List Int}{x y z:Int}{n m:Nat}(d:Sz n p)(j:bl x.natAbs<=m)(k:bl y.natAbs<=m)(l:bl z.natAbs<=m)(i:p.length<=25)(h:n+24*(m+1)+8<=65536):Xw p+(p.length-1)*(Xw [x,y,z]+1)+8<=65536:=by
 have e:=Qv d;have f:Xw [x,y,z]<=m:=by simp only [Xw];omega
 have g:(p.length-1)*(Xw [x,y,z]+1)<=24*(m+1):=aO O O;omega
theorem cp_not{p:List Int}{x y z:Int}(h:Xw p+(p.length-1)*(Xw [x,y,z]+1)+8<=65536):¬Zn6 p x y z:=λd=>by have:=d.2;omega
theorem Zf7(p:List Int)(x y z:Int):(Lf p x y z).length<=p.length:=by
 unfold Lf;split
 .simp
 grind [Nat.le_trans,Md,Zdo]
theorem Zwf(x y:Int):Kh x y∣x:=by
 unfold Kh;split
 all_goals grind [Int.neg_dvd,Int.gcd_dvd_left]
theorem Zwe(x y:Int):Kh x y∣y:=by
 unfold Kh;split
 all_goals grind [Int.neg_dvd,Int.gcd_dvd_right]
abbrev Z0:SL×List Int:=((none,0,0),[])
theorem vp_eu:∀(f:Nat) {a b:List Int},Vp a->Vp b->eok f a b->Vp (eu f a b)
 | 0,_,_,h,_,_=>h
 | f+1,a,b,d,e,h=>by
  unfold eu;split
  .exact d
  .rcases h with h|h
   .contradiction
   .exact vp_eu f e (Lp (Zbf d h.1)) h.2
theorem Yhr{g:List Int}(h:Vp g):Vp (Lj g):=by
 unfold Lj;split
 .refine⟨λi=>by rw [Yo];exact Zcv h.sz i,Qj _ _,aB (Pv _ _) h.len⟩
 omega
def Yau{F:Nat}{p q:List Int}(d:Vp p)(e:Vp q)(h:eok F (gA p q) (gB p q)):Vp (Nm F p q):=Yhr (vp_eu F (vp_gA d e) (vp_gB d e) h)
theorem Fm(q:List Int):Qz [] q=[]:=Zbp (.inl rfl)
theorem Zck(p:List Int):Qz p []=[]:=Zbp (.inr rfl)
theorem Yl3(N D:Int):N/Kh N D*D=N*(D/Kh N D):=by grind [Int.ediv_mul_cancel,Zwf,Zwe]
theorem Ygn{N D:Int}(h:0<D):0<D/Kh N D:=by
 have f:Kh N D=(Int.gcd N D):=aJ O;have g:=lN (Zwe N D);rw [f]at g ⊢;generalize D/(Int.gcd N D)=d at *;rcases gK 0 d with e|e
 .omega
 .have:d*(Int.gcd N D)<=0:=fG e O5;omega
section
variable {p q:List Int}
theorem Zgb(l:Tr p)(f:Tr q)(h:p≠[])(d:q≠[]):∀j,j<=p.length->∀t,cf (Xo (Qz p q) q j) t=(ps (p.take (p.length-j))*ps q).c t
 | 0,_,t=>by rw [jK,bS];exact Gu p q t
 | j+1,y,t=>by
  have n:=Zgb l f h d j O;have z:=aI.2 d;have v:=Ox l f h d;have r:Xo (Qz p q) q (j+1)=Zhz q (Xo (Qz p q) q j) (p.length-1-j):=by show Zhz q _ _=_;grind
  have w:=f.mem d;have m:cf (Xo (Qz p q) q j) (p.length-1-j+q.length-1)=cf p (p.length-1-j)*cf q (q.length-1):=by rw [n,show p.length-1-j+q.length-1=(p.length-1-j)+(q.length-1) by omega,Zah (λi hi=>by rw [Db,aJ O]) (λi hi=>Yr O),Db,aM O]
  have e:dq q (Xo (Qz p q) q j) (p.length-1-j)=cf p (p.length-1-j):=by unfold dq;simp_all
  have u:(ps (p.take (p.length-j))*ps q).c t=(ps (p.take (p.length-(j+1)))*ps q).c t+(ps (mono (p.length-1-j) (cf p (p.length-1-j)))*ps q).c t:=by rw [PS.mul_c,PS.mul_c,PS.mul_c,<-Fu];refine Xj λk _=>?_;rw [Nx,Nx,Nx,Nx,Db,Db,Zlg];grind
  rw [r];unfold Zhz;rw [Kk,Fd,v,e,n,u,Zm9,Nx];by_cases g:t<p.length+q.length-1
  .rw [aM g];by_cases o:p.length-1-j<=t
   .rw [aM o];by_cases x:t<p.length-1-j+q.length
    .omega
    .rw [Yr (p:=q) O];simp
   omega
  .rw [aJ g,PS.mul_c];refine(Gk λk _=>?_).symm;rw [Nx,Nx,Db];split
   .rw [Yr (p:=q) O,dY]
   omega
theorem Zrv(f:Tr p)(g:Tr q)(e:q≠[]):pdv (Qz p q) q/\Lq (Qz p q) q=p:=by
 by_cases d:p=[]
 .subst d;rw [Fm];exact⟨.inl rfl,rfl⟩
 have r:=aI.2 d;have t:=aI.2 e;have o:=Ox f g d e;have m:=g.mem e;have n:∀k,k<=p.length-1->cf (Xo _ q (p.length-1-k)) (k+q.length-1)=cf p k*cf q _:=λk j=>by rw [Zgb f g d e _ O,show k+q.length-1=k+(q.length-1) by omega,Zah (λi hi=>by rw [Db,aJ O]) (λi hi=>Yr O),Db,aM O]
 have l:(Qz p q).length-q.length=p.length-1:=O;have h:Qz p q≠[]:=aI.1 O;refine⟨.inr ⟨O,λk j=>?_,?_⟩,?_⟩
 .unfold Mt;simp_all
 .rw [l,show p.length-1+1=p.length by omega];refine(Ii _).2 λi=>?_;rw [Zgb f g d e _ (aH _),gF];simp [Lr,Yr,aV]
 .rw [Zmr h];unfold Yki;rw [l,show p.length-1+1=p.length by omega,Bc λk j=>?_,Zes,Aw f];unfold Zxg dq;grind [Int.mul_ediv_cancel]
end
def Dv(g a:List Int):Prop:=∃(k:Int) (s:List Int),k≠0/\∀t,k*cf a t=(ps s*ps g).c t
theorem Zvy(f:PS)(t:Nat):(ps [1]*f).c t=f.c t:=by rw [PS.mul_c,Ax 0 O5 λi _ d=>by rw [Nx,Yr O4,cL],Nx,show cf [1] 0=1 from rfl,fY,jK]
theorem Dv.refl(a:List Int):Dv a a:=⟨1,[1],O,λt=>by rw [Zvy,fY,Nx]⟩
theorem Dv.nil(g:List Int):Dv g []:=⟨1,[],O,λt=>by simp [Lr,Yr,aV]⟩
theorem Dv.sim{g:List Int} : Dv g a->Sim a b->Dv g b:=λ⟨k,s,d,h⟩ ⟨m,n,j,f,e⟩=>
 ⟨k*n,Zy s m,bC d f,λt=>by rw [PS.mul_c,show(λi=>(ps _).c i*(ps g).c _)=λi=>m*((ps s).c i*(ps g).c (t-i))from mS λi=>by grind [Nx,Yo],Me,<-PS.mul_c];grind⟩
theorem Dv.lin{g:List Int}(e:Dv g a)(f:Dv g b)(s:List Int)(L:Int)(d:L≠0)(h:∀t,L*cf c t=(ps s*ps a).c t+cf b t):Dv g c:=by
 obtain⟨k,u,j,r⟩:=e;obtain⟨m,v,l,w⟩:=f;refine⟨L*(k*m),Gw (Zy (Qz s u) m) (Zy v k),bC d (bC j l),λt=>?_⟩;have n:k*(ps s*ps a).c t=(ps (Qz s u)*ps g).c t:=by rw [Zkz,PS.mul_assoc',PS.mul_c,PS.mul_c,<-Me];grind [Xj,Nx]
 have o:(ps (Gw (Zy (Qz s u) m) (Zy v k))*ps g).c t=m*(ps (Qz s u)*ps g).c t+k*(ps v*ps g).c t:=by rw [PS.mul_c,PS.mul_c,PS.mul_c,<-Me,<-Me,<-Fu];refine Xj λi _=>?_;rw [Nx,Nx,Nx,Nx,Cn,Yo,Yo];grind
 grind
theorem eu_dv:∀(f:Nat) {a b:List Int},Tr a->Tr b->eok f a b->Dv (eu f a b) a/\Dv (eu f a b) b
 | 0,a,b,j,d,h=>by rw [show b=[]from h];exact⟨Dv.refl _,Dv.nil _⟩
 | f+1,a,b,j,d,h=>by
  by_cases i:b=[]
  .grind [Bm,Dv.refl,Dv.nil]
  .rcases h with h|h
   .grind
   .have e:eu (f+1) a b=eu f b (Yg (Qp a b)):=by
     conv=>lhs;unfold eu
     grind
    rw [e];have t1:=Kd (q:=b) j;obtain⟨g,l⟩:=eu_dv f d (Yu t1) h.2;obtain⟨k,s,hs⟩:=Cx a i;exact⟨g.lin (l.sim (Qk t1)) s _ (Mj (d.mem i) k) hs,g⟩
theorem Dv.of_sim{g d:List Int} : Dv g a->Sim g d->Dv d a:=λ⟨k,s,f,h⟩ ⟨m,n,i,j,e⟩=>
 ⟨m*k,Zy s n,bC i f,λt=>by grind [Int.mul_assoc,PS.mul_c,Me,Xj,Nx,Yo]⟩
theorem Dv.zero(e:Tr a)(h:Dv [] a):a=[]:=by obtain⟨k,s,f,h⟩:=h;rw [<-Aw e,Ii];intro i;have d:=h i;rw [PS.mul_comm',Lr (λt=>Yr (aV _))]at d;grind [Int.mul_eq_zero]
theorem Zen{F:Nat}{p q:List Int}(g:Tr p)(i:Tr q)(h:eok F (gA p q) (gB p q)):Dv (Nm F p q) p/\Dv (Nm F p q) q:=by
 have j:=Zjo g i;have k:=Zjn g i;obtain⟨d,e⟩:=eu_dv F j k h;have hs:Sim _ (Nm F p q):=(Hm _).symm;have d:=d.of_sim hs;have e:=e.of_sim hs;by_cases f:p.length<q.length
 .rw [show gA p q=Yg q from aM f]at d;rw [show gB p q=Yg p from aM f]at e;exact⟨e.sim (Qk g),d.sim (Qk i)⟩
 .rw [show gA p q=Yg p from aJ f]at d;rw [show gB p q=Yg q from aJ f]at e;exact⟨d.sim (Qk g),e.sim (Qk i)⟩
def Zec (F:Nat){p q:List Int}(d:Tr p)(e:Tr q):Tr (Nm F p q):=Nc (Znz F (Zjo d e) (Zjn d e))
theorem Zfx(p:List Int){c:Int}(h:c≠0):Sim p (Zy p c):=⟨c,1,h,O,λi=>by grind [Yo]⟩
theorem Zcn{g:List Int}(h:Tr g):(Lj g).length=g.length:=(Hm g).len (Nc h) h
theorem Zj0(g:List Int):Yv (Lj g)=Yv g:=by
 have d:Yv (Lj g)∣Yv g:=Fz λi=>by
  have h:=Kc (Lj g) i;rw [Dd]at h;split at h
  all_goals simp_all
 have e:Yv g∣Yv (Lj g):=Fz λi=>by
  rw [Dd];split
  all_goals grind [Int.dvd_neg,Kc]
 exact Int.dvd_antisymm (Ns _) (Ns _) d e
theorem Zmx{F:Nat}{p q:List Int}(f:Tr p)(g:Tr q)(d:Nm F p q≠[]):Yv (Nm F p q)=1:=by rw [Zvw f g]at d ⊢;unfold Xf at d ⊢;rw [Zj0];refine Kg (Znz F (Zjo f g) (Zjn f g)) λe=>d ?_;rw [e];rfl
end Go.Sky
namespace Go.Sky
variable{a b p x y xs:List Int}{i:Nat}{s:Int}{ls:List (SL×List Int)}
def Zda(xs:List Int):Prop:=xs.length=0\/(xs.length+2)*(xs.length+2)*(Xw xs+16)<=65536
instance (xs:List Int):Decidable (Zda xs):=by unfold Zda;infer_instance
def sqf(F:Nat)(xs:List Int):List Int:=Lq (Xf xs) (Nm F (Xf xs) (Xg (Xf xs)))
def Yp9(F:Nat)(xs:List Int):Prop:=(∀i,i<xs.length->bl (cf (Xf xs) (i+1)*((i:Int)+1)).natAbs<=65536)/\¬Zp7 (Xf xs) (Xg (Xf xs))/\eok F (gA (Xf xs) (Xg (Xf xs))) (gB (Xf xs) (Xg (Xf xs)))/\
 Ai (Xf xs) (Nm F (Xf xs) (Xg (Xf xs)))=0/\pdv (Xf xs) (Nm F (Xf xs) (Xg (Xf xs)))
def Mr(x y:List Int):List Int:=if cf y (y.length-1)<0/\(x.length-y.length+1)%2=1 then Yg (Qp x y)else Zy (Yg (Qp x y)) (-1)
def cok:Nat->List Int->List Int->Prop
 | 0,_,y=>y=[]
 | f+1,x,y=>y=[]\/(Ai x y=0/\y.length<=x.length/\cok f y (Mr x y))
def Nz:Nat->List Int->List Int->List (List Int)
 | 0,x,_=>[x]
 | f+1,x,y=>if y=[]then [x]else x::Nz f y (Mr x y)
theorem Du(f:Nat)(x:List Int):Nz f x []=[x]:=by cases f<;>rfl
theorem Zh8{f:Nat}(h:cok f a b)(c:b≠[]):∃g,f=g+1/\Ai a b=0/\b.length<=a.length/\cok g b (Mr a b)/\Nz f a b=a::Nz g b (Mr a b):=by
 cases f with
 | zero=>exact absurd h c
 | succ g=>
  rcases h with h|h
  .exact absurd h c
  .exact⟨g,rfl,h.1,h.2.1,h.2.2,by show(if b=[]then [a]else _)=_;rw [aJ c]⟩
def chn(F:Nat)(xs:List Int):List (List Int):=Nz F (sqf F xs) (Yg (Xg (sqf F xs)))
def Zbe(F:Nat)(xs:List Int):Prop:=Yp9 F xs/\(∀i,i<xs.length->bl (cf (sqf F xs) (i+1)*((i:Int)+1)).natAbs<=65536)/\cok F (sqf F xs) (Yg (Xg (sqf F xs)))
theorem Zx9(h:Vp p):Vp (Xf p):=by
 unfold Xf;have c:=Lp h;refine⟨λi=>?_,Nc c.tr,by rw [Zcn c.tr];exact c.len⟩;rw [Dd];split
 .rw [dX];exact c.sz i
 .exact c.sz i
theorem Pq(h:Tr p):(Xf p).length=p.length:=by unfold Xf;rw [Zcn (Yu h),Yj]
theorem Zlr(d:Vp x)(c:Ai x y=0):Vp (Mr x y):=by
 have h:=Lp (Zbf d c);unfold Mr;split
 .exact h
 .exact⟨λi=>by rw [Yo];exact Zcv h.sz i,Qj _ _,aB (Pv _ _) h.len⟩
def Nh(s:Int×Int)(x:Int):Int×Int:=if x=0 then s else(if x=-s.2 then s.1+1 else s.1,x)
def chg(l:List Int):Int:=(l.foldl Nh (0,0)).1
def Zcr{α β:Type}(f:α->β->α)(a:α)(l:List β)(x:β):(l ++ [x]).foldl f a=f (l.foldl f a) x:=O5
theorem chg1_n(s:Int×Int)(x:Int):(Nh s x).1=s.1\/(Nh s x).1=s.1+1:=by
 unfold Nh;split
 .exact .inl rfl
 .dsimp only;split
  .exact .inr rfl
  .exact .inl rfl
def Yg7(xs:List Int):Int:=if xs.length=0 then 3 else if Zda xs then 0 else 7
theorem Ytr(c:xs≠[])(h:Zda xs):Yg7 xs=0:=by unfold Yg7;rw [aJ (λe=>c (aC e)),aM h]
theorem Zk3(h:¬cf (Yg xs) ((Yg xs).length-1)<0):Xf xs=Yg xs:=by unfold Xf Lj;rw [aJ O]
theorem Zk4(c:(Yg xs).length≠0)(h:cf (Yg xs) ((Yg xs).length-1)<0):Xf xs=Zy (Yg xs) (-1):=by unfold Xf Lj;rw [aM ⟨c,h⟩]
theorem Zf9 (P:Nat->Prop) : ∀n,P n->∃m,P m/\∀k,k<m->¬P k:=by
 intro n
 induction n using Nat.strongRecOn with
 | _ n f=>
  intro h;by_cases e:∃k,k<n/\P k
  .obtain⟨k,d,c⟩:=e;exact f k d c
  .exact⟨n,h,λk d c=>e ⟨k,d,c⟩⟩
theorem Ygp{n:Nat}(h:2<=n):∃p,2<=p/\p∣n/\∀d,2<=d->d∣n->p<=d:=by
 obtain⟨p,⟨f,g⟩,j⟩:=Zf9 (λd=>2<=d/\d∣n) n ⟨h,Nat.dvd_refl n⟩;exact⟨p,f,g,λd k e=>by
  rcases bB d p with c|c
  .exact absurd ⟨k,e⟩ (j d c)
  .exact c⟩
theorem Zwn{n p:Nat}(q:2<=p)(j:p∣n)(k:∀d,2<=d->d∣n->p<=d)(u:0<n){x y:Int}(h:(p:Int)∣x*y):(p:Int)∣x\/(p:Int)∣y:=by
 by_cases g:(p:Int)∣x
 .exact .inl g
 .right;have m:Nat.gcd p x.natAbs=1:=by
   have f:=Nat.gcd_dvd_left p x.natAbs;have o:0<Nat.gcd p x.natAbs:=Nat.gcd_pos_of_pos_left _ O;rcases bB (Nat.gcd p x.natAbs) 2 with c|c
   .omega
   .have r:=k _ c (Nat.dvd_trans f j);have t:=kE O f;exfalso;refine g (fJ.1 ?_);rw [dB];have l:Nat.gcd p x.natAbs=p:=O;rw [<-l];exact Nat.gcd_dvd_right _ _
  have e:=fJ.2 h;rw [dB,bT]at e;refine fJ.1 ?_;rw [dB];exact(show Nat.Coprime p x.natAbs from m).dvd_of_dvd_mul_left e
theorem gauss{g:List Int}(hg:Yv g=1):∀(n:Nat) (k:Int) (s:List Int),k.natAbs=n->k≠0->(∀t,k*cf a t=(ps s*ps g).c t)->∃q:List Int,∀t,cf a t=(ps q*ps g).c t:=by
 intro n
 induction n using Nat.strongRecOn with
 | _ n ih=>
  intro k s o S h;rcases bB n 2 with P|P
  .have G:k*k=1:=by have:k=1\/k=-1:=O;rcases this with e|e<;>subst e<;>rfl
   refine⟨Zy s k,λt=>?_⟩;have e:(ps (Zy s k)*ps g).c t=k*(ps s*ps g).c t:=by rw [PS.mul_c,PS.mul_c,<-Me];exact Xj λi _=>by rw [Nx,Nx,Nx,Yo];grind
   rw [e,<-h,<-eX,G,fY]
  .obtain⟨p,V,W,pm⟩:=Ygp P;have I:∀{x y:Int},(p:Int)∣x*y->(p:Int)∣x\/(p:Int)∣y:=Zwn V W pm O;have r:(p:Int)∣k:=fJ.1 (by rw [dB,o];exact W);have w:∃j,¬(p:Int)∣cf g j:=bE λu=>by have:(p:Int)∣Yv g:=Fz λi=>bE λhy=>u ⟨i,hy⟩;rw [hg]at this;have:=kF O3 this;omega
   obtain⟨j0,D⟩:=w;obtain⟨j,hj,F⟩:=Zf9 (λj=>¬(p:Int)∣cf g j) j0 D;have hs:∀i,(p:Int)∣cf s i:=λi0=>bE λz=>by
    obtain⟨i,hi,B⟩:=Zf9 (λi=>¬(p:Int)∣cf s i) i0 z;have Q:=h (i+j);rw [PS.mul_c]at Q;have N:∀m,m<=i+j+1->(p:Int)∣Yl (λk=>if k=i then 0 else(ps s).c k*(ps g).c (i+j-k)) m:=λm=>by
     induction m with
     | zero=>intro _;exact jJ _
     | succ m M=>
      intro hm;rw [Yp];refine Int.dvd_add (M O) ?_;split
      .exact jJ _
      .rename_i a0;rw [Nx,Nx];rcases bB m i with v|v
       .exact iK (bE λu=>B m v u) (jY _ _)
       .exact iK (bE λu=>F (i+j-m) O u) (Int.dvd_mul_left _ _)
    have Y:Yl (λk=>(ps s).c k*(ps g).c (i+j-k)) (i+j+1)=Yl (λk=>if k=i then 0 else(ps s).c k*(ps g).c (i+j-k)) (i+j+1)+cf s i*cf g j:=by
     have Z:Yl (λk=>(ps s).c k*(ps g).c (i+j-k)) (i+j+1)=Yl (λk=>(if k=i then 0 else(ps s).c k*(ps g).c (i+j-k))+(if k=i then(ps s).c k*(ps g).c (i+j-k)else 0)) (i+j+1):=
      Xj λk _=>by split<;>omega
     rw [Z,Fu,Ax i (f:=λk=>if k=i then(ps s).c k*(ps g).c (i+j-k)else 0) O (λq _ hq=>aJ hq),aM rfl,Nx,Nx,show i+j-i=j by omega]
    rw [Y]at Q;have v:(p:Int)∣cf s i*cf g j:=by have l:cf s i*cf g j=k*cf a (i+j)-Yl (λk=>if k=i then 0 else(ps s).c k*(ps g).c (i+j-k)) (i+j+1):=O;rw [l];exact Int.dvd_sub (iK r (jY _ _)) (N _ (aH _))
    rcases I v with l|l
    .exact hi l
    .exact hj l
   obtain⟨d,c⟩:=r;have H:(p:Int)≠0:=O;refine ih d.natAbs ?_ d (s.map (· / (p:Int))) rfl ?_ ?_
   .rw [<-o,c,bT,dB];have:0<d.natAbs:=by
     rcases aZ d.natAbs with R|R
     .rw [show d=0 by omega]at c;simp at c;exact absurd c S
     .exact R
    have:=aL d.natAbs V;omega
   .intro e;rw [e]at c;simp at c;exact S c
   .intro t;refine iH H ?_;rw [<-eX,<-c,h,PS.mul_c,PS.mul_c,<-Me];refine Xj λi _=>?_;rw [Nx,Nx,Nx,Zge _ _ O5,<-eX,lD (hs i)]
def ev1:List Int->Int->Int
 | [],_=>0
 | c::r,t=>c+t*ev1 r t
def sdv:List Int->Int->List Int
 | [],_=>[]
 | [_],_=>[]
 | _::c::r,t=>ev1 (c::r) t::sdv (c::r) t
theorem Zni:∀(u:List Int) (t:Int),(sdv u t).length=u.length-1
 | [],_=>rfl
 | [_],_=>rfl
 | _::c::r,t=>by unfold sdv;rw [bI,Zni _ t];simp
theorem Ydn:∀(u:List Int) (t x:Int),ev1 u x=ev1 u t+(x-t)*ev1 (sdv u t) x
 | [],t,x=>by simp [ev1,sdv]
 | [c],t,x=>by simp [ev1,sdv]
 | a::c::r,t,x=>by have d:=Ydn (c::r) t x;show a+x*ev1 _ x=a+t*ev1 _ t+(x-t)*(ev1 _ t+x*ev1 _ x);grind
theorem Yeq(a:Int)(u:List Int)(i:Nat):cf (a::u) i=if i=0 then a else cf u (i-1):=by
 cases i with
 | zero=>rfl
 | succ i=>rfl
theorem Zd2(i:Nat):cf [] i=0:=Yr (aV _)
theorem Yob:∀(u:List Int) (t:Int) (i:Nat),cf u (i+1)=cf (sdv u t) i-t*cf (sdv u t) (i+1)
 | [],t,i=>by unfold sdv;simp [Zd2]
 | [c],t,i=>by unfold sdv;simp [Yeq,aJ,Zd2]
 | a::c::r,t,i=>by
  cases i with
  | zero=>
   show c=ev1 _ t-t*cf _ 0
   match r with
   | []=>simp [ev1,sdv,cf]
   | d::r'=>unfold sdv;rw [Yeq];show c=(c+t*ev1 _ t)-_;simp
  | succ i=>
   exact Yob _ t i
theorem Ytu:∀(u:List Int) (t:Int),cf u 0=ev1 u t-t*cf (sdv u t) 0
 | [],t=>by simp [ev1,sdv,cf]
 | [c],t=>by simp [ev1,sdv,cf]
 | a::c::r,t=>by show a=(a+t*ev1 _ t)-t*ev1 _ t;simp
theorem Zu4:∀(n:Nat) (u:List Int) (R:List Int),u.length=n->(∃i,cf u i≠0)->R.Nodup->(∀t∈R,ev1 u t=0)->R.length<n
 | 0,u,R,d,c,_,_=>by grind [List.eq_nil_of_length_eq_zero,Zd2]
 | n+1,u,[],d,c,_,_=>O5
 | n+1,u,t::R,d,c,hd,hR=>by
  have h:=hR t (cH ..);have j:=Zni u t;have g:∃i,cf (sdv u t) i≠0:=bE λe=>by
   obtain⟨i,hi⟩:=c;cases i with
   | zero=>grind [Ytu]
   | succ i=>grind [Yob]
  have:=Zu4 n _ R O g (List.nodup_cons.1 hd).2 λx e=>by have f:=hR x (bX _ e);rw [Ydn u t x]at f;grind [Int.mul_eq_zero,List.nodup_cons]
  grind
def kk:Nat->Nat
 | 0=>0
 | d+1=>30*kk d+1
def Psim(a b:List Int):Prop:=∃m n:Int,0<m/\0<n/\∀i,m*cf a i=n*cf b i
def Psim.refl(a:List Int):Psim a a:=⟨1,1,O,O,λ_=>rfl⟩
def Psim.symm : Psim a b->Psim b a:=λ⟨m,n,c,d,h⟩=>⟨n,m,d,c,λi=>(h i).symm⟩
def Psim.trans{c:List Int} : Psim a b->Psim b c->Psim a c:=λ⟨m,n,d,e,h⟩ ⟨u,v,f,g,k⟩=>
 ⟨m*u,n*v,fQ d f,fQ e g,λi=>O4⟩
def Psim.sim : Psim a b->Sim a b:=λ⟨m,n,c,d,h⟩=>⟨m,n,O,O,h⟩
theorem Zf2(h:Tr p):Psim (Yg p) p:=by
 by_cases c:p=[]
 .subst c;exact Psim.refl _
 .exact⟨Yv p,1,by have:=Ns p;grind [Bb],O,λi=>by grind [Fx]⟩
theorem Zms(f:Tr a)(g:Tr b)(h:Psim a b):Yg a=Yg b:=by
 by_cases c:a=[]
 .rw [h.sim.nil g c,c]
 .have j:=λe=>c (h.sim.symm.nil f e);obtain⟨m,n,u,v,e⟩:=(Zf2 f).trans (h.trans (Zf2 g).symm);have l:=Yu f;have t:=Yu g;have hs:Sim _ _:=⟨m,n,O,O,e⟩;have d:Yg a≠[]:=λe=>c (aC (by grind [Yj]));rcases Zl6 l t d (Kg f c) (Kg g j) hs with k|k
  .omega
  .have o:=l.mem d;have q:=e ((Yg a).length-1);have r:=k ((Yg a).length-1);rw [r]at q o;grind [Int.mul_neg,Int.add_mul,Int.mul_eq_zero]
def Er(y:List Int):Int:=if cf y (y.length-1)<0 then-cf y (y.length-1)else cf y (y.length-1)
def rb(x y:List Int):Int:=if cf y (y.length-1)<0 then-cf x (x.length-1)else cf x (x.length-1)
def Dn(x y:List Int):List Int:=Bj (Zy x (Er y)) (shm y (rb x y) (x.length-y.length) y.length)
def Fa:Nat->List Int->List Int->List Int
 | 0,x,_=>x
 | f+1,x,y=>if x.length<y.length then x else Fa f (Dn x y) y
theorem Zhr(e:Tr x)(f:0<y.length)(d:y.length<=x.length):(Dn x y).length<x.length:=by
 have h:=Zb9 (p:=Dn x y) (n:=x.length-1) λi hi=>by
  unfold Dn;rw [Hd,Yo,Ztj];by_cases c:i=x.length-1
  .unfold Er rb;grind
  .rw [Yr O,aJ O];simp
 rw [show tzl _=Dn x y from Aw (Zam _ _)]at h;omega
theorem Yjj(x:List Int)(t:Nat):Er y*cf x t=(ps (mono (x.length-y.length) (rb x y))*ps y).c t+cf (Dn x y) t:=by
 unfold Dn;rw [Zm9,Hd,Yo,Ztj,Nx];by_cases c:x.length-y.length<=t
 .by_cases d:t<x.length-y.length+y.length
  .grind
  .rw [Yr (p:=y) O,fK _];simp
 grind
theorem Zg7(d:Tr y)(c:y≠[]):0<Er y:=by have:=d.mem c;unfold Er;split<;>omega
theorem Zcd{y:List Int}(l:Tr y)(d:y≠[]):∀(f:Nat) (x:List Int),Tr x->x.length<y.length+f->Tr (Fa f x y)/\(Fa f x y).length<y.length/\∃(k:Nat) (s:List Int),∀t,Er y^k*cf x t=(ps s*ps y).c t+cf (Fa f x y) t
 | 0,x,c,e=>⟨c,e,0,[],λt=>by rw [Lr (λt=>Yr (aV _))];unfold Fa;simp⟩
 | f+1,x,c,e=>by
  unfold Fa;by_cases h:x.length<y.length
  .rw [aM h];exact⟨c,h,0,[],λt=>by simp [Lr,Yr,aV,dC]⟩
  .rw [aJ h];have m:=Zhr c (aI.2 d) O;obtain⟨g,j,k,s,hs⟩:=Zcd l d f (Dn x y) (Zam _ _) O;refine⟨g,j,k+1,Bj (Zy s 1) (Zy (mono (x.length-y.length) (rb x y)) (-(Er y^k))),λt=>?_⟩;grind [Yjj,Zhk,Int.pow_succ]
theorem Zvq(l:Int)(h:l≠0):∀n:Nat,(l<0/\n%2=1->l^n<0)/\(¬(l<0/\n%2=1)->0<l^n)
 | 0=>⟨λh=>O,λ_=>O5⟩
 | n+1=>by
  have e:=Zvq l h n;rw [dD];by_cases d:l<0
  .by_cases f:n%2=1
   .have c:=e.1 ⟨d,f⟩;exact⟨λh=>O,λ_=>Int.mul_pos_of_neg_of_neg c d⟩
   .have c:=e.2 O;exact⟨λ_=>Int.mul_neg_of_pos_of_neg c d,λh=>O⟩
  .have c:=e.2 O;exact⟨λh=>O,λ_=>fQ c O⟩
def Zi4(p:List Int):List Int:=Zy p (-1)
theorem Za6(p:List Int)(i:Nat):cf (Zi4 p) i=- cf p i:=by unfold Zi4;grind [Yo]
theorem Zy2(h:Tr p):Yg (Zi4 p)=Zi4 (Yg p):=by
 have e:=by
  have c:Yv (Zi4 p)∣Yv p:=Fz λi=>by have h:=Kc (Zi4 p) i;simp_all [Za6,mO]
  have d:Yv p∣Yv (Zi4 p):=Fz λi=>by simp [Za6,mO,Kc]
  exact Int.dvd_antisymm (Ns _) (Ns _) c d
 refine(Yu (Qj _ _)).ext (Qj _ _) λi=>?_;show cf (Yg (Zi4 p)) i=cf _ i;simp_all [Za6,Zd1,Int.neg_ediv_of_dvd,Kc]
theorem Zee (f:Nat)(u:Tr x)(m:Tr y)(g:y≠[])(B:y.length<=x.length)(w:x.length<y.length+f):Yg (Zi4 (Fa f x y))=Mr x y:=by
 obtain⟨N,M,k,s,hs⟩:=Zcd m g f x u w;have F:=aI.2 g;obtain⟨G,o⟩:=Ziw (p:=x) F B _ (aH _);have D:∀t,cf (Pm x y (x.length-y.length+1)) t=cf (Qp x y) t:=λt=>by unfold Qp;simp_all [aJ,Lc]
 have lp:=Pf x g;have h:=Kd (q:=y) u;have c:=m.mem g;have n:0<Er y^k:=jD (Zg7 m g);have d:=Zvq (cf y (y.length-1)) c (x.length-y.length+1);generalize H:cf y (y.length-1)^(x.length-y.length+1)=L at o d;generalize Er y^k=K at hs n;have j:∀t,(ps (Bj (Zy G K) (Zy s L))*ps y).c t=cf (Bj (Zy (Fa f x y) L) (Zy (Qp x y) K)) t:=λt=>by rw [Zhk,Hd,Yo,Yo,<-D t];grind
 have z:=Ycu m g j λt I=>by rw [Hd,Yo,Yo,Yr (p:=Fa f x y) O,Yr (p:=Qp x y) O];simp
 have e:∀t,L*cf (Fa f x y) t=K*cf (Qp x y) t:=λt=>by have v:=j t;rw [Lr z,Hd,Yo,Yo]at v;grind
 unfold Mr;by_cases l:cf y (y.length-1)<0/\(x.length-y.length+1)%2=1
 .rw [aM l];have r:=d.1 l;exact Zms (Qj _ _) h ⟨-L,K,O,n,λt=>by grind [Za6]⟩
 .rw [aJ l];have r:=d.2 l;rw [show Zy (Yg (Qp x y)) (-1)=Zi4 (Yg (Qp x y))from rfl,<-Zy2 h];exact Zms (Qj _ _) (Qj _ _) ⟨L,K,r,n,λt=>by simp_all [Za6,lE]⟩
theorem Zc6(c:Tr x):Tr (Mr x y):=by unfold Mr;grind [Yu,Kd,Qj]
theorem Af(c:Tr x):(Mr x y).length=(Qp x y).length:=by
 unfold Mr;have h:Tr (Yg (Qp x y)):=Yu (Kd c);split
 .simp [Yj]
 .rw [<-Yj (Qp x y)];exact((Zfx _ O).len h (Qj _ _)).symm
theorem Zqz{n:Nat}(h:Sz n p):Sz n (Xf p):=λi=>by
 unfold Xf;rw [Dd];split
 .rw [dX];exact Gb h i
 .exact Gb h i
theorem Zi6(h:Tr p)(c:p≠[]):Xf p≠[]:=λe=>c (aC (by grind [Pq]))
theorem Zaf{g:List Int}(h:Tr g)(c:g≠[]):0<cf (Lj g) ((Lj g).length-1):=by have d:=h.mem c;grind [Zcn,Dd,List.eq_nil_of_length_eq_zero]
theorem Zbq(h:Tr p)(c:p≠[]):Yv (Xf p)=1:=by unfold Xf;grind [Zj0,Kg]
theorem Zy8(h:Tr p)(c:Yv p=1)(d:0<cf p (p.length-1)):Xf p=p:=by unfold Xf;rw [Zha c];unfold Lj;grind
theorem Ov (F:Nat)(o:Tr xs)(r:xs≠[])(v:eok F (gA (Xf xs) (Xg (Xf xs))) (gB (Xf xs) (Xg (Xf xs)))) :
  pdv (Xf xs) (Nm F (Xf xs) (Xg (Xf xs)))/\Tr (sqf F xs)/\sqf F xs≠[]/\Xf xs=Qz (sqf F xs) (Nm F (Xf xs) (Xg (Xf xs)))/\Nm F (Xf xs) (Xg (Xf xs))≠[]/\Xf (sqf F xs)=sqf F xs:=by
 have hs:Tr (Xf xs):=Nc (Yu o);have f:=Np hs;have l:=Zi6 o r;have g:=(Zen hs f v).1;have n:=Zec F hs f;have c:Nm F (Xf xs) (Xg (Xf xs))≠[]:=λe=>l ((e▸g).zero hs);have H:=Zmx hs f c;obtain⟨k,s,I,h⟩:=g;obtain⟨q,P⟩:=gauss H _ k s rfl I h;have d:Xf xs=Qz (tzl q) (Nm F (Xf xs) (Xg (Xf xs))):=hs.ext (Qh _ _) λi=>by grind [Gu,Zro]
 obtain⟨B,S⟩:=Zrv (Xx q) n c;have w:sqf F xs=tzl q:=by unfold sqf;grind
 rw [<-d]at B;have j:tzl q≠[]:=λe=>l (by grind [Fm]);refine⟨B,by grind [Xx],O4,O4,c,?_⟩;rw [w];refine Zy8 (Xx q) ?_ ?_
 .have D:=Zbq o r;have t:Yv (tzl q)∣Yv (Xf xs):=Fz λi=>by
   rw [d,Gu,PS.mul_c];have N:∀m,Yv (tzl q)∣Yl (λk=>(ps (tzl q)).c k*(ps (Nm F (Xf xs) (Xg (Xf xs)))).c (i-k)) m:=λm=>by
    induction m with
    | zero=>exact jJ _
    | succ m M=>exact Int.dvd_add M (iK (Kc (tzl q) m) (jY _ _))
   grind
  have u:=Ns (tzl q);have G:=kF O t;grind [Bb,Xx]
 .have Q:=aI.2 j;have R:=aI.2 c;have D:0<cf (Xf xs) ((Xf xs).length-1):=Zaf (Yu o) (λe=>r (aC (by grind [Yj])));have t:0<cf (Nm F (Xf xs) (Xg (Xf xs))) ((Nm F (Xf xs) _).length-1):=Zaf (Znz F (Zjo hs f) (Zjn hs f)) (λe=>c (by unfold Nm;rw [e];rfl));have u:=Ox (Xx q) n j c;rw [<-d]at u;have G:cf (Xf xs) ((Xf xs).length-1)=cf (tzl q) ((tzl q).length-1)*cf (Nm F (Xf xs) (Xg (Xf xs))) ((Nm F (Xf xs) (Xg (Xf xs))).length-1):=by rw [u,d,Gu,<-d,show(tzl q).length+(Nm F (Xf xs) (Xg (Xf xs))).length-1-1=((tzl q).length-1)+((Nm F (Xf xs) (Xg (Xf xs))).length-1) by omega];grind [Zah,Yr]
  rcases gK 0 _ with z|z
  .omega
  .exfalso;have:=fG z (dV t);omega
def Oe(p:List Int):(Xg p).length=p.length-1:=Xc _ _
theorem Zzz{n:Nat}(c:Sz n p)(g:p.length<=25)(i:Nat):bl (cf p (i+1)*((i:Int)+1)).natAbs<=n+5:=by
 rcases bB (i+1) p.length with h|h
 .have d:=Yw (cf p (i+1)) ((i)+1);have e:=c (i+1);have f:bl ((i:Int)+1).natAbs<=5:=(Qq 5 _).2 O;omega
 grind [Yr,Kv]
theorem Zib(p:List Int)(i:Nat):cf (Xg p) i=cf p (i+1)*((i:Int)+1):=by unfold Xg;simp_all [Kk,Yr,cL]
theorem Gz{n:Nat}(d:Sz n p)(c:p.length<=25):Sz (n+5) (Xg p):=λi=>by simp_all [Zib,Zzz]
theorem Zgm(h:Vp p)(c:∀i,i<p.length->bl (cf p (i+1)*((i:Int)+1)).natAbs<=65536):Vp (Xg p):=by
 refine⟨λi=>?_,Np h.tr,by rw [Oe];have:=h.len;omega⟩;rw [Zib];by_cases hi:i<p.length
 .grind
 .rw [Yr O];simp [Kv]
def sf_t(h:xs.length=0):Value.bool (decide (Zda xs))= .bool true:=aD _ (aF (.inl h))
theorem sf_i{n:Int}(h:xs.length≠0)(c:n=(((xs.length+2)*(xs.length+2)*(Xw xs+16):Nat):Int)):Value.bool (decide (Zda xs))= .bool (decide (n<=65536)):=aD _ (bM.2 (by show(xs.length=0\/(xs.length+2)*(xs.length+2)*(Xw xs+16)<=65536)↔_;omega))
theorem Yfj(h:(Qp x y).length=0):Mr x y=[]:=by have c:=aC h;unfold Mr;rw [c];split<;>rfl
theorem Yqa(e:y.length<=x.length)(c:(cf y (y.length-1)).sign<0)(d:((x.length:Int)-(y.length:Int)+1)%2=1):Mr x y=Yg (Qp x y):=by unfold Mr;grind
theorem Ya5(c:¬(cf y (y.length-1)).sign<0):Mr x y=Zy (Yg (Qp x y)) (-1):=by unfold Mr;grind
theorem Ya4(d:y.length<=x.length)(c:¬((x.length:Int)-(y.length:Int)+1)%2=1):Mr x y=Zy (Yg (Qp x y)) (-1):=by unfold Mr;grind
theorem Zlq{F:Nat}(j:Vp xs)(k:xs≠[])(h:Yp9 F xs):Vp (sqf F xs):=by
 obtain⟨_,_,_,d,c⟩:=h;have g:=Zx9 j;unfold sqf Lq;split
 .grind
 .rename_i l;rcases c with c|c
  .grind
  .have e:=(Zct d).2 c.1;refine⟨?_,Xx _,?_⟩
   .rw [<-Zdv];exact(Ya1 e c.2.1).tzl
   .have f:=Md (Zh3 (Xf xs) (Nm F (Xf xs) (Xg (Xf xs))) ((Xf xs).length-(Nm F (Xf xs) (Xg (Xf xs))).length+1));rw [Zdv,Zax]at f;have:=g.len;grind [Zct]
theorem Zng{F:Nat}(d:Vp xs)(h:Yp9 F xs):(sqf F xs).length<=xs.length:=by
 obtain⟨_,_,_,e,c⟩:=h;have j:=Pq d.tr;unfold sqf Lq;split
 .simp
 .rename_i f;rcases c with c|c
  .grind
  .have g:=Md (Zh3 (Xf xs) (Nm F (Xf xs) (Xg (Xf xs))) ((Xf xs).length-(Nm F (Xf xs) (Xg (Xf xs))).length+1));grind [Zdv,Zax,Zct]
theorem Yeo{L:List Int}{n l:Int}(hi:i<L.length)(h:(n,l)=(L.take i).foldl Nh (0,0))(hs:L.getD i 0=s)(c:s=0):(n,l)=(L.take (i+1)).foldl Nh (0,0):=by rw [Qx 0 L i hi,Zcr,<-h];unfold Nh;grind
theorem Yen{L:List Int}{n l:Int}(hi:i<L.length)(h:(n,l)=(L.take i).foldl Nh (0,0))(hs:L.getD i 0=s)(c:s≠0)(d:s=-l):(n+1,s)=(L.take (i+1)).foldl Nh (0,0):=by rw [Qx 0 L i hi,Zcr,<-h];unfold Nh;grind
theorem Yem{L:List Int}{n l:Int}(hi:i<L.length)(h:(n,l)=(L.take i).foldl Nh (0,0))(hs:L.getD i 0=s)(c:s≠0)(d:¬s=-l):(n,s)=(L.take (i+1)).foldl Nh (0,0):=by rw [Qx 0 L i hi,Zcr,<-h];unfold Nh;grind
theorem Ytt{L:List Int}{n l:Int}(hi:L.length<=i)(h:(n,l)=(L.take i).foldl Nh (0,0)):n=chg L:=by rw [cC hi]at h;unfold chg;grind
theorem Yi3{z:Int}:-1<=z.sign/\z.sign<=1:=by grind
theorem Ylq{α:Type}{d:α}{f:α->Int}{ls:List α}(h:i<ls.length):(ls.map f).getD i 0=f (ls.getD i d):=by grind
def sgx(ls:List (SL×List Int))(f:List Int->Int):List Int:=ls.map λz=>f z.2
def Zuq(ls:List (SL×List Int))(f:List Int->Int)(h:i<ls.length):(sgx ls f).getD i 0=f (ls.getD i ((none,0,0),[])).2:=Ylq h
def Znh(ls:List (SL×List Int))(f:List Int->Int):(sgx ls f).length=ls.length:=aT ..
def fr(p:List Int):Int:=(cf p (p.length-1)).sign
def fl(p:List Int):Int:=if p.length%2=0 then-(cf p (p.length-1)).sign else(cf p (p.length-1)).sign
def Bh(x y:Int)(p:List Int):Int:=(pev p x y).sign
def fat_r(x y:Int)(p:List Int):-1<=Bh x y p/\Bh x y p<=1:=Yi3
theorem Zo2:∀(f:Nat) {x y:List Int},Vp x->Vp y->cok f x y->∀p∈Nz f x y,Vp p
 | 0,x,y,d,_,_,p,c=>by rw [cI.1 c];omega
 | f+1,x,y,d,e,h,p,c=>by
  unfold Nz at c;split at c
  .rw [cI.1 c];exact d
  .rcases h with h|h
   .contradiction
   .rcases bD.1 c with rfl|c
    .exact d
    .exact Zo2 f e (Zlr d h.1) h.2.2 p c
theorem Yhs{F:Nat}(j:Vp xs)(d:xs≠[])(h:Zbe F xs):∀p∈chn F xs,Vp p:=by obtain⟨e,f,g⟩:=h;have c:=Zlq j d e;exact Zo2 F c (Lp (Zgm c (λi hi=>f i (by grind [Zng])))) g
def cnt(F:Nat)(xs:List Int)(x y:Int):Int:=chg ((chn F xs).map (Bh x y))
theorem Ya7{C:List (List Int)}(h:ls.map Prod.snd=C)(f:List Int->Int):sgx ls f=C.map f:=by rw [<-h,gG];rfl
def Lg{C:List (List Int)}{p:List Int->Prop}(h:ls.map Prod.snd=C)(c:∀q∈C,p q):∀z∈ls,p z.2:=λz d=>c _ (h▸lO d)
theorem Zb1(L:List Int):0<=chg L/\chg L<=L.length:=by
 unfold chg;suffices h:∀(l:List Int) (s:Int×Int),s.1<=(l.foldl Nh s).1/\(l.foldl Nh s).1<=s.1+l.length by grind
 intro l
 induction l with
 | nil=>simp
 | cons x l c=>
  intro s;have d:=c (Nh s x);have e:=chg1_n s x;simp only [gN,bI];omega
theorem Zbc:∀(f:Nat) (x y:List Int),(Nz f x y).length<=f+1
 | 0,x,y=>aH _
 | f+1,x,y=>by
  unfold Nz;split
  .simp
  .have:=Zbc f y (Mr x y);simp;omega
def sm(xs:List Int)(i:Nat):Nat:=(xs.take i).foldl (λm c=>max m c.natAbs) 0
def Zf5{x y:Int}(h:¬Hh x y):Zac x y=x/Kh x y/\Dw x y=y/Kh x y/\Yjs x y=0:=⟨aJ h,aJ h,aJ h⟩
theorem nr_bl{x y:Int}(h:¬Hh x y):bl (Zac x y).natAbs<=65536/\bl (Dw x y).natAbs<=65536:=by obtain⟨c,d,_⟩:=Zf5 h;rw [c,d];unfold Hh at h;omega
theorem Zy9{x y:Int}(h:¬Hh x y)(c:0<y):0<Dw x y:=by simp_all [Zf5,Ygn]
abbrev R2:=Int×Int
def Nd(a b:R2):R2:=(Zac (Zac (a.1*b.2+b.1*a.2) (a.2*b.2)*1) (Dw (a.1*b.2+b.1*a.2) (a.2*b.2)*2),Dw (Zac (a.1*b.2+b.1*a.2) (a.2*b.2)*1) (Dw (a.1*b.2+b.1*a.2) (a.2*b.2)*2))
def Zfk(a b:R2):Prop:=¬Hh (a.1*b.2+b.1*a.2) (a.2*b.2)/\¬Hh (Zac (a.1*b.2+b.1*a.2) (a.2*b.2)*1) (Dw (a.1*b.2+b.1*a.2) (a.2*b.2)*2)
instance (a b:R2):Decidable (Zfk a b):=by unfold Zfk;infer_instance
def Ygh{a b:R2}(h:Zfk a b):Yjs (Zac (a.1*b.2+b.1*a.2) (a.2*b.2)*1) (Dw (a.1*b.2+b.1*a.2) (a.2*b.2)*2)=0:=(Zf5 h.2).2.2
def Yl5(c:R2->Int)(g:R2->Prop)(e:Int):Nat->R2->R2->Int->Int->Nat->Prop
 | 0,_,_,_,_,_=>False
 | f+1,a,b,fr,h,d=>fr=h\/(fr-h=1/\e<=(d:Int))\/(d<1000/\Zfk a b/\g (Nd a b)/\Yl5 c g e f a (Nd a b) fr (c (Nd a b)) (d+1)/\Yl5 c g e f (Nd a b) b (c (Nd a b)) h (d+1))
instance ispDec (c:R2->Int) (e:R2->Prop) [DecidablePred e] (g:Int):∀f a b fr h d,Decidable (Yl5 c e g f a b fr h d)
 | 0,_,_,_,_,_=>inferInstanceAs (Decidable False)
 | f+1,a,b,fr,h,d=>@instDecidableOr _ _ _ (@instDecidableOr _ _ _ (@instDecidableAnd _ _ _ (@instDecidableAnd _ _ _ (@instDecidableAnd _ _ _ (@instDecidableAnd _ _ (ispDec c e g f a (Nd a b) fr (c (Nd a b)) (d+1)) (ispDec c e g f (Nd a b) b (c (Nd a b)) h (d+1)))))))
def cvc(F:Nat)(xs:List Int)(m:R2):Int:=cnt F xs m.1 m.2
def slow(a:R2):R2:=(Zac a.1 a.2,Dw a.1 a.2)
open Go.RowKit Below
variable {P:Program} {N:Nat} {sc:Nat->Prop} {env env':Pt} {H H':Hp} {Q Q':Exit->Act->World->Prop} {M:Nat->Prop}
theorem Iq{β:Type}{q:β->Pc}{zs ys:List β}(i j n:Nat)(hi:lk H i=some (Nt q zs))(l:lk H j=some (Nt q ys))(d:Nat.beq i 0=false)(e:Nat.beq j 0=false) :
  ∀a w,Sat N sc env H a w->Sat N sc env ((n,Nt q (zs ++ ys))::H) a w:=
 Zyo i j n hi l d e rfl rfl (λw g k y f=>by
  rcases cP.1 f with h|h
  .exact g y h
  .exact k y h) (λb c=>by
  obtain⟨y,f,c⟩:=c;rcases cP.1 f with h|h
  .exact .inl ⟨y,h,c⟩
  .exact .inr ⟨y,h,c⟩) rfl
end Go.Sky
namespace Go.Sky
variable{M M0:Nat->Prop}{o:Oper}{x y:Operand}{t tb:TypeId}{b:Nat}{cs:Array Value}{v:Value}{vs:List Value}{zs:List (SL×List Int)}{r:List Pc}{z:SL×List Int}
variable {P:Program} {N:Nat} {sc:Nat->Prop} {env env':Pt} {H H':Hp} {Q Q':Exit->Act->World->Prop}
theorem Zuv(w:World)(g:Nat)(cs:Array Value)(t:TypeId){fr:Nat×Nat}(a:w.heap[g]? = some (.cells cs t fr)):w.setRow g cs=w:=by
 obtain⟨c,d⟩:=aR.1 a;have h:(w.setRow g cs).heap=w.heap:=by
  apply Array.ext_getElem?;intro i;by_cases h:g=i
  .subst h;rw [setRow_heap w g cs cs t fr a,a]
  .unfold World.setRow;dsimp only;rw [Array.getElem?_modify,aJ h]
 have e:w.setRow g cs={ w with heap:=(w.setRow g cs).heap }:=rfl;rw [e,h]
theorem Zpd (i:Nat)     {j k:Nat}    (s:o.op= .store t x y) (p:o.dst=none)
  (D:ev env x=some (.pointer (some ⟨b,j,none⟩))) (F:ev env y=some v) (m:lk H i=some (Hr b tb cs)) (B:v.cells=vs.toArray) (q:∀w,(sizeOf t).run P w= .ok k w) (d:vs.length=k)
  (c:Nat.ble (j+vs.length) cs.size=true) (l:∀u∈vs,u.oneCell'=true) (e:Fe cs j vs=cs) :
  T P N sc M o env H (G:=Unit) (λ_=>True) (λ_=>env) (λ_=>H):=λa w hs K Q n=>by
 have g:w.heap[b]? = some (.cells cs tb (0,0)):=hs.hold i _ m;have f:=run_storeCells_at P b j tb vs 0 cs w g (by simpa using gT c) l;simp only [eN]at f;have h:(execOp a.eval o).run P w= .ok .skip (w.setRow b (Fe cs j vs)):=by simp [execOp,s,hs.ev D,hs.ev F,Instr.storeAt,Instr.sureAddr,storeVar,B,q,d,f,Fe]
 rw [e,Zuv w b cs tb g]at h;unfold Oper.wp;rw [h];show K (a.put o.dst _) _;rw [p];exact n () _ _ aA (hs.put_none undef) (Chg.refl _ _)
def Ysp{c:Code}(h:E P N sc c (Exit.noGoto Q) env H):E P N sc (.scope c) Q env H:=λa w hs=>wp_scope_straight (h a w hs)
def Yas(h:X N sc .ret Q env H):X N sc .ret (Exit.noGoto Q) env H:=h
def Ysq{l:Nat}(h:X N sc .normal Q env H):E P N sc (.label l) Q env H:=λa w hs=>wp_label (h a w hs)
def t_stp1     {i j:Nat}   {f:World}  (n:o.op= .store t x y) (l:o.dst=none)
  (q:ev env x=some (.pointer (some ⟨b,j,none⟩))) (s:ev env y=some v) (h:lk H i=some (box b tb cs)) (d:i≠0) (m:∀w,(sizeOf t).run P w= .ok 1 w) (c:Nat.ble (j+1) cs.size=true) (e:One N sc env H v)
  (g:lk H 0=some (Xt f M0)) (p:∀b,f.heap.size<=b->sc b) (k:M b) :
  T P N sc M o env H (G:=Unit) (λ_=>True) (λ_=>env) (λ_=>(i,box b tb (Fe cs j [v]))::H):=λa w hs=>
 Yh2 _ (#[]) (vs:=[v]) n l q s h (Zq (e a w hs)) m rfl c ⟨e,aA⟩ g p k d a w hs
def Ykg{al:Bool}(i:Nat)(hi:lk H i=some (Qb 1 Nk (λy:SL×List Int=>Ym 2 wv (Xi y.1) y.2) v zs))(a:Nat.beq i 0=false)(c:z∈zs)(h:PreOk H al r):PreOk H al (Ym 2 wv (Xi z.1) z.2::r):=Zvp (q:=λy:SL×List Int=>Ym 2 wv (Xi y.1) y.2) (z:=z) i hi a c h
end Go.Sky
namespace Go.Sky
variable{v:Int}{o:Oper}{x y:Operand}{t tb:TypeId}{b i:Nat}{kd:IntKind}{M M0:Nat->Prop}{w0:World}{cs:Array Value}
variable {P:Program} {N:Nat} {sc:Nat->Prop} {env env':Pt} {H H':Hp} {Q Q':Exit->Act->World->Prop}
def Zaj(l:List Int):Array Value:=(l.map (Value.int .i64)).toArray
theorem Yfa(l:List Int):(Zaj l).size=l.length:=by simp [Zaj]
theorem Yhp{l:List Int}{j:Nat}(h:j<l.length):(Zaj l)[j]? = some (.int .i64 (l.getD j 0)):=by simp [Zaj,aN h,aK]
theorem Yho{l:List Int}{j:Nat}(h:j<l.length):Fe (Zaj l) j [.int .i64 v]=Zaj (l.set j v):=by unfold Fe Zaj;grind
theorem Ff (i:Nat)   {e:TypeId} {d k c:Nat}  {m:Int} (j:o.op= .indexAddr t x y) (n:ev env x=some (.pointer (some ⟨b,d,none⟩))) (p:ev env y=some (.int kd m))
  (l:P.underlying t=some (.array c e)) (h:∀w,(sizeOf e).run P w= .ok k w) (f:m=(i:Int):=by omega) (g:i<c:=by omega):Mk P N sc o env H (.pointer (some ⟨b,d+i*k,none⟩)):=λa w hs=>by
 subst f;simp [execOp,j,hs.ev n,hs.ev p,Instr.indexAt,Instr.sureAddr,asIntOf,run_underlying l,h,g,Ni]
theorem Yg5 (i:Nat){j:Nat}{l:List Int}(d:o.op= .load t x)(f:ev env x=some (.pointer (some ⟨b,j,none⟩)))(a:lk H i=some (box b tb (Zaj l)))(e:∀w,(isAgg t).run P w= .ok false w)(c:j<l.length:=by omega) :
  Mk P N sc o env H (.int .i64 (l.getD j 0)):=Zoz _ d f a e (Yhp c)
theorem d_lwa{k:Nat}{l:List Int}(d:o.op= .load t x)(g:ev env x=some (.pointer (some ⟨b,0,none⟩)))(a:lk H i=some (box b tb (Zaj l)))(e:∀w,(isAgg t).run P w= .ok true w)(c:∀w,(sizeOf t).run P w= .ok k w)(h:l.length=k) :
  Mk P N sc o env H (.agg (Zaj l)):=
 Yd3 d g a e c O4 (λn u f=>by simpa [Zaj]using f)
theorem Zye (i:Nat)     {j:Nat} {l:List Int}    (k:o.op= .store t x y) (f:o.dst=none)
  (p:ev env x=some (.pointer (some ⟨b,j,none⟩))) (q:ev env y=some (.int .i64 v)) (d:lk H i=some (box b tb (Zaj l))) (h:∀w,(sizeOf t).run P w= .ok 1 w) 
  (c:lk H 0=some (Xt w0 M0)) (n:∀b,w0.heap.size<=b->sc b) (e:M b) (a:i≠0:=by decide) (g:j<l.length:=by omega) :
  T P N sc M o env H (G:=Unit) (λ_=>True) (λ_=>env) (λ_=>(i,box b tb (Zaj (l.set j v)))::H):=by
 rw [<-Yho g];exact Zjp k f p q d a rfl h rfl (by grind [Yfa]) (λu m=>Zl (by rw [List.mem_singleton.1 m];rfl)) rfl c n e
theorem Yh1 (i:Nat)     {k:Nat}  {l:List Int}   (h:o.op= .store t x y) (f:o.dst=none)
  (n:ev env x=some (.pointer (some ⟨b,0,none⟩))) (p:ev env y=some (.agg (Zaj l))) (d:lk H i=some (box b tb cs)) (g:∀w,(sizeOf t).run P w= .ok k w) (r:l.length=k) (q:cs.size=k)
  (c:lk H 0=some (Xt w0 M0)) (m:∀b,w0.heap.size<=b->sc b) (e:M b) (a:i≠0:=by decide) :
  T P N sc M o env H (G:=Unit) (λ_=>True) (λ_=>env) (λ_=>(i,box b tb (Zaj l))::H):=
 Zjp h f n p d a rfl g O4 O4 (λu j=>Zl (by obtain⟨z,_,rfl⟩:=dZ.1 j;rfl)) (by unfold Fe Zaj;grind) c m e
def Ot:Nat->Nat->Nat
 | _,0=>1
 | 0,_+1=>0
 | n+1,k+1=>Ot n k+Ot n (k+1)
theorem Yaa:∀n k,Ot n k<=2^n
 | 0,0=>O3
 | _+1,0=>dL _
 | 0,_+1=>aV _
 | n+1,k+1=>by have a:=Yaa n k;have c:=Yaa n (k+1);show Ot n k+Ot n _<=2^(n+1);omega
theorem Zn8:∀n k,n<k->Ot n k=0
 | _,0,h=>absurd h (bG _)
 | 0,_+1,_=>rfl
 | n+1,k+1,h=>by show Ot n k+Ot n _=0;rw [Zn8 n k O,Zn8 n _ O]
structure Tab (l:List Int) (n k:Nat):Prop where
 len:l.length=625
 eq:∀r c,r<25->c<25->l.getD (r*25+c) 0=if r<n\/(r=n/\c<k)then(Ot r c:Int)else 0
theorem Zjb{l:List Int}{j:Nat}(hi:i<l.length:=by omega):(l.set i v).getD j 0=if j=i then v else l.getD j 0:=by grind
theorem Tab.start:Tab (List.replicate 625 0) 0 0:=⟨aS,λr c d a=>by grind⟩
theorem Tab.step{l:List Int}{n k:Nat}(h:Tab l n k)(m:n<25)(f:k<25)(p:v=(Ot n k:Int)){j:Nat}(e:j=n*25+k):Tab (l.set j v) n (k+1):=by have g:=h.len;refine⟨O4,λr c d a=>?_⟩;rw [Zjb,h.eq r c d a];grind
theorem Tab.row{l:List Int}{n k:Nat}(h:Tab l n k)(f:n<k):Tab l (n+1) 0:=⟨h.len,λr c e d=>by
 rw [h.eq r c e d];by_cases g:r<n\/(r=n/\c<k)
 .omega
 .rw [aJ g];by_cases a:r<n+1\/(r=n+1/\c<0)
  .rw [aM a,Zn8 r c O];rfl
  omega⟩
theorem Tab.get{l:List Int}{n k r c:Nat}(h:Tab l n k)(f:r<25)(d:c<25)(a:r<n\/(r=n/\c<k)){j:Nat}(e:j=r*25+c):l.getD j 0=(Ot r c:Int):=by rw [e,h.eq r c f d,aM a]
theorem Yej (n:Nat)(k:Nat)(c:1<=n:=by omega)(a:1<=k:=by omega):Ot n k=Ot (n-1) (k-1)+Ot (n-1) k:=by obtain⟨m,rfl⟩:∃m,n=m+1:=⟨n-1,O⟩;obtain⟨j,rfl⟩:∃j,k=j+1:=⟨k-1,O⟩;rfl
end Go.Sky
namespace Go.Sky
variable{t tb:TypeId}{parts:List (Nat×Value)}{cells:Array Value}{o:Oper}{x y:Operand}{kd:IntKind}{v0 v1 v2:Value}{b:Nat}{M M0:Nat->Prop}
structure Tb (l:List Int) (n k:Nat):Prop where
 len:l.length=36
 eq:∀r c,r<6->c<6->l.getD (r*6+c) 0=if r<n\/(r=n/\c<k)then(Ot r c:Int)else 0
theorem Tb.start:Tb (List.replicate 36 0) 0 0:=⟨aS,λr c d a=>by rw [aJ O,aK];rw [List.getElem?_replicate];split<;>rfl⟩
theorem Tb.step{l:List Int}{n k:Nat}{v:Int}(h:Tb l n k)(u:n<6)(s:k<6)(q:v=(Ot n k:Int)){j:Nat}(i:j=n*6+k):Tb (l.set j v) n (k+1):=by
 subst i;have m:=h.len;refine⟨by rw [cT];exact m,λr c p f=>?_⟩;rw [Zjb,h.eq r c p f];by_cases e:r*6+c=n*6+k
 .have a:r=n:=O;have d:c=k:=O;subst a;subst d;rw [aM rfl,aM O];exact q
 .rw [aJ e];have:¬(r=n/\c=k):=λ⟨a,d⟩=>e (by rw [a,d]);by_cases g:r<n\/(r=n/\c<k)
  .rw [aM g,aM O]
  .rw [aJ g,aJ O]
theorem Tb.row{l:List Int}{n k:Nat}(h:Tb l n k)(f:n<k):Tb l (n+1) 0:=⟨h.len,λr c e d=>by
 rw [h.eq r c e d];by_cases g:r<n\/(r=n/\c<k)
 .rw [aM g,aM O]
 .rw [aJ g];by_cases a:r<n+1\/(r=n+1/\c<0)
  .rw [aM a,Zn8 r c O];rfl
  .rw [aJ a]⟩
theorem Tb.get{l:List Int}{n k r c:Nat}(h:Tb l n k)(f:r<6)(d:c<6)(a:r<n\/(r=n/\c<k)){j:Nat}(e:j=r*6+c):l.getD j 0=(Ot r c:Int):=by rw [e,h.eq r c f d,aM a]
theorem Yab (k:Nat){n:Nat}(h:n<=5:=by omega):Ot n k<=32:=aB (Yaa n k) (aB (cW O3 h) O3)
theorem Cd {P:Program} {e:TypeId} {n:Nat} {c a:TypeInfo} {z:Value}   (hi:P.info? t=some c) (g:P.underlying t=some (.array n e)) (h:c.zero=some z) (d:P.info? e=some a)
  (f:Instr.fill (λi=>some (i*a.size,a.size)) z.cells parts=some cells):P.built t parts=some cells:=by
 unfold Program.built;simp only [hi,g,h,d,f]
variable {P:Program} {N:Nat} {sc:Nat->Prop} {env env':Pt} {H H':Hp} {Q Q':Exit->Act->World->Prop}
def Zw{α:Type _}(i:Nat)(a b c:α):α:=match i with
 | 0=>a
 | 1=>b
 | _=>c
theorem Em{α:Type _}{p:α->Prop}{i:Nat}{a b c:α}(d:p a)(e:p b)(f:p c):p (Zw i a b c):=by unfold Zw;split<;>assumption
theorem Zqg (i:Nat)   {e:TypeId}   {m:Int}  (j:o.op= .index t x y) (l:ev env x=some (.agg #[v0,v1,v2])) (n:ev env y=some (.int kd m))
  (k:P.underlying t=some (.array 3 e)) (g:∀w,(sizeOf e).run P w= .ok 1 w) (f:∀w,(isAgg e).run P w= .ok false w) (c:m=(i:Int)) (h:i<3:=by omega):Mk P N sc o env H (Zw i v0 v1 v2):=λa w hs=>by
 subst c;have d:i=0\/i=1\/i=2:=O;rcases d with rfl|rfl|rfl<;>simp [execOp,j,hs.ev l,hs.ev n,Instr.index,asIntOf,run_underlying k,g,f,asAgg,part,Zw]
theorem Zdb {α:Type} {k:Nat} {enc:α->Value}  {f g j:List α} (i c d e n:Nat) (l:lk H c=some (Ym k enc v0 f)) (m:lk H d=some (Ym k enc v1 g)) (p:lk H e=some (Ym k enc v2 j))
  (q:Nat.beq c 0=false) (r:Nat.beq d 0=false) (s:Nat.beq e 0=false):∀a w,Sat N sc env H a w->Sat N sc env ((n,Ym k enc (Zw i v0 v1 v2) (Zw i f g j))::H) a w:=by
 match i with
 | 0=>exact Zbl c n l q rfl (λw h=>h) (λb h=>h) rfl
 | 1=>exact Zbl d n m r rfl (λw h=>h) (λb h=>h) rfl
 | i+2=>exact Zbl e n p s rfl (λw h=>h) (λb h=>h) rfl
theorem Zxh (i:Nat)(j:Nat){α:Type}{k:Nat}{enc:α->Value}{l:List α}(d:α)(n:o.op= .load t x)(s:ev env x=some (.pointer (some ⟨b,0+j*k,none⟩)))(g:lk H i=some (box b tb (cellsOf enc l).toArray))(e:Enc P t k enc)(m:j<l.length) :
  Mk P N sc o env H (enc (l.getD j d)):=λa w hs=>by
 have hi:l[j]? = some (l.getD j d):=by simp [List.getD,aN m]
 have h:=e.load (l.getD j d) w ⟨b,0+j*k,none⟩ (λq u p=>by have f:=Gh e.cells l j _ hi q u p;rw [Ni,hs.boxc g];simpa using f)
 have c:=hs.ev s;generalize enc (l.getD j d)=r at h ⊢;generalize (⟨b,0+j*k,none⟩:Addr)=v at h c;simp [execOp,n,c,Instr.loadAt,Instr.sureAddr,h]
theorem t_sbe (i:Nat)(j:Nat)(k:Nat) {α:Type}      {enc:α->Value} {l:List α} (z:α) {g:World}  (r:o.op= .store t x y) (p:o.dst=none)
  (w:ev env x=some (.pointer (some ⟨b,0+j*k,none⟩))) (B:ev env y=some (enc z)) (m:lk H i=some (box b tb (cellsOf enc l).toArray)) (a:Enc P t k enc) (f:j<l.length)
  (h:lk H 0=some (Xt g M0)) (v:∀b,g.heap.size<=b->sc b) (n:M b) (c:i≠0:=by decide) :
  T P N sc M o env H (G:=Unit) (λ_=>True) (λ_=>env) (λ_=>(i,box b tb (cellsOf enc (l.set j z)).toArray)::H):=by
 have q:=Xm a.cells l;have e:(enc z).cells.toList.length=k:=by simp [a.cells]
 have d:(j+1)*k<=l.length*k:=aL _ f;rw [dO]at d;refine Zjp (vs:=(enc z).cells.toList) r p w B m c rfl a.size e (by rw [e,mI,q];omega) (λu s=>Zl (a.one z u s)) ?_ h v n;unfold Fe;rw [cJ,e,Zd3 a.cells l j z f]
end Go.Sky
namespace Go.Sky
variable{o:Oper}{x:Operand}{t tb te:TypeId}{M M0:Nat->Prop}{cs:Array Value}
variable {P:Program} {N:Nat} {sc:Nat->Prop} {env env':Pt} {H H':Hp} {Q Q':Exit->Act->World->Prop}
theorem d_lea{α:Type}{i b k q:Nat}{enc:α->Value}{l:List α}(f:o.op= .load t x)(j:ev env x=some (.pointer (some ⟨b,0,none⟩)))(a:lk H i=some (box b tb (cellsOf enc l).toArray))(c:Enc P te q enc)(g:∀w,(isAgg t).run P w= .ok true w)(d:∀w,(sizeOf t).run P w= .ok k w)(e:l.length*q=k) :
  Mk P N sc o env H (.agg (cellsOf enc l).toArray):=
 Yd3 (vs:=cellsOf enc l) f j a g d (by rw [Xm c.cells l];exact e) (λn u h=>by rw [cJ];simpa using h)
theorem t_sea {α:Type}   {y:Operand}  {i b k q:Nat}  {enc:α->Value} {l:List α} {f:World}  (s:o.op= .store t x y) (n:o.dst=none)
  (B:ev env x=some (.pointer (some ⟨b,0,none⟩))) (D:ev env y=some (.agg (cellsOf enc l).toArray)) (h:lk H i=some (box b tb cs)) (a:i≠0) (d:Enc P te q enc) (p:∀w,(sizeOf t).run P w= .ok k w) (r:l.length*q=k) (m:cs.size=k)
  (g:lk H 0=some (Xt f M0)) (v:∀b,f.heap.size<=b->sc b) (j:M b) :
  T P N sc M o env H (G:=Unit) (λ_=>True) (λ_=>env) (λ_=>(i,box b tb (cellsOf enc l).toArray)::H):=by
 have c:(cellsOf enc l).length=k:=by rw [Xm d.cells l];exact r
 refine Zjp (vs:=cellsOf enc l) s n B D h a rfl p c (by rw [c,cJ,m];exact aH _) (λu e=>?_) (by unfold Fe;rw [dW,eE,cJ,List.drop_eq_nil_of_le O9,eW]) g v j
 unfold cellsOf at e;obtain⟨z,_,F⟩:=iW.1 e;exact Zl (d.one z u F)
end Go.Sky
namespace Go.Sky
variable {P:Program} {N:Nat} {sc:Nat->Prop} {env env':Pt} {H H':Hp} {Q Q':Exit->Act->World->Prop}
abbrev Zt:=(Int×Int×Int)×(SL×List Int)×(SL×List Int)×(SL×List Int)
abbrev Qt (g:Zt):Value:= .agg #[.int .i64 g.1.1,.int .i64 g.1.2.1,.int .i64 g.1.2.2,Xi g.2.1.1,Xi g.2.2.1.1,Xi g.2.2.2.1]
abbrev qC (z:SL×List Int):Pc:=Ym 1 Yd (Xi z.1) z.2
abbrev qG (g:Zt):Pc:=Nt qC [g.2.1,g.2.2.1,g.2.2.2]
abbrev G0:Zt:=((0,0,0),((none,0,0),[]),((none,0,0),[]),((none,0,0),[]))
def Od (g:Zt)(z:SL×List Int){v:Value}{ps:List Zt}(j n:Nat)(i:lk H j=some (Qb 6 Qt qG v ps))(c:Nat.beq j 0=false)(d:g∈ps)(e:z∈[g.2.1,g.2.2.1,g.2.2.2]):∀a w,Sat N sc env H a w->Sat N sc env ((n,Ym 1 Yd (Xi z.1) z.2)::H) a w:=
 Zbl j n i c rfl (λw h=>h.2 g d z e) (λb f=> .inr ⟨g,d,z,e,f⟩) rfl
end Go.Sky
namespace Go.Sky
variable{x c z y:List Int}{i:Nat}{over ov:Int}
theorem Dq{x:Int}(h:Mw x):bl x.natAbs<=64:=(Qq 64 _).2 (by obtain⟨a,b⟩:=h;omega)
theorem in_bl{x:Int}(h:bl x.natAbs<=63):Mw x:=by have:=(Qq 63 x.natAbs).1 h;exact⟨O,O⟩
theorem bl_pw{n:Int}(h:bl n.natAbs<=100)(hi:i<=10):bl (n^i).natAbs<=1000:=by
 rcases aZ i with a|a
 .subst a;rw [dC];decide
 .exact aB (Fi n h i a) (by have:=aL 100 hi;omega)
def zc6_eq:(Value.agg (List.replicate 36 (Value.int .i64 0)).toArray).cells=Zaj (List.replicate 36 0):=rfl
def Zt0:(Value.agg (List.replicate 36 (Value.int .i64 0)).toArray).cells.size=36:=rfl
def w60(n j k:Nat):Int:=60/(Ot n k:Int)*(Ot j k:Int)
def ctl(c:List Int)(j m:Nat):Int:=Yl (λk=>c.getD k 0*w60 (c.length-1) j k) m
def Ynw(c:List Int)(j m:Nat):ctl c j (m+1)=ctl c j m+c.getD m 0*w60 (c.length-1) j m:=rfl
theorem Ztf:∀{n k:Nat},k<=n->0<Ot n k
 | n,0,_=>by cases n<;>exact Nat.one_pos
 | n+1,k+1,h=>by have:=Ztf (n:=n) (k:=k) O;show 0<Ot n k+Ot n (k+1);omega
theorem Yhq (n:Nat)(k:Nat){j:Nat}(d:j<=5):0<=w60 n j k/\w60 n j k<=1920:=by have e:=Yab k d;unfold w60;have a:(0:Int)<=60/(Ot n k:Int):=iM O3 O;have b:(60:Int)/(Ot n k:Int)<=60:=kH _ O3;refine⟨cY a O,?_⟩;have:=iS b (show(Ot j k:Int)<=32 by omega) O O3;omega
theorem Yah (k:Nat){n j:Nat}(a:j<=5):bl (w60 n j k).natAbs<=11:=by have:=Yhq n k a;exact(Qq 11 _).2 O
theorem Fh(h:∀x∈c,Mw x)(k:Nat):Mw (c.getD k 0):=by
 by_cases a:k<c.length
 .exact h _ (Zd a)
 .rw [aK,cF O];exact⟨O3,O3⟩
theorem Yol(h:∀x∈c,Mw x){j m:Nat}(a:j<=5)(b:m<=31):bl (ctl c j m).natAbs<=80:=
 Zli (K:=75) (λk _=>by have d:=Dq (Fh h k);have e:=Yah k (n:=c.length-1) a;have:=Yw (c.getD k 0) (w60 (c.length-1) j k);omega) b
def Zjf(c:List Int)(over:Int):Bool:=(List.range c.length).all λj=>decide ((ctl c j (j+1)).natAbs<=62914560*over)
theorem Ztm(h:∀j,j<c.length->((ctl c j (j+1)).natAbs:Int)<=62914560*over):Zjf c over=true:=by unfold Zjf;rw [bZ];intro j a;exact aF (h j (fU.1 a))
theorem bndB_f{j:Nat}(a:j<c.length)(h:¬((ctl c j (j+1)).natAbs:Int)<=62914560*over):Zjf c over=false:=by
 cases hb:Zjf c over with
 | false=>rfl
 | true=>
  unfold Zjf at hb;rw [bZ]at hb;exact absurd (bW (hb j (fU.2 a))) h
theorem wc_abs{s:Int}:(#[.bool false,.string (Qw s.natAbs)]:Array Value)=wc (s.natAbs:Int):=by have:decide (((s.natAbs:Nat):Int)<0)=false:=aE O;rw [show wc (s.natAbs:Int)=#[.bool (decide (((s.natAbs:Nat):Int)<0)),.string (Qw ((s.natAbs:Nat):Int).natAbs)]from rfl,this,dB]
theorem sgp{z:Int}:0<z.sign↔0<z:=by simpa using El z
def axB(c:List Int)(over:Int):Bool:=decide (1<=c.length) && decide (c.length<=6) && !(decide (1<c.length) && decide (c.getD (c.length-1) 0=0)) && Zjf c over
def Lk(g:Int):List Int->Int
 | []=>g
 | x::r=>Lk (Int.gcd g x) r
theorem Ew:∀(a b:List Int) (g:Int),Lk g (a ++ b)=Lk (Lk g a) b
 | [],_,_=>rfl
 | x::a,b,g=>Ew a b _
theorem Zex{l:List Int}(g:Int)(h:i<l.length):Lk g (l.take (i+1))=(Int.gcd (Lk g (l.take i)) (l.getD i 0):Int):=by rw [Qx 0 _ _ h,Ew];rfl
theorem Zid:∀{l:List Int} {g:Int} {m:Nat},(∀x∈l,bl x.natAbs<=m)->bl g.natAbs<=m->bl (Lk g l).natAbs<=m
 | [],_,_,_,h=>h
 | x::l,g,m,h,hg=>Zid (l:=l) (λy a=>h y (bX _ a)) (aB (Ztq g x) (by have:=h x (cH ..);omega))
def Zyd(fr a ov:Int):Bool:=decide (0<=fr) && decide (fr<a) && decide (a<=3600000) && decide (1<=ov) && decide (ov<=4294967296)
def Zak(fr a ov:Int)(x y z:List Int):Bool:=Zyd fr a ov && axB x ov && axB y ov && axB z ov && decide (Lk ov (x ++ y ++ z)=1)
def Ib(i:Nat)(x y z:List Int):List Int:=match i with
 | 0=>[]
 | 1=>x
 | 2=>x ++ y
 | _=>x ++ y ++ z
theorem Za3(x y z:List Int)(h:i<3):Ib (i+1) x y z=Ib i x y z ++ Zw i x y z:=by
 match i,h with
 | 0,_=>rfl
 | 1,_=>rfl
 | 2,_=>rfl
theorem Zmb (i:Nat){fr a:Int}(h:axB (Zw i x y z) ov=false):Zak fr a ov x y z=false:=by unfold Zak;revert h;unfold Zw;split<;>intro h<;>simp [h]
theorem Zly{fr a:Int}(h:¬(0<=fr/\fr<a/\a<=3600000/\1<=ov/\ov<=4294967296)):Zak fr a ov x y z=false:=by
 cases hb:Zak fr a ov x y z with
 | false=>rfl
 | true=>
  unfold Zak Zyd at hb;simp only [aY,eJ]at hb;exact absurd O h
theorem Zx1(h:1<=c.length->c.length<=6->¬(1<c.length/\c.getD (c.length-1) 0=0)->Zjf c ov=true->False):axB c ov=false:=by
 cases hb:axB c ov with
 | false=>rfl
 | true=>
  unfold axB at hb;simp only [aY,fM,iU,eJ,fT]at hb;exact(h hb.1.1.1 hb.1.1.2 (λb=>by rcases hb.1.2 with a|a;exact a b.1;exact a b.2) hb.2).elim
theorem Yoy(b:1<=c.length)(d:c.length<=6)(e:¬(1<c.length/\c.getD (c.length-1) 0=0))(f:Zjf c ov=true):axB c ov=true:=by
 unfold axB;simp only [aY,fM,iU,eJ,fT];refine⟨⟨⟨b,d⟩,?_⟩,f⟩;by_cases a:1<c.length
 .exact .inr λg=>e ⟨a,g⟩
 .exact .inl a
theorem segB_e{fr d:Int}(a:0<=fr/\fr<d/\d<=3600000/\1<=ov/\ov<=4294967296)(b:∀k,k<3->axB (Zw k x y z) ov=true):Zak fr d ov x y z=decide (Lk ov (Ib 3 x y z)=1):=by have e:axB x ov=true:=b 0 O3;have f:axB y ov=true:=b 1 O3;have g:axB z ov=true:=b 2 O3;unfold Zak Zyd;rw [aF a.1,aF a.2.1,aF a.2.2.1,aF a.2.2.2.1,aF a.2.2.2.2,e,f,g];rfl
def Za0(b:∀a∈x,Mw a)(d:∀a∈y,Mw a)(e:∀a∈z,Mw a)(i:Nat):∀a∈Zw i x y z,Mw a:=Em (p:=λl=>∀a∈l,Mw a) b d e
theorem bl_fc(d:∀a∈x,Mw a)(e:∀a∈y,Mw a)(f:∀a∈z,Mw a)(g:bl ov.natAbs<=64)(i k:Nat):bl (Lk (Lk ov (Ib i x y z)) ((Zw i x y z).take k)).natAbs<=64:=by
 refine Zid (λa b=>Dq (Za0 d e f i a (fP b))) (Zid (λa b=>Dq ?_) g);unfold Ib at b;split at b
 .cases b
 .exact d a b
 .rcases cP.1 b with h|h
  .exact d a h
  .exact e a h
 .rcases cP.1 b with h|h
  .rcases cP.1 h with h|h
   .exact d a h
   .exact e a h
  .exact f a h
end Go.Sky

