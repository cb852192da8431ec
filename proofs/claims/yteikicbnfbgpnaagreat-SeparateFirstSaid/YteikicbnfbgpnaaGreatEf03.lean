/- Rules, arithmetic and contracts: part 4. No conditions but those that each theorem names. -/
import Derived.Test.YteikicbnfbgpnaaGreatEf02
import Derived.Scope
set_option linter.all false
namespace Go.Sky
variable{P:Program}{sc M:Nat->Prop}{ops:Array Oper}{F i:Nat}{rest:List (Nat×Nat)}{b a s c:List Int}
abbrev RW:=List (Bool×ByteArray)
abbrev qR (z:SL×RW):Pc:=Yy 2 Zzc (Xl z.1) z.2
abbrev qZ (z:SL×List Int):Pc:=Yy 2 wv (Xl z.1) z.2
abbrev R0:SL×RW:=((none,0,0),[])
def short1(r:RW):Bool:=(decide (r.length<=14) || decide (r.length=26)) && r.all λc=>decide (c.2.size<=16)
def shortb(d:List RW):Bool:=d.all short1
def Zfu  {N:Nat}   {env:Pu} {H:Hp}  {F:Pu->Hp->Prop}   {o:Oper} {G:Type} {φ:G->Prop} {d:G->Pu} {k:G->Hp} {j e:Nat} {b:Bool} (p:ops[i]? = some o) (m:o.guard=some (j,b)) (n:(ops[j]?).bind (·.dst)=some e) (l:lk env e=some (.bool b)) (f:Nat.blt e N=true) (q:T P N sc M o env H φ d k)
  (h:∀g,φ g->LD P N sc M ops F rest (d g) (k g)) :
  LD P N sc M ops F ((i,1)::rest) env H:=r1g q p m n l f h
theorem Am (k:Nat){f:Nat->Int} : ∀{n:Nat},k<n->(∀i,i<n->i≠k->f i=0)->Yj f n=f k
 | 0,d,_=>absurd d (bN _)
 | n+1,d,h=>by
  rw [Ym];by_cases e:k=n
  .subst e;rw [Gi λi hi=>h i O O,kM]
  .rw [h n O5 (λx=>e x.symm),Am _ O (λi hi=>h i O),eZ]
theorem Zaa{p q:List Int}{a b:Nat}(e:∀i,a<i->cf p i=0)(f:∀i,b<i->cf q i=0):(ps p*ps q).c (a+b)=cf p a*cf q b:=by
 rw [PS.mul_c,Am a O λi hi d=>?_]
 .grind [Nf]
 .rw [Nf,Nf];grind
theorem Zg8(s e:List Int)(c d:Int)(f:PS)(t:Nat):(ps (Ei (Zr s c) (Zr e d))*f).c t=c*(ps s*f).c t-d*(ps e*f).c t:=by rw [PS.mul_c,PS.mul_c,PS.mul_c,<-Md,eU,<-Int.neg_mul,<-Md,<-Fv];refine Xg λk _=>?_;rw [Nf,Nf,Nf,Ih,Yi,Yi];grind
theorem Zvs(f:PS)(q d:List Int)(u v:Int)(h:∀i,u*cf q i=v*cf d i)(t:Nat):u*(f*ps q).c t=v*(f*ps d).c t:=by grind [PS.mul_c,Md,Xg,Nf]
theorem Yb7{q r:List Int}(j:Tr q)(f:q≠[])(h:∀t,(ps s*ps q).c t=cf r t)(o:∀t,q.length-1<=t->cf r t=0):∀t,cf s t=0:=by
 have d:=j.mem f;have hs:tzl s=[]:=by
  rcases Zkh _ with g|⟨u,y,g⟩
  .omega
  .have k:=Qj s;have e:tzl s≠[]:=O10;have l:=k.mem e;have m:=Zaa (p:=tzl s) (q:=q) (a:=(tzl s).length-1) (b:=q.length-1) (λi hi=>Yn O) (λi hi=>Yn O);have n:ps _=ps s:=PS.ext' λi=>Lb s i;grind [Int.mul_eq_zero]
 grind [Km]
theorem Lz(h:∀t,cf s t=0)(f:PS)(t:Nat):(ps s*f).c t=0:=by simp_all [PS.mul_c,Gi,Nf,cN]
theorem Ow{p q:List Int}(f:Tr p)(g:Tr q)(d:p≠[])(e:q≠[]):(Qt p q).length=p.length+q.length-1:=by have h:=aD.2 d;have j:=aD.2 e;unfold Qt;rw [Al,Yt];right;rw [Yt,Nv,aM O,show p.length+q.length-1-1=(p.length-1)+(q.length-1) by omega,Zaa (λi hi=>Yn O) (λi hi=>Yn O)];exact bC (f.mem d) (g.mem e)
def mono(s:Nat)(c:Int):List Int:=List.replicate s 0 ++ [c]
theorem Zk8(s:Nat)(c:Int)(i:Nat):cf (mono s c) i=if i=s then c else 0:=by
 unfold mono;rw [Zez];split
 .unfold cf;grind
 .split
  .rename_i d;subst d;simp [cf]
  grind [Yn]
theorem Zmr(s:Nat)(c:Int)(f:PS)(t:Nat):(ps (mono s c)*f).c t=if s<=t then c*f.c (t-s)else 0:=by
 rw [PS.mul_c];split
 .rw [Am s O λi _ d=>by rw [Nf,Zk8,aG d,cN],Nf,Zk8,aM rfl]
 .exact Gi λk e=>by rw [Nf,Zk8,aG O,cN]
theorem Zik{p q:List Int}(o:0<q.length)(n:q.length<=p.length):∀j,j<=p.length-q.length+1->∃s:List Int,∀t,cf q (q.length-1)^j*cf p t=(ps s*ps q).c t+cf (Pg p q j) t
 | 0,_=>⟨[],λt=>by rw [Lz (λt=>Yn (bA _))];unfold Pg;simp⟩
 | j+1,y=>by
  obtain⟨s,r⟩:=Zik o n j O;refine⟨Ei (Zr s (cf q (q.length-1))) (Zr (mono (p.length-1-j-(q.length-1)) (cf (Pg p q j) (p.length-1-j))) (-1)),λt=>?_⟩;rw [Zg8,Zmr];have d:=r t;show _=_+cf (Zfb q _ _) t;rw [dG];rcases aX t p.length with h|h
  .rw [Zhw (by grind [Py])];generalize p.length-1-j-(q.length-1)=f;generalize cf (Pg p q j) t=k at d ⊢;generalize (ps s*ps q).c t=X at d ⊢;generalize cf q _^j=L at d ⊢;generalize cf q _=l at d ⊢;have e:L*l*cf p t=l*X+k*l:=O4;rw [e];by_cases m:f<=t
   .rw [aM m,Nf];by_cases x:t<f+q.length
    .omega
    .rw [Yn (p:=q) (i:=t-_) O];simp
   omega
  .have g:=Yn h;have u:cf (Pg p q j) t=0:=Yn (by grind [Py]);have v:cf (Zfb q (Pg p q j) (p.length-1-j)) t=0:=Yn (by grind [Zhd,Py]);have w:cf q (t-(p.length-1-j-(q.length-1)))=0:=Yn O;rw [g,u,eZ]at d;rw [g,v,Nf,w,<-d];simp
theorem Cx(p:List Int){q:List Int}(e:q≠[]):∃(k:Nat) (s:List Int),∀t,cf q (q.length-1)^k*cf p t=(ps s*ps q).c t+cf (Qn p q) t:=by
 have d:=aD.2 e;rcases aX p.length q.length with h|h
 .refine⟨0,[],λt=>?_⟩;rw [Lz (λt=>Yn (bA _))];unfold Qn;grind
 .obtain⟨s,hs⟩:=Zik d h _ (aI _);refine⟨p.length-q.length+1,s,λt=>?_⟩;unfold Qn;simp_all [aG,Lb]
theorem Pe(p:List Int){q:List Int}(e:q≠[]):(Qn p q).length<q.length:=by
 have d:=aD.2 e;unfold Qn;split
 .omega
 .have:=Zb6 (p:=Pg p q _) λi hi=>Zfs d O _ (aI _) i O;omega
theorem Kn{p q:List Int}(d:Tr p):Tr (Qn p q):=by unfold Qn;grind [Qj]
def Sim(a b:List Int):Prop:=∃m n:Int,m≠0/\n≠0/\∀i,m*cf a i=n*cf b i
def Sim.refl(a:List Int):Sim a a:=⟨1,1,O,O,λ_=>rfl⟩
def Sim.symm : Sim a b->Sim b a:=λ⟨m,n,d,e,h⟩=>⟨n,m,e,d,λi=>(h i).symm⟩
def Sim.trans : Sim a b->Sim b c->Sim a c:=λ⟨m,n,d,e,h⟩ ⟨u,v,f,g,k⟩=>
 ⟨m*u,n*v,bC d f,bC e g,λi=>O4⟩
theorem Sim.zero(h:Sim a b)(hi:cf a i=0):cf b i=0:=by obtain⟨m,n,d,e,h⟩:=h;grind [Int.mul_eq_zero]
theorem Sim.len_le(h:Sim a b)(e:Tr b):b.length<=a.length:=by
 rcases aX a.length b.length with f|f
 .exfalso;have d:b≠[]:=aD.1 O;exact e.mem d (h.zero (Yn O))
 omega
def Sim.len(h:Sim a b)(d:Tr a)(e:Tr b):a.length=b.length:=jH (h.symm.len_le d) (h.len_le e)
theorem Sim.nil(h:Sim a b)(d:Tr b)(e:a=[]):b=[]:=by have:=h.len_le d;simp_all
theorem Yfh{g d:List Int}(Y:Tr a)(N:Tr g)(x:Tr b)(h:Tr d)(o:b≠[])(H:Sim a g)(r:Sim b d):Sim (Qn a b) (Qn g d):=by
 have f:d≠[]:=λe=>o (r.symm.nil x e);have B:=r.len x h;obtain⟨k,s,hs⟩:=Cx a o;obtain⟨y,Q,j⟩:=Cx g f;have I:cf b (b.length-1)^k≠0:=Mh (x.mem o) k;have w:cf d (d.length-1)^y≠0:=Mh (h.mem f) y;generalize cf b (b.length-1)^k=L at hs I;generalize cf d (d.length-1)^y=q at j w;obtain⟨m,n,Z,hn,D⟩:=H;obtain⟨u,v,hu,hv,G⟩:=r;have l1:=Pe a o;have l2:=Pe g f;have l:∀t,(ps (Ei (Zr s (q*m*v)) (Zr Q (L*n*u)))*ps d).c t=cf (Ei (Zr (Qn g d) (L*n*u)) (Zr (Qn a b) (q*m*u))) t:=λt=>by rw [Zg8,Ih,Yi,Yi];have R:=hs t;have S:=j t;have V:=D t;have W:=Zvs (ps s) b d u v G t;grind
 have z:=Yb7 h f l λt ht=>by rw [Ih,Yi,Yi,Yn (p:=Qn g d) O,Yn (p:=Qn a b) O];simp
 refine⟨q*m*u,L*n*u,by simp [*],by simp [*],λt=>?_⟩;have:=l t;rw [Lz z,Ih,Yi,Yi]at this;grind
theorem Zct(c:Int):∀(p:List Int) (g:Int),0<=g->(p.map (· * c)).foldl (λg c=>(Int.gcd g c:Int)) (g*c.natAbs)=p.foldl (λg c=>(Int.gcd g c:Int)) g*c.natAbs
 | [],g,_=>rfl
 | x::p,g,hg=>by
  rw [bP,gC,gC,<-Zct c p _ O5];congr 1;have:Int.gcd (g*(c.natAbs)) (x*c)=Int.gcd g x*c.natAbs:=by unfold Int.gcd;grind [Int.natAbs_mul,Int.natAbs_natCast,Nat.gcd_mul_right]
  omega
theorem Zir(p:List Int)(c:Int):Yw (p.map (· * c))=Yw p*c.natAbs:=by have:=Zct c p 0 (eN _);rw [cN]at this;exact this
theorem Gm(p:List Int)(i:Nat):cf (Zz p) i*Yw p=cf p i:=by grind [Zdv,Int.ediv_mul_cancel,Kj]
theorem Yfi:Zz []=[]:=rfl
theorem Cz{p:List Int}(h:Tr p)(d:p≠[]):Yw p≠0:=λe=>h.mem d ((Zdd p).1 e _)
theorem Kp{p:List Int}(h:Tr p)(d:p≠[]):Yw (Zz p)=1:=by
 have f:=Cz h d;have e:=Zir (Zz p) (Yw p);rw [show(Zz p).map _=p from Ik (by rw [aT,Zw]) λi _=>by grind [Zf5,Gm]]at e;have g:=Nr p;have j:Yw p*(Yw (Zz p)-1)=0:=by grind
 all_goals grind [Int.mul_eq_zero]
theorem Zgx{p:List Int}(h:Yw p=1):Zz p=p:=Ik (Zw p) λi _=>by rw [Zdv,h,Int.ediv_one]
theorem Zfw{p:List Int}(h:Tr p):Zz (Zz p)=Zz p:=by
 by_cases d:p=[]
 .subst d;rfl
 grind [Zgx,Kp]
theorem Ql{p:List Int}(h:Tr p):Sim (Zz p) p:=by
 by_cases d:p=[]
 .subst d;exact Sim.refl _
 .exact⟨Yw p,1,Cz h d,O,λi=>by grind [Gm]⟩
def Xc(p:List Int):List Int:=Lr (Zz p)
theorem Zlu{x y:List Int}(o:Tr x)(p:Tr y)(q:x≠[])(d:Yw x=1)(f:Yw y=1)(h:Sim x y):x=y\/∀i,cf x i=- cf y i:=by
 have r:=h.len o p;obtain⟨m,n,t,l,e⟩:=h;have g:=Zir x m;have j:=Zir y n;rw [show x.map _=y.map (· * n)from Ik O4 λi _=>by grind [Zf5,Int.mul_comm],j,d,f]at g
 have k:m=n\/m=-n:=O;rcases k with rfl|rfl
 .grind [Ik,Int.eq_of_mul_eq_mul_left]
 .exact .inr λi=>jB l O4
theorem Dj(g:List Int)(i:Nat):cf (Lr g) i=if g.length≠0/\cf g (g.length-1)<0 then-cf g i else cf g i:=by unfold Lr;grind [Yi]
theorem Nc{g:List Int}(h:Tr g):Tr (Lr g):=by unfold Lr;grind [Qk]
theorem Hm(g:List Int):Sim (Lr g) g:=by
 by_cases h:g.length≠0/\cf g (g.length-1)<0
 .exact⟨-1,1,O,O,λi=>by simp_all [Dj,aM]⟩
 .exact⟨1,1,O,O,λi=>by rw [Dj,aG h]⟩
theorem Zrp(g:Tr a)(j:Tr b)(h:Sim a b):Xc a=Xc b:=by
 by_cases d:a=[]
 .rw [h.nil j d,d]
 .have l:=λe=>d (h.symm.nil g e);have hs:=(Ql g).trans (h.trans (Ql j).symm);have m:=Yu g;have k:=Yu j;have n:=hs.len m k;have f:Zz a≠[]:=λe=>d (aC (by grind [Zw]));rcases Zlu m k f (Kp g d) (Kp j l) hs with e|e
  .unfold Xc;grind
  .unfold Xc;refine(Nc m).ext (Nc k) λi=>?_;rw [Dj,Dj];have o:cf (Zz b) ((Zz a).length-1)≠0:=by rw [n];exact k.mem (λp=>f (aC O4))
   grind
theorem Zy9:∀(f:Nat) {a b l g:List Int},Tr a->Tr l->Tr b->Tr g->Sim a l->Sim b g->Sim (eu f a b) (eu f l g)
 | 0,_,_,_,_,_,_,_,_,h,_=>h
 | f+1,a,b,l,g,o,k,n,d,p,m=>by
  unfold eu;by_cases j:b=[]
  .rw [aM j,aM (m.nil d j)];omega
  .rw [aG j,aG (λe=>j (m.symm.nil n e))];have t1:=Kn (q:=b) o;have t2:=Kn (q:=g) k;exact Zy9 f n d (Yu t1) (Yu t2) m ((Ql t1).trans ((Yfh o k n d j p m).trans (Ql t2).symm))
theorem Zne:∀(f:Nat) {a b:List Int},Tr a->Tr b->Tr (eu f a b)
 | 0,_,_,h,_=>h
 | f+1,a,b,d,e=>by
  unfold eu;split
  .exact d
  .exact Zne f e (Yu (Kn d))
theorem Zk3:∀(f k:Nat) {a b:List Int},eok f a b->eu (f+k) a b=eu f a b
 | 0,k,a,b,h=>by rw [show b=[]from h,Bg,Bg]
 | f+1,k,a,b,h=>by
  rcases h with h|h
  .rw [h,Bg,Bg]
  .by_cases d:b=[]
   .rw [d,Bg,Bg]
   .rw [show f+1+k=f+k+1 by omega];unfold eu;rw [aG d,aG d];exact Zk3 f k h.2
theorem Ycz:∀(f:Nat) {a b:List Int},Tr a->Tr b->Zz a=a->Zz b=b->Zz (eu f a b)=eu f a b
 | 0,_,_,_,_,h,_=>h
 | f+1,a,b,d,j,e,g=>by
  unfold eu;split
  .exact e
  .exact Ycz f j (Yu (Kn d)) g (Zfw (Kn d))
theorem Zji{p q:List Int}(d:Tr p)(e:Tr q):Tr (gA p q):=by unfold gA;all_goals grind [Yu]
theorem Zjh{p q:List Int}(d:Tr p)(e:Tr q):Tr (gB p q):=by unfold gB;all_goals grind [Yu]
theorem Zvj{p q:List Int}(d:Tr p)(e:Tr q):Ng F p q=Xc (eu F (gA p q) (gB p q)):=by
 unfold Ng Xc;rw [Ycz F (Zji d e) (Zjh d e)]
 .unfold gA;grind [Zfw]
 .unfold gB;grind [Zfw]
theorem Yrj{G:Nat}{p q:List Int}(e:Tr p)(d:Tr q)(g:eok F p q)(j:eok G (gA p q) (gB p q)):Lr (Zz (eu F p q))=Ng G p q:=by
 rw [Zvj e d];rw [<-Zk3 F _ g,<-Zk3 G F j];refine Zrp (Zne _ e d) (Zne _ (Zji e d) (Zjh e d)) ?_;rcases aX _ _ with h|h
 .rw [show gA p q=Zz q from aM h,show gB p q=Zz p from aM h];rw [show F+(G+1)=F+G+1 by rfl,show G+F=F+G by omega];have f:q≠[]:=aD.1 O;have:eu (F+G+1) p q=eu (F+G) q (Zz p):=by
   conv=>lhs;unfold eu
   rw [aG f,show Qn p q=p from aM h]
  rw [this];exact Zy9 _ d (Yu d) (Yu e) (Yu e) (Ql d).symm (Sim.refl _)
 .rw [show gA p q=Zz p from aG O,show gB p q=Zz q from aG O];have k:eu (F+(G+1)) p q=eu (F+G) p q:=by simp_all [Zk3]
  rw [k,show G+F=F+G by omega];exact Zy9 _ e (Yu e) d (Yu d) (Ql e).symm (Ql d).symm
def chk:Nat->Nat->Nat->Nat->Nat->Bool
 | 0,_,d,_,_=>Nat.beq d 0
 | f+1,e,d,A,B=>Nat.beq d 0 || (bif Nat.blt e d then chk f d e B A else
   Nat.ble (A+(e-d+1)*B) 65537 && (List.range d).all λl=>chk f d l B (bif Nat.ble l 1 then 2 else A+(e-d+1)*B))
theorem cp_nf{p:List Int}{x y z:Int}{n m:Nat}(d:Sz n p)(k:bl x.natAbs<=m)(l:bl y.natAbs<=m)(o:bl z.natAbs<=m)(j:p.length<=25)(h:n+24*(m+1)+8<=65536):Xz p+(p.length-1)*(Xz [x,y,z]+1)+8<=65536:=by
 have e:=Qx d;have f:Xz [x,y,z]<=m:=by simp only [Xz];omega
 have g:(p.length-1)*(Xz [x,y,z]+1)<=24*(m+1):=aP O O;omega
theorem cp_not{p:List Int}{x y z:Int}(h:Xz p+(p.length-1)*(Xz [x,y,z]+1)+8<=65536):¬Znk p x y z:=λd=>by have:=d.2;omega
theorem Zfy(p:List Int)(x y z:Int):(Lm p x y z).length<=p.length:=by
 unfold Lm;split
 .exact bA _
 .refine aB (Mc _) ?_;rw [Zdi];omega
theorem Zvz(x y:Int):Kq x y∣x:=by
 unfold Kq;split
 .exact Int.neg_dvd.2 (lL ..)
 .exact lL ..
theorem Zmx(x y:Int):Kq x y∣y:=by
 unfold Kq;split
 .exact Int.neg_dvd.2 (iP ..)
 .exact iP ..
def s8(l:List Int):Prop:=∀x∈l,(Qq x.natAbs).size<=8
abbrev Z0:SL×List Int:=((none,0,0),[])
theorem vp_eu:∀(f:Nat) {a b:List Int},Vp a->Vp b->eok f a b->Vp (eu f a b)
 | 0,_,_,h,_,_=>h
 | f+1,a,b,d,e,h=>by
  unfold eu;split
  .exact d
  .rcases h with h|h
   .contradiction
   .exact vp_eu f e (Lx (Zba d h.1)) h.2
theorem Yg9{g:List Int}(h:Vp g):Vp (Lr g):=by
 unfold Lr;split
 .refine⟨λi=>by rw [Yi];exact Zcq h.sz i,Qk _ _,aB (Oj _ _) h.len⟩
 .exact h
def Yac{p q:List Int}(d:Vp p)(e:Vp q)(h:eok F (gA p q) (gB p q)):Vp (Ng F p q):=Yg9 (vp_eu F (vp_gA d e) (vp_gB d e) h)
def pevn(p:List Int)(x y:Int)(n:Nat):Int:=Yj (λi=>cf p i*(x^i*y^(n-1-i))) n
def dn(p:List Int)(y:Int):Int:=y^(p.length-1)
theorem Fp(q:List Int):Qt [] q=[]:=Zbn (.inl rfl)
theorem Zcg(p:List Int):Qt p []=[]:=Zbn (.inr rfl)
theorem Ylb(N D:Int):N/Kq N D*D=N*(D/Kq N D):=by grind [Int.ediv_mul_cancel,Zvz,Zmx]
theorem Yfy{N D:Int}(h:0<D):0<D/Kq N D:=by
 have f:Kq N D=(Int.gcd N D):=aG O;have g:=mQ (Zmx N D);rw [f]at g ⊢;generalize D/(Int.gcd N D)=d at *;rcases gL 0 d with e|e
 .omega
 .have:d*(Int.gcd N D)<=0:=fX e O5;omega
section
variable {p q:List Int}
theorem Zf2(l:Tr p)(f:Tr q)(h:p≠[])(d:q≠[]):∀j,j<=p.length->∀t,cf (Xr (Qt p q) q j) t=(ps (p.take (p.length-j))*ps q).c t
 | 0,_,t=>by rw [jR,bQ];exact Hs p q t
 | j+1,y,t=>by
  have n:=Zf2 l f h d j O;have z:=aD.2 d;have v:=Ow l f h d;have r:Xr (Qt p q) q (j+1)=Zfg q (Xr (Qt p q) q j) (p.length-1-j):=by show Zfg q _ _=_;grind
  have w:=f.mem d;have m:cf (Xr (Qt p q) q j) (p.length-1-j+q.length-1)=cf p (p.length-1-j)*cf q (q.length-1):=by rw [n,show p.length-1-j+q.length-1=(p.length-1-j)+(q.length-1) by omega,Zaa (λi hi=>by rw [Dg,aG O]) (λi hi=>Yn O),Dg,aM O]
  have e:dq q (Xr (Qt p q) q j) (p.length-1-j)=cf p (p.length-1-j):=by unfold dq;simp_all
  have u:(ps (p.take (p.length-j))*ps q).c t=(ps (p.take (p.length-(j+1)))*ps q).c t+(ps (mono (p.length-1-j) (cf p (p.length-1-j)))*ps q).c t:=by rw [PS.mul_c,PS.mul_c,PS.mul_c,<-Fv];refine Xg λk _=>?_;rw [Nf,Nf,Nf,Nf,Dg,Dg,Zk8];grind
  rw [r];unfold Zfg;rw [Nv,Fb,v,e,n,u,Zmr,Nf];by_cases g:t<p.length+q.length-1
  .rw [aM g];by_cases o:p.length-1-j<=t
   .rw [aM o];by_cases x:t<p.length-1-j+q.length
    .omega
    .rw [Yn (p:=q) O];simp
   omega
  .rw [aG g,PS.mul_c];refine(Gi λk _=>?_).symm;rw [Nf,Nf,Dg];split
   .rw [Yn (p:=q) O,eG]
   omega
theorem Zri(f:Tr p)(g:Tr q)(e:q≠[]):pdv (Qt p q) q/\Ly (Qt p q) q=p:=by
 by_cases d:p=[]
 .subst d;rw [Fp];exact⟨.inl rfl,rfl⟩
 have r:=aD.2 d;have t:=aD.2 e;have o:=Ow f g d e;have m:=g.mem e;have n:∀k,k<=p.length-1->cf (Xr _ q (p.length-1-k)) (k+q.length-1)=cf p k*cf q _:=λk j=>by rw [Zf2 f g d e _ O,show k+q.length-1=k+(q.length-1) by omega,Zaa (λi hi=>by rw [Dg,aG O]) (λi hi=>Yn O),Dg,aM O]
 have l:(Qt p q).length-q.length=p.length-1:=O;have h:Qt p q≠[]:=aD.1 O;refine⟨.inr ⟨O,λk j=>?_,?_⟩,?_⟩
 .unfold Mi;simp_all
 .rw [l,show p.length-1+1=p.length by omega];refine(Km _).2 λi=>?_;rw [Zf2 f g d e _ (aI _),fI];simp [Lz,Yn,bA]
 .rw [Zmf h];unfold Yjx;rw [l,show p.length-1+1=p.length by omega,Ey λk j=>?_,Zeo,Al f];unfold Zwz dq;grind [Int.mul_ediv_cancel]
end
def Dv(g a:List Int):Prop:=∃(k:Int) (s:List Int),k≠0/\∀t,k*cf a t=(ps s*ps g).c t
theorem Zvl(f:PS)(t:Nat):(ps [1]*f).c t=f.c t:=by rw [PS.mul_c,Am 0 O5 λi _ d=>by rw [Nf,Yn O4,cN],Nf,show cf [1] 0=1 from rfl,gW,jR]
theorem Dv.refl(a:List Int):Dv a a:=⟨1,[1],O,λt=>by rw [Zvl,gW,Nf]⟩
theorem Dv.nil(g:List Int):Dv g []:=⟨1,[],O,λt=>by simp [Lz,Yn,bA]⟩
theorem Dv.sim{g:List Int} : Dv g a->Sim a b->Dv g b:=λ⟨k,s,d,h⟩ ⟨m,n,j,f,e⟩=>
 ⟨k*n,Zr s m,bC d f,λt=>by rw [PS.mul_c,show(λi=>(ps _).c i*(ps g).c _)=λi=>m*((ps s).c i*(ps g).c (t-i))from nS λi=>by grind [Nf,Yi],Md,<-PS.mul_c];grind⟩
theorem Dv.lin{g:List Int}(e:Dv g a)(f:Dv g b)(s:List Int)(L:Int)(d:L≠0)(h:∀t,L*cf c t=(ps s*ps a).c t+cf b t):Dv g c:=by
 obtain⟨k,u,j,r⟩:=e;obtain⟨m,v,l,w⟩:=f;refine⟨L*(k*m),Ht (Zr (Qt s u) m) (Zr v k),bC d (bC j l),λt=>?_⟩;have n:k*(ps s*ps a).c t=(ps (Qt s u)*ps g).c t:=by rw [Zkr,PS.mul_assoc',PS.mul_c,PS.mul_c,<-Md];grind [Xg,Nf]
 have o:(ps (Ht (Zr (Qt s u) m) (Zr v k))*ps g).c t=m*(ps (Qt s u)*ps g).c t+k*(ps v*ps g).c t:=by rw [PS.mul_c,PS.mul_c,PS.mul_c,<-Md,<-Md,<-Fv];refine Xg λi _=>?_;rw [Nf,Nf,Nf,Nf,Dh,Yi,Yi];grind
 grind
theorem eu_dv:∀(f:Nat) {a b:List Int},Tr a->Tr b->eok f a b->Dv (eu f a b) a/\Dv (eu f a b) b
 | 0,a,b,l,d,h=>by rw [show b=[]from h];exact⟨Dv.refl _,Dv.nil _⟩
 | f+1,a,b,l,d,h=>by
  by_cases j:b=[]
  .grind [Bg,Dv.refl,Dv.nil]
  .rcases h with h|h
   .grind
   .have e:eu (f+1) a b=eu f b (Zz (Qn a b)):=by
     conv=>lhs;unfold eu
     grind
    rw [e];have t1:=Kn (q:=b) l;obtain⟨g,m⟩:=eu_dv f d (Yu t1) h.2;obtain⟨k,s,hs⟩:=Cx a j;exact⟨g.lin (m.sim (Ql t1)) s _ (Mh (d.mem j) k) hs,g⟩
theorem Dv.of_sim{g d:List Int} : Dv g a->Sim g d->Dv d a:=λ⟨k,s,f,h⟩ ⟨m,n,j,l,e⟩=>
 ⟨m*k,Zr s n,bC j f,λt=>by grind [Int.mul_assoc,PS.mul_c,Md,Xg,Nf,Yi]⟩
theorem Dv.zero(e:Tr a)(h:Dv [] a):a=[]:=by obtain⟨k,s,f,h⟩:=h;rw [<-Al e,Km];intro i;have d:=h i;rw [PS.mul_comm',Lz (λt=>Yn (bA _))]at d;grind [Int.mul_eq_zero]
theorem Zek{p q:List Int}(g:Tr p)(j:Tr q)(h:eok F (gA p q) (gB p q)):Dv (Ng F p q) p/\Dv (Ng F p q) q:=by
 have k:=Zji g j;have l:=Zjh g j;obtain⟨d,e⟩:=eu_dv F k l h;have hs:Sim _ (Ng F p q):=(Hm _).symm;have d:=d.of_sim hs;have e:=e.of_sim hs;by_cases f:p.length<q.length
 .rw [show gA p q=Zz q from aM f]at d;rw [show gB p q=Zz p from aM f]at e;exact⟨e.sim (Ql g),d.sim (Ql j)⟩
 .rw [show gA p q=Zz p from aG f]at d;rw [show gB p q=Zz q from aG f]at e;exact⟨d.sim (Ql g),e.sim (Ql j)⟩
def Zd7 (F:Nat){p q:List Int}(d:Tr p)(e:Tr q):Tr (Ng F p q):=Nc (Zne F (Zji d e) (Zjh d e))
theorem Zfq(p:List Int){c:Int}(h:c≠0):Sim p (Zr p c):=⟨c,1,h,O,λi=>by grind [Yi]⟩
def fin8(d A:Nat):Bool:=Nat.ble d 2 || Nat.ble (64+(9-d)*A) 65536
def chk2:Nat->Nat->Nat->Nat->Nat->Bool
 | 0,d,_,A,_=>fin8 d A
 | f+1,d,e,A,B=>bif Nat.beq e 0 then fin8 d A else bif Nat.blt d e then chk2 f e d B A else
   (List.range e).all λl=>chk2 f e l B (bif Nat.ble l 1 then 2 else A+(d-e+1)*B)
theorem Zcj{g:List Int}(h:Tr g):(Lr g).length=g.length:=(Hm g).len (Nc h) h
theorem Zju(g:List Int):Yw (Lr g)=Yw g:=by
 have d:Yw (Lr g)∣Yw g:=Ea λi=>by
  have h:=Kj (Lr g) i;rw [Dj]at h;split at h
  all_goals simp_all
 have e:Yw g∣Yw (Lr g):=Ea λi=>by
  rw [Dj];split
  all_goals grind [Int.dvd_neg,Kj]
 exact Int.dvd_antisymm (Nr _) (Nr _) d e
theorem Zmk{p q:List Int}(f:Tr p)(g:Tr q)(d:Ng F p q≠[]):Yw (Ng F p q)=1:=by rw [Zvj f g]at d ⊢;unfold Xc at d ⊢;rw [Zju];refine Kp (Zne F (Zji f g) (Zjh f g)) λe=>d ?_;rw [e];rfl
end Go.Sky
namespace Go.Sky
variable{f:FuncId}{a b p x y xs:List Int}{F i:Nat}{s:Int}{ls:List (SL×List Int)}{ats:Array TypeId}{vs:List Value}{pre:List Pc}{w0:World}{M0:Nat->Prop}{fn:Func}
def Zbf(xs:List Int):Prop:=xs.length=0\/(xs.length+2)*(xs.length+2)*(Xz xs+16)<=65536
instance (xs:List Int):Decidable (Zbf xs):=by unfold Zbf;infer_instance
def sqf(F:Nat)(xs:List Int):List Int:=Ly (Xc xs) (Ng F (Xc xs) (Xf (Xc xs)))
def Ypd(F:Nat)(xs:List Int):Prop:=(∀i,i<xs.length->bl (cf (Xc xs) (i+1)*((i:Int)+1)).natAbs<=65536)/\¬Zpq (Xc xs) (Xf (Xc xs))/\eok F (gA (Xc xs) (Xf (Xc xs))) (gB (Xc xs) (Xf (Xc xs)))/\
 Bx (Xc xs) (Ng F (Xc xs) (Xf (Xc xs)))=0/\pdv (Xc xs) (Ng F (Xc xs) (Xf (Xc xs)))
def Mw(x y:List Int):List Int:=if cf y (y.length-1)<0/\(x.length-y.length+1)%2=1 then Zz (Qn x y)else Zr (Zz (Qn x y)) (-1)
def cok:Nat->List Int->List Int->Prop
 | 0,_,y=>y=[]
 | f+1,x,y=>y=[]\/(Bx x y=0/\y.length<=x.length/\cok f y (Mw x y))
def Nz:Nat->List Int->List Int->List (List Int)
 | 0,x,_=>[x]
 | f+1,x,y=>if y=[]then [x]else x::Nz f y (Mw x y)
theorem Dx(f:Nat)(x:List Int):Nz f x []=[x]:=by cases f<;>rfl
theorem Zht{f:Nat}(h:cok f a b)(c:b≠[]):∃g,f=g+1/\Bx a b=0/\b.length<=a.length/\cok g b (Mw a b)/\Nz f a b=a::Nz g b (Mw a b):=by
 cases f with
 | zero=>exact absurd h c
 | succ g=>
  rcases h with h|h
  .exact absurd h c
  .exact⟨g,rfl,h.1,h.2.1,h.2.2,by show(if b=[]then [a]else _)=_;rw [aG c]⟩
def chn(F:Nat)(xs:List Int):List (List Int):=Nz F (sqf F xs) (Zz (Xf (sqf F xs)))
def Zac(F:Nat)(xs:List Int):Prop:=Ypd F xs/\(∀i,i<xs.length->bl (cf (sqf F xs) (i+1)*((i:Int)+1)).natAbs<=65536)/\cok F (sqf F xs) (Zz (Xf (sqf F xs)))
theorem Zxr(h:Vp p):Vp (Xc p):=by
 unfold Xc;have c:=Lx h;refine⟨λi=>?_,Nc c.tr,by rw [Zcj c.tr];exact c.len⟩;rw [Dj];split
 .rw [dM];exact c.sz i
 .exact c.sz i
theorem Pp(h:Tr p):(Xc p).length=p.length:=by unfold Xc;rw [Zcj (Yu h),Zw]
theorem Zli(d:Vp x)(c:Bx x y=0):Vp (Mw x y):=by
 have h:=Lx (Zba d c);unfold Mw;split
 .exact h
 .exact⟨λi=>by rw [Yi];exact Zcq h.sz i,Qk _ _,aB (Oj _ _) h.len⟩
def Ni(s:Int×Int)(x:Int):Int×Int:=if x=0 then s else(if x=-s.2 then s.1+1 else s.1,x)
def chg(l:List Int):Int:=(l.foldl Ni (0,0)).1
def Zcl{α β:Type}(f:α->β->α)(a:α)(l:List β)(x:β):(l ++ [x]).foldl f a=f (l.foldl f a) x:=O5
theorem chg1_n(s:Int×Int)(x:Int):(Ni s x).1=s.1\/(Ni s x).1=s.1+1:=by
 unfold Ni;split
 .exact .inl rfl
 .dsimp only;split
  .exact .inr rfl
  .exact .inl rfl
def sgs(ls:List (List Int))(x y:Int):List Int:=ls.map λp=>(pev p x y).sign
def sgr(ls:List (List Int)):List Int:=ls.map λp=>(cf p (p.length-1)).sign
def sgl(ls:List (List Int)):List Int:=ls.map λp=>if p.length%2=0 then-(cf p (p.length-1)).sign else(cf p (p.length-1)).sign
def smost(xs:List Int):Nat:=(xs.take (xs.length-1)).foldl (λm c=>max m c.natAbs) 0
def sbound(xs:List Int):Int:=((smost xs/(cf xs (xs.length-1)).natAbs:Nat):Int)+2
def Zzr(xs:List Int):Int:=if xs.length=0 then 3 else if Zbf xs then 0 else 7
def ef(z:Int×Int):Bool:=decide (512<bl z.1.natAbs) || decide (512<bl z.2.natAbs)
def chk2r(xs:List Int)(x y c d:Int):Int:=if xs.length=0 then 3 else if 0<x*d-c*y then 3 else if Zbf xs/\ef (x,y)=false/\ef (c,d)=false then 0 else 7
theorem Yst(c:xs≠[])(h:Zbf xs):Zzr xs=0:=by unfold Zzr;rw [aG (λe=>c (aC e)),aM h]
theorem Zku(h:¬cf (Zz xs) ((Zz xs).length-1)<0):Xc xs=Zz xs:=by unfold Xc Lr;rw [aG O]
theorem Zkv(c:(Zz xs).length≠0)(h:cf (Zz xs) ((Zz xs).length-1)<0):Xc xs=Zr (Zz xs) (-1):=by unfold Xc Lr;rw [aM ⟨c,h⟩]
theorem Zf0 (P:Nat->Prop) : ∀n,P n->∃m,P m/\∀k,k<m->¬P k:=by
 intro n
 induction n using Nat.strongRecOn with
 | _ n g=>
  intro h;by_cases e:∃k,k<n/\P k
  .obtain⟨k,d,c⟩:=e;exact g k d c
  .exact⟨n,h,λk d c=>e ⟨k,d,c⟩⟩
theorem Yf0{n:Nat}(h:2<=n):∃p,2<=p/\p∣n/\∀d,2<=d->d∣n->p<=d:=by
 obtain⟨p,⟨g,j⟩,k⟩:=Zf0 (λd=>2<=d/\d∣n) n ⟨h,Nat.dvd_refl n⟩;exact⟨p,g,j,λd l e=>by
  rcases aX d p with c|c
  .exact absurd ⟨l,e⟩ (k d c)
  .exact c⟩
theorem Zv7{n p:Nat}(r:2<=p)(k:p∣n)(l:∀d,2<=d->d∣n->p<=d)(v:0<n){x y:Int}(h:(p:Int)∣x*y):(p:Int)∣x\/(p:Int)∣y:=by
 by_cases j:(p:Int)∣x
 .exact .inl j
 .right;have o:Nat.gcd p x.natAbs=1:=by
   have g:=lK p x.natAbs;have q:0<Nat.gcd p x.natAbs:=Nat.gcd_pos_of_pos_left _ O;rcases aX (Nat.gcd p x.natAbs) 2 with c|c
   .omega
   .have t:=l _ c (Nat.dvd_trans g k);have u:=lH O g;exfalso;refine j (fH.1 ?_);rw [dC];have m:Nat.gcd p x.natAbs=p:=O;rw [<-m];exact nI _ _
  have e:=fH.2 h;rw [dC,bX]at e;refine fH.1 ?_;rw [dC];exact(show Nat.Coprime p x.natAbs from o).dvd_of_dvd_mul_left e
theorem gauss{g:List Int}(hg:Yw g=1):∀(n:Nat) (k:Int) (s:List Int),k.natAbs=n->k≠0->(∀t,k*cf a t=(ps s*ps g).c t)->∃q:List Int,∀t,cf a t=(ps q*ps g).c t:=by
 intro n
 induction n using Nat.strongRecOn with
 | _ n ih=>
  intro k s o V h;rcases aX n 2 with Q|Q
  .have H:k*k=1:=by have:k=1\/k=-1:=O;rcases this with e|e<;>subst e<;>rfl
   refine⟨Zr s k,λt=>?_⟩;have e:(ps (Zr s k)*ps g).c t=k*(ps s*ps g).c t:=by rw [PS.mul_c,PS.mul_c,<-Md];exact Xg λi _=>by rw [Nf,Nf,Nf,Yi];grind
   rw [e,<-h,<-eY,H,gW]
  .obtain⟨p,W,Y,pm⟩:=Yf0 Q;have M:∀{x y:Int},(p:Int)∣x*y->(p:Int)∣x\/(p:Int)∣y:=Zv7 W Y pm O;have r:(p:Int)∣k:=fH.1 (by rw [dC,o];exact Y);have w:∃j,¬(p:Int)∣cf g j:=bH λu=>by have:(p:Int)∣Yw g:=Ea λi=>bH λhy=>u ⟨i,hy⟩;rw [hg]at this;have:=kE O3 this;omega
   obtain⟨j0,D⟩:=w;obtain⟨j,hj,G⟩:=Zf0 (λj=>¬(p:Int)∣cf g j) j0 D;have hs:∀i,(p:Int)∣cf s i:=λi0=>bH λz=>by
    obtain⟨i,hi,B⟩:=Zf0 (λi=>¬(p:Int)∣cf s i) i0 z;have R:=h (i+j);rw [PS.mul_c]at R;have P:∀m,m<=i+j+1->(p:Int)∣Yj (λk=>if k=i then 0 else(ps s).c k*(ps g).c (i+j-k)) m:=λm=>by
     induction m with
     | zero=>intro _;exact jU _
     | succ m N=>
      intro hm;rw [Ym];refine Int.dvd_add (N O) ?_;split
      .exact jU _
      .rename_i a0;rw [Nf,Nf];rcases aX m i with v|v
       .exact iI (bH λu=>B m v u) (jV _ _)
       .exact iI (bH λu=>G (i+j-m) O u) (lM _ _)
    have Z:Yj (λk=>(ps s).c k*(ps g).c (i+j-k)) (i+j+1)=Yj (λk=>if k=i then 0 else(ps s).c k*(ps g).c (i+j-k)) (i+j+1)+cf s i*cf g j:=by
     have e2:Yj (λk=>(ps s).c k*(ps g).c (i+j-k)) (i+j+1)=Yj (λk=>(if k=i then 0 else(ps s).c k*(ps g).c (i+j-k))+(if k=i then(ps s).c k*(ps g).c (i+j-k)else 0)) (i+j+1):=
      Xg λk _=>by split<;>omega
     rw [e2,Fv,Am i (f:=λk=>if k=i then(ps s).c k*(ps g).c (i+j-k)else 0) O (λq _ hq=>aG hq),aM rfl,Nf,Nf,show i+j-i=j by omega]
    rw [Z]at R;have v:(p:Int)∣cf s i*cf g j:=by have l:cf s i*cf g j=k*cf a (i+j)-Yj (λk=>if k=i then 0 else(ps s).c k*(ps g).c (i+j-k)) (i+j+1):=O;rw [l];exact Int.dvd_sub (iI r (jV _ _)) (P _ (aI _))
    rcases M v with l|l
    .exact hi l
    .exact hj l
   obtain⟨d,c⟩:=r;have I:(p:Int)≠0:=O;refine ih d.natAbs ?_ d (s.map (· / (p:Int))) rfl ?_ ?_
   .rw [<-o,c,bX,dC];have:0<d.natAbs:=by
     rcases aV d.natAbs with S|S
     .rw [show d=0 by omega]at c;simp at c;exact absurd c V
     .exact S
    have:=aL d.natAbs W;omega
   .intro e;rw [e]at c;simp at c;exact V c
   .intro t;refine jB I ?_;rw [<-eY,<-c,h,PS.mul_c,PS.mul_c,<-Md];refine Xg λi _=>?_;rw [Nf,Nf,Nf,Zf5 _ _ O5,<-eY,kH (hs i)]
def ev1:List Int->Int->Int
 | [],_=>0
 | c::r,t=>c+t*ev1 r t
def sdv:List Int->Int->List Int
 | [],_=>[]
 | [_],_=>[]
 | _::c::r,t=>ev1 (c::r) t::sdv (c::r) t
theorem Zm0:∀(u:List Int) (t:Int),(sdv u t).length=u.length-1
 | [],_=>rfl
 | [_],_=>rfl
 | _::c::r,t=>by unfold sdv;rw [dP,Zm0 (c::r) t];simp
theorem Ycx:∀(u:List Int) (t x:Int),ev1 u x=ev1 u t+(x-t)*ev1 (sdv u t) x
 | [],t,x=>by simp [ev1,sdv]
 | [c],t,x=>by simp [ev1,sdv]
 | a::c::r,t,x=>by have d:=Ycx (c::r) t x;show a+x*ev1 (c::r) x=a+t*ev1 (c::r) t+(x-t)*(ev1 (c::r) t+x*ev1 (sdv (c::r) t) x);rw [d];generalize ev1 (c::r) t=A;generalize ev1 (sdv (c::r) t) x=B;grind
theorem Cp(a:Int)(u:List Int)(i:Nat):cf (a::u) i=if i=0 then a else cf u (i-1):=by
 cases i with
 | zero=>rfl
 | succ i=>simp [cf]
def Zdw(i:Nat):cf [] i=0:=Yn (bA _)
theorem Ynm:∀(u:List Int) (t:Int) (i:Nat),cf u (i+1)=cf (sdv u t) i-t*cf (sdv u t) (i+1)
 | [],t,i=>by unfold sdv;simp [Zdw]
 | [c],t,i=>by unfold sdv;rw [Cp,aG O];simp [Zdw]
 | a::c::r,t,i=>by
  unfold sdv;rw [Cp,aG O,eK];cases i with
  | zero=>
   rw [Cp,aM rfl,Cp,aM rfl,Cp,aG O];show c=ev1 (c::r) t-t*cf (sdv (c::r) t) 0
   match r with
   | []=>simp [ev1,sdv,cf]
   | d::r'=>unfold sdv;rw [Cp,aM rfl];show c=(c+t*ev1 (d::r') t)-_;omega
  | succ i=>
   rw [Cp _ (sdv _ _) (i+1),aG O,Cp _ (sdv _ _),aG O,eK,eK];exact Ynm (c::r) t i
theorem Ysw:∀(u:List Int) (t:Int),cf u 0=ev1 u t-t*cf (sdv u t) 0
 | [],t=>by simp [ev1,sdv,cf]
 | [c],t=>by simp [ev1,sdv,cf]
 | a::c::r,t=>by unfold sdv;rw [Cp,aM rfl,Cp,aM rfl];show a=(a+t*ev1 (c::r) t)-t*ev1 (c::r) t;omega
theorem Zuy:∀(n:Nat) (u:List Int) (R:List Int),u.length=n->(∃i,cf u i≠0)->R.Nodup->(∀t∈R,ev1 u t=0)->R.length<n
 | 0,u,R,e,c,_,_=>by obtain⟨i,hi⟩:=c;rw [aC e,Zdw]at hi;exact absurd rfl hi
 | n+1,u,[],e,c,_,_=>O5
 | n+1,u,t::R,e,c,hd,hR=>by
  have h:=hR t (bK ..);have o:=Zm0 u t;have l:∃i,cf (sdv u t) i≠0:=bH λd=>by
   have g:∀i,cf (sdv u t) i=0:=λi=>bH λm=>d ⟨i,m⟩;obtain⟨i,hi⟩:=c;cases i with
   | zero=>rw [Ysw u t,h,g]at hi;simp at hi
   | succ i=>rw [Ynm u t,g,g]at hi;simp at hi
  have:=Zuy n (sdv u t) R O l (List.nodup_cons.1 hd).2 λx d=>by
   have j:=hR x (bE _ d);rw [Ycx u t x,h,kM]at j;rcases kI.1 j with k|k
   .exfalso;have:x=t:=O;subst this;exact(List.nodup_cons.1 hd).1 d
   .exact k
  simp;omega
def kk:Nat->Nat
 | 0=>0
 | d+1=>30*kk d+1
def pts:List Int:=[0,1,2,3,4,5,6,7,8,9,10,11,12,13,14]
def Psim(a b:List Int):Prop:=∃m n:Int,0<m/\0<n/\∀i,m*cf a i=n*cf b i
def Psim.refl(a:List Int):Psim a a:=⟨1,1,O,O,λ_=>rfl⟩
def Psim.symm : Psim a b->Psim b a:=λ⟨m,n,c,d,h⟩=>⟨n,m,d,c,λi=>(h i).symm⟩
def Psim.trans{c:List Int} : Psim a b->Psim b c->Psim a c:=λ⟨m,n,d,e,h⟩ ⟨u,v,g,j,k⟩=>
 ⟨m*u,n*v,fU d g,fU e j,λi=>O4⟩
def Psim.sim : Psim a b->Sim a b:=λ⟨m,n,c,d,h⟩=>⟨m,n,O,O,h⟩
theorem Zfv(h:Tr p):Psim (Zz p) p:=by
 by_cases c:p=[]
 .subst c;exact Psim.refl _
 .exact⟨Yw p,1,by have:=Nr p;grind [Cz],O,λi=>by grind [Gm]⟩
theorem Zmg(g:Tr a)(j:Tr b)(h:Psim a b):Zz a=Zz b:=by
 by_cases c:a=[]
 .rw [h.sim.nil j c,c]
 .have k:=λe=>c (h.sim.symm.nil g e);obtain⟨m,n,v,w,e⟩:=(Zfv g).trans (h.trans (Zfv j).symm);have o:=Yu g;have u:=Yu j;have hs:Sim _ _:=⟨m,n,O,O,e⟩;have d:Zz a≠[]:=λe=>c (aC (by grind [Zw]));rcases Zlu o u d (Kp g c) (Kp j k) hs with l|l
  .omega
  .have q:=o.mem d;have r:=e ((Zz a).length-1);have t:=l ((Zz a).length-1);rw [t]at r q;grind [Int.mul_neg,Int.add_mul,Int.mul_eq_zero]
def Et(y:List Int):Int:=if cf y (y.length-1)<0 then-cf y (y.length-1)else cf y (y.length-1)
def rb(x y:List Int):Int:=if cf y (y.length-1)<0 then-cf x (x.length-1)else cf x (x.length-1)
def Ds(x y:List Int):List Int:=Ei (Zr x (Et y)) (shm y (rb x y) (x.length-y.length) y.length)
def Gy:Nat->List Int->List Int->List Int
 | 0,x,_=>x
 | f+1,x,y=>if x.length<y.length then x else Gy f (Ds x y) y
theorem Zhe(e:Tr x)(g:0<y.length)(d:y.length<=x.length):(Ds x y).length<x.length:=by
 have h:=Zb6 (p:=Ds x y) (n:=x.length-1) λi hi=>by
  unfold Ds;rw [Ih,Yi,Ztb];by_cases c:i=x.length-1
  .unfold Et rb;grind
  .rw [Yn O,aG O];simp
 rw [show tzl _=Ds x y from Al (Zah _ _)]at h;omega
theorem Yiy(x:List Int)(t:Nat):Et y*cf x t=(ps (mono (x.length-y.length) (rb x y))*ps y).c t+cf (Ds x y) t:=by
 unfold Ds;rw [Zmr,Ih,Yi,Ztb,Nf];by_cases c:x.length-y.length<=t
 .by_cases d:t<x.length-y.length+y.length
  .grind
  .rw [Yn (p:=y) O,eE _];simp
 grind
theorem Zgv(d:Tr y)(c:y≠[]):0<Et y:=by have:=d.mem c;unfold Et;split<;>omega
theorem Zcc{y:List Int}(l:Tr y)(d:y≠[]):∀(f:Nat) (x:List Int),Tr x->x.length<y.length+f->Tr (Gy f x y)/\(Gy f x y).length<y.length/\∃(k:Nat) (s:List Int),∀t,Et y^k*cf x t=(ps s*ps y).c t+cf (Gy f x y) t
 | 0,x,c,e=>⟨c,e,0,[],λt=>by rw [Lz (λt=>Yn (bA _))];unfold Gy;simp⟩
 | f+1,x,c,e=>by
  unfold Gy;by_cases h:x.length<y.length
  .rw [aM h];exact⟨c,h,0,[],λt=>by simp [Lz,Yn,bA,dE]⟩
  .rw [aG h];have m:=Zhe c (aD.2 d) O;obtain⟨g,j,k,s,hs⟩:=Zcc l d f (Ds x y) (Zah _ _) O;refine⟨g,j,k+1,Ei (Zr s 1) (Zr (mono (x.length-y.length) (rb x y)) (-(Et y^k))),λt=>?_⟩;grind [Yiy,Zg8,Int.pow_succ]
theorem Zve(l:Int)(h:l≠0):∀n:Nat,(l<0/\n%2=1->l^n<0)/\(¬(l<0/\n%2=1)->0<l^n)
 | 0=>⟨λh=>O,λ_=>O5⟩
 | n+1=>by
  have e:=Zve l h n;rw [dG];by_cases d:l<0
  .by_cases g:n%2=1
   .have c:=e.1 ⟨d,g⟩;exact⟨λh=>O,λ_=>Int.mul_pos_of_neg_of_neg c d⟩
   .have c:=e.2 O;exact⟨λ_=>Int.mul_neg_of_pos_of_neg c d,λh=>O⟩
  .have c:=e.2 O;exact⟨λh=>O,λ_=>fU c O⟩
def Ziq(p:List Int):List Int:=Zr p (-1)
theorem Zaz(p:List Int)(i:Nat):cf (Ziq p) i=- cf p i:=by unfold Ziq;grind [Yi]
theorem Zyk(h:Tr p):Zz (Ziq p)=Ziq (Zz p):=by
 have e:=by
  have c:Yw (Ziq p)∣Yw p:=Ea λi=>by have h:=Kj (Ziq p) i;simp_all [Zaz,nP]
  have d:Yw p∣Yw (Ziq p):=Ea λi=>by simp [Zaz,nP,Kj]
  exact Int.dvd_antisymm (Nr _) (Nr _) c d
 refine(Yu (Qk _ _)).ext (Qk _ _) λi=>?_;show cf (Zz (Ziq p)) i=cf _ i;simp_all [Zaz,Zdv,Int.neg_ediv_of_dvd,Kj]
theorem Zea (f:Nat)(u:Tr x)(m:Tr y)(g:y≠[])(B:y.length<=x.length)(w:x.length<y.length+f):Zz (Ziq (Gy f x y))=Mw x y:=by
 obtain⟨P,N,k,s,hs⟩:=Zcc m g f x u w;have G:=aD.2 g;obtain⟨H,o⟩:=Zik (p:=x) G B _ (aI _);have D:∀t,cf (Pg x y (x.length-y.length+1)) t=cf (Qn x y) t:=λt=>by unfold Qn;simp_all [aG,Lb]
 have lp:=Pe x g;have h:=Kn (q:=y) u;have c:=m.mem g;have n:0<Et y^k:=jN (Zgv m g);have d:=Zve (cf y (y.length-1)) c (x.length-y.length+1);generalize I:cf y (y.length-1)^(x.length-y.length+1)=L at o d;generalize Et y^k=K at hs n;have j:∀t,(ps (Ei (Zr H K) (Zr s L))*ps y).c t=cf (Ei (Zr (Gy f x y) L) (Zr (Qn x y) K)) t:=λt=>by rw [Zg8,Ih,Yi,Yi,<-D t];grind
 have z:=Yb7 m g j λt M=>by rw [Ih,Yi,Yi,Yn (p:=Gy f x y) O,Yn (p:=Qn x y) O];simp
 have e:∀t,L*cf (Gy f x y) t=K*cf (Qn x y) t:=λt=>by have v:=j t;rw [Lz z,Ih,Yi,Yi]at v;grind
 unfold Mw;by_cases l:cf y (y.length-1)<0/\(x.length-y.length+1)%2=1
 .rw [aM l];have r:=d.1 l;exact Zmg (Qk _ _) h ⟨-L,K,O,n,λt=>by grind [Zaz]⟩
 .rw [aG l];have r:=d.2 l;rw [show Zr (Zz (Qn x y)) (-1)=Ziq (Zz (Qn x y))from rfl,<-Zyk h];exact Zmg (Qk _ _) (Qk _ _) ⟨L,K,r,n,λt=>by simp_all [Zaz,mK]⟩
theorem Zc0(c:Tr x):Tr (Mw x y):=by unfold Mw;grind [Yu,Kn,Qk]
theorem Bs(c:Tr x):(Mw x y).length=(Qn x y).length:=by
 unfold Mw;have h:Tr (Zz (Qn x y)):=Yu (Kn c);split
 .simp [Zw]
 .rw [<-Zw (Qn x y)];exact((Zfq _ O).len h (Qk _ _)).symm
theorem Zqe{n:Nat}(h:Sz n p):Sz n (Xc p):=λi=>by
 unfold Xc;rw [Dj];split
 .rw [dM];exact Hz h i
 .exact Hz h i
theorem Ziu(h:Tr p)(c:p≠[]):Xc p≠[]:=λe=>c (aC (by grind [Pp]))
theorem Ay{g:List Int}(h:Tr g)(c:g≠[]):0<cf (Lr g) ((Lr g).length-1):=by have d:=h.mem c;grind [Zcj,Dj,List.eq_nil_of_length_eq_zero]
theorem Zbo(h:Tr p)(c:p≠[]):Yw (Xc p)=1:=by unfold Xc;grind [Zju,Kp]
theorem Zyq(h:Tr p)(c:Yw p=1)(d:0<cf p (p.length-1)):Xc p=p:=by unfold Xc;rw [Zgx c];unfold Lr;grind
theorem Ov (F:Nat)(r:Tr xs)(t:xs≠[])(w:eok F (gA (Xc xs) (Xf (Xc xs))) (gB (Xc xs) (Xf (Xc xs)))) :
  pdv (Xc xs) (Ng F (Xc xs) (Xf (Xc xs)))/\Tr (sqf F xs)/\sqf F xs≠[]/\Xc xs=Qt (sqf F xs) (Ng F (Xc xs) (Xf (Xc xs)))/\Ng F (Xc xs) (Xf (Xc xs))≠[]/\Xc (sqf F xs)=sqf F xs:=by
 have hs:Tr (Xc xs):=Nc (Yu r);have g:=Np hs;have n:=Ziu r t;have j:=(Zek hs g w).1;have o:=Zd7 F hs g;have c:Ng F (Xc xs) (Xf (Xc xs))≠[]:=λe=>n ((e▸j).zero hs);have I:=Zmk hs g c;obtain⟨k,s,M,h⟩:=j;obtain⟨q,Q⟩:=gauss I _ k s rfl M h;have d:Xc xs=Qt (tzl q) (Ng F (Xc xs) (Xf (Xc xs))):=hs.ext Qm λi=>by grind [Hs,Zra]
 obtain⟨D,V⟩:=Zri (Qj q) o c;have z:sqf F xs=tzl q:=by unfold sqf;grind
 rw [<-d]at D;have l:tzl q≠[]:=λe=>n (by grind [Fp]);refine⟨D,by grind [Qj],O4,O4,c,?_⟩;rw [z];refine Zyq (Qj q) ?_ ?_
 .have G:=Zbo r t;have u:Yw (tzl q)∣Yw (Xc xs):=Ea λi=>by
   rw [d,Hs,PS.mul_c];have P:∀m,Yw (tzl q)∣Yj (λk=>(ps (tzl q)).c k*(ps (Ng F (Xc xs) (Xf (Xc xs)))).c (i-k)) m:=λm=>by
    induction m with
    | zero=>exact jU _
    | succ m N=>exact Int.dvd_add N (iI (Kj (tzl q) m) (jV _ _))
   grind
  have v:=Nr (tzl q);have H:=kE O u;grind [Cz,Qj]
 .have R:=aD.2 l;have S:=aD.2 c;have G:0<cf (Xc xs) ((Xc xs).length-1):=Ay (Yu r) (λe=>t (aC (by grind [Zw])));have u:0<cf (Ng F (Xc xs) (Xf (Xc xs))) ((Ng F (Xc xs) _).length-1):=Ay (Zne F (Zji hs g) (Zjh hs g)) (λe=>c (by unfold Ng;rw [e];rfl));have v:=Ow (Qj q) o l c;rw [<-d]at v;have H:cf (Xc xs) ((Xc xs).length-1)=cf (tzl q) ((tzl q).length-1)*cf (Ng F (Xc xs) (Xf (Xc xs))) ((Ng F (Xc xs) (Xf (Xc xs))).length-1):=by rw [v,d,Hs,<-d,show(tzl q).length+(Ng F (Xc xs) (Xf (Xc xs))).length-1-1=((tzl q).length-1)+((Ng F (Xc xs) (Xf (Xc xs))).length-1) by omega];grind [Zaa,Yn]
  rcases gL 0 _ with B|B
  .omega
  .exfalso;have:=fX B (dV u);omega
def Oc(p:List Int):(Xf p).length=p.length-1:=Yt _ _
theorem Zzf{n:Nat}(c:Sz n p)(j:p.length<=25)(i:Nat):bl (cf p (i+1)*((i:Int)+1)).natAbs<=n+5:=by
 rcases aX (i+1) p.length with h|h
 .have d:=Yr (cf p (i+1)) ((i)+1);have e:=c (i+1);have g:bl ((i:Int)+1).natAbs<=5:=(Qo 5 _).2 O;omega
 grind [Yn,Ks]
theorem Zhx(p:List Int)(i:Nat):cf (Xf p) i=cf p (i+1)*((i:Int)+1):=by unfold Xf;simp_all [Nv,Yn,cN]
theorem Gx{n:Nat}(d:Sz n p)(c:p.length<=25):Sz (n+5) (Xf p):=λi=>by simp_all [Zhx,Zzf]
theorem Zgc(h:Vp p)(c:∀i,i<p.length->bl (cf p (i+1)*((i:Int)+1)).natAbs<=65536):Vp (Xf p):=by
 refine⟨λi=>?_,Np h.tr,by rw [Oc];have:=h.len;omega⟩;rw [Zhx];by_cases hi:i<p.length
 .grind
 .rw [Yn O];simp [Ks]
def sf_t(h:xs.length=0):Value.bool (decide (Zbf xs))= .bool true:=aE _ (aJ (.inl h))
theorem sf_i{n:Int}(h:xs.length≠0)(c:n=(((xs.length+2)*(xs.length+2)*(Xz xs+16):Nat):Int)):Value.bool (decide (Zbf xs))= .bool (decide (n<=65536)):=aE _ (bF.2 (by show(xs.length=0\/(xs.length+2)*(xs.length+2)*(Xz xs+16)<=65536)↔_;omega))
theorem Yex(h:(Qn x y).length=0):Mw x y=[]:=by have c:=aC h;unfold Mw;rw [c];split<;>rfl
theorem Ypf(e:y.length<=x.length)(c:(cf y (y.length-1)).sign<0)(d:((x.length:Int)-(y.length:Int)+1)%2=1):Mw x y=Zz (Qn x y):=by unfold Mw;grind
theorem Yaq(c:¬(cf y (y.length-1)).sign<0):Mw x y=Zr (Zz (Qn x y)) (-1):=by unfold Mw;grind
theorem Yap(d:y.length<=x.length)(c:¬((x.length:Int)-(y.length:Int)+1)%2=1):Mw x y=Zr (Zz (Qn x y)) (-1):=by unfold Mw;grind
theorem Zlh(k:Vp xs)(l:xs≠[])(h:Ypd F xs):Vp (sqf F xs):=by
 obtain⟨_,_,_,d,c⟩:=h;have j:=Zxr k;unfold sqf Ly;split
 .grind
 .rename_i m;rcases c with c|c
  .grind
  .have e:=(Zco d).2 c.1;refine⟨?_,Qj _,?_⟩
   .rw [<-Zdp];exact(Yan e c.2.1).tzl
   .have g:=Mc (Zho (Xc xs) (Ng F (Xc xs) (Xf (Xc xs))) ((Xc xs).length-(Ng F (Xc xs) (Xf (Xc xs))).length+1));rw [Zdp,Zaq]at g;have:=j.len;grind [Zco]
theorem Zmy(d:Vp xs)(h:Ypd F xs):(sqf F xs).length<=xs.length:=by
 obtain⟨_,_,_,e,c⟩:=h;have k:=Pp d.tr;unfold sqf Ly;split
 .simp
 .rename_i g;rcases c with c|c
  .grind
  .have j:=Mc (Zho (Xc xs) (Ng F (Xc xs) (Xf (Xc xs))) ((Xc xs).length-(Ng F (Xc xs) (Xf (Xc xs))).length+1));grind [Zdp,Zaq,Zco]
theorem Ydy{L:List Int}{n l:Int}(hi:i<L.length)(h:(n,l)=(L.take i).foldl Ni (0,0))(hs:L.getD i 0=s)(c:s=0):(n,l)=(L.take (i+1)).foldl Ni (0,0):=by rw [Po 0 L i hi,Zcl,<-h];unfold Ni;grind
theorem Ydx{L:List Int}{n l:Int}(hi:i<L.length)(h:(n,l)=(L.take i).foldl Ni (0,0))(hs:L.getD i 0=s)(c:s≠0)(d:s=-l):(n+1,s)=(L.take (i+1)).foldl Ni (0,0):=by rw [Po 0 L i hi,Zcl,<-h];unfold Ni;grind
theorem Ydw{L:List Int}{n l:Int}(hi:i<L.length)(h:(n,l)=(L.take i).foldl Ni (0,0))(hs:L.getD i 0=s)(c:s≠0)(d:¬s=-l):(n,s)=(L.take (i+1)).foldl Ni (0,0):=by rw [Po 0 L i hi,Zcl,<-h];unfold Ni;grind
theorem Ysv{L:List Int}{n l:Int}(hi:L.length<=i)(h:(n,l)=(L.take i).foldl Ni (0,0)):n=chg L:=by rw [cI hi]at h;unfold chg;grind
theorem Yih{z:Int}:-1<=z.sign/\z.sign<=1:=by grind
theorem Yk3{α:Type}{d:α}{f:α->Int}{ls:List α}(h:i<ls.length):(ls.map f).getD i 0=f (ls.getD i d):=by grind
def sgx(ls:List (SL×List Int))(f:List Int->Int):List Int:=ls.map λz=>f z.2
def Zum(ls:List (SL×List Int))(f:List Int->Int)(h:i<ls.length):(sgx ls f).getD i 0=f (ls.getD i ((none,0,0),[])).2:=Yk3 h
def Zmz(ls:List (SL×List Int))(f:List Int->Int):(sgx ls f).length=ls.length:=aT ..
def fr(p:List Int):Int:=(cf p (p.length-1)).sign
def fl(p:List Int):Int:=if p.length%2=0 then-(cf p (p.length-1)).sign else(cf p (p.length-1)).sign
def Cl(x y:Int)(p:List Int):Int:=(pev p x y).sign
def fat_r(x y:Int)(p:List Int):-1<=Cl x y p/\Cl x y p<=1:=Yih
theorem Zoo:∀(f:Nat) {x y:List Int},Vp x->Vp y->cok f x y->∀p∈Nz f x y,Vp p
 | 0,x,y,d,_,_,p,c=>by rw [bI.1 c];omega
 | f+1,x,y,d,e,h,p,c=>by
  unfold Nz at c;split at c
  .rw [bI.1 c];exact d
  .rcases h with h|h
   .contradiction
   .rcases bB.1 c with rfl|c
    .exact d
    .exact Zoo f e (Zli d h.1) h.2.2 p c
theorem Yha(k:Vp xs)(d:xs≠[])(j:Zac F xs):∀p∈chn F xs,Vp p:=by obtain⟨e,g,h⟩:=j;have c:=Zlh k d e;exact Zoo F c (Lx (Zgc c (λi hi=>g i (by grind [Zmy])))) h
def cnt(F:Nat)(xs:List Int)(x y:Int):Int:=chg ((chn F xs).map (Cl x y))
def sright(F:Nat)(xs:List Int):Int:=chg ((chn F xs).map fr)
def sleft(F:Nat)(xs:List Int):Int:=chg ((chn F xs).map fl)
theorem Yat{C:List (List Int)}(h:ls.map Prod.snd=C)(f:List Int->Int):sgx ls f=C.map f:=by rw [<-h,kO];rfl
def Lo{C:List (List Int)}{p:List Int->Prop}(h:ls.map Prod.snd=C)(c:∀q∈C,p q):∀z∈ls,p z.2:=λz d=>c _ (h▸mR d)
theorem Zbx(L:List Int):0<=chg L/\chg L<=L.length:=by
 unfold chg;suffices h:∀(l:List Int) (s:Int×Int),s.1<=(l.foldl Ni s).1/\(l.foldl Ni s).1<=s.1+l.length by grind
 intro l
 induction l with
 | nil=>simp
 | cons x l c=>
  intro s;have d:=c (Ni s x);have e:=chg1_n s x;simp only [gC,dP];omega
theorem Za7:∀(f:Nat) (x y:List Int),(Nz f x y).length<=f+1
 | 0,x,y=>aI _
 | f+1,x,y=>by
  unfold Nz;split
  .simp
  .have:=Za7 f y (Mw x y);simp;omega
def sm(xs:List Int)(i:Nat):Nat:=(xs.take i).foldl (λm c=>max m c.natAbs) 0
def Zfx{x y:Int}(h:¬Ij x y):Dq x y=x/Kq x y/\Eh x y=y/Kq x y/\Yi8 x y=0:=⟨aG h,aG h,aG h⟩
theorem nr_bl{x y:Int}(h:¬Ij x y):bl (Dq x y).natAbs<=65536/\bl (Eh x y).natAbs<=65536:=by obtain⟨c,d,_⟩:=Zfx h;rw [c,d];unfold Ij at h;omega
theorem Zyr{x y:Int}(h:¬Ij x y)(c:0<y):0<Eh x y:=by simp_all [Zfx,Yfy]
abbrev R2:=Int×Int
def Oi(a b:R2):R2:=(Dq (Dq (a.1*b.2+b.1*a.2) (a.2*b.2)*1) (Eh (a.1*b.2+b.1*a.2) (a.2*b.2)*2),Eh (Dq (a.1*b.2+b.1*a.2) (a.2*b.2)*1) (Eh (a.1*b.2+b.1*a.2) (a.2*b.2)*2))
def Zff(a b:R2):Prop:=¬Ij (a.1*b.2+b.1*a.2) (a.2*b.2)/\¬Ij (Dq (a.1*b.2+b.1*a.2) (a.2*b.2)*1) (Eh (a.1*b.2+b.1*a.2) (a.2*b.2)*2)
instance (a b:R2):Decidable (Zff a b):=by unfold Zff;infer_instance
def Yfv{a b:R2}(h:Zff a b):Yi8 (Dq (a.1*b.2+b.1*a.2) (a.2*b.2)*1) (Eh (a.1*b.2+b.1*a.2) (a.2*b.2)*2)=0:=(Zfx h.2).2.2
def isp(c:R2->Int)(e:Int):Nat->R2->R2->Int->Int->Nat->List (R2×R2)
 | 0,_,_,_,_,_=>[]
 | f+1,a,b,fr,g,d=>if fr=g then []else if fr-g=1/\e<=(d:Int)then [(a,b)]else isp c e f a (Oi a b) fr (c (Oi a b)) (d+1) ++ isp c e f (Oi a b) b (c (Oi a b)) g (d+1)
def Ych(c:R2->Int)(g:R2->Prop)(e:Int):Nat->R2->R2->Int->Int->Nat->Prop
 | 0,_,_,_,_,_=>False
 | f+1,a,b,fr,h,d=>fr=h\/(fr-h=1/\e<=(d:Int))\/(d<1000/\Zff a b/\g (Oi a b)/\Ych c g e f a (Oi a b) fr (c (Oi a b)) (d+1)/\Ych c g e f (Oi a b) b (c (Oi a b)) h (d+1))
instance ispDec (c:R2->Int) (e:R2->Prop) [DecidablePred e] (g:Int):∀f a b fr h d,Decidable (Ych c e g f a b fr h d)
 | 0,_,_,_,_,_=>inferInstanceAs (Decidable False)
 | f+1,a,b,fr,h,d=>@instDecidableOr _ _ _ (@instDecidableOr _ _ _ (@instDecidableAnd _ _ _ (@instDecidableAnd _ _ _ (@instDecidableAnd _ _ _ (@instDecidableAnd _ _ (ispDec c e g f a (Oi a b) fr (c (Oi a b)) (d+1)) (ispDec c e g f (Oi a b) b (c (Oi a b)) h (d+1)))))))
def okQ(z:R2):Prop:=bl z.1.natAbs<=65536/\bl z.2.natAbs<=65536/\0<z.2
def evok(ls:List (SL×List Int))(m:R2):Prop:=∀z∈ls,¬Kz z.2 m.1 m.2
def cvx(ls:List (SL×List Int))(m:R2):Int:=chg (sgx ls (Cl m.1 m.2))
def cvc(F:Nat)(xs:List Int)(m:R2):Int:=cnt F xs m.1 m.2
def evc(F:Nat)(xs:List Int)(m:R2):Prop:=∀p∈chn F xs,¬Kz p m.1 m.2
def slow(a:R2):R2:=(Dq a.1 a.2,Eh a.1 a.2)
def sisol(F:Nat)(xs:List Int)(f:Nat)(a b:R2)(c:Int):List (R2×R2):=isp (cvc F xs) c f (slow a) (slow b) (cvc F xs a) (cvc F xs b) 0
def isOK(F:Nat)(xs:List Int)(f:Nat)(a b:R2)(c:Int):Prop:=Zac F xs/\evc F xs a/\evc F xs b/\¬Ij a.1 a.2/\¬Ij b.1 b.2/\Ych (cvc F xs) (evc F xs) c f (slow a) (slow b) (cvc F xs a) (cvc F xs b) 0/\(sisol F xs f a b c).length<=1000000
open Go.RowKit Below
variable {P:Program} {N:Nat} {sc:Nat->Prop} {env env':Pu} {H H':Hp} {Q Q':Exit->Act->World->Prop} {M:Nat->Prop}
def CalM(P:Program)(f:FuncId)(args:Array Value)(pre:List Pc){G:Type}(φ:G->Prop)(Yq:G->Value)(d c:G->Pc):Prop:=
 ∀w,(∀p∈pre,p.holds w)->Calls P f args w λe h=>∃g,e= .returned (Yq g)/\φ g/\Below w.heap.size w h/\(d g).holds h/\(∀b,(d g).fp b->w.heap.size<=b)/\
  (c g).holds h/\(c g).own=false/\(∀b,(c g).fp b->w.heap.size<=b\/∃q∈pre,q.fp b)/\∀b,(d g).fp b->(c g).fp b->False
theorem Yo5 {o:Oper}  {xs:List Operand}  {d n:Nat}   {G:Type} {φ:G->Prop} {Yq:G->Value} {it D:G->Pc}  
  (hc:CalM P f vs.toArray pre φ Yq it D)
  (ho:o.op= .call { callee:= .value (.func f),args:=xs.toArray,argTypes:=ats }) (hd:o.dst=some d) (hN:Nat.blt d N=true)
  (t:EvL env xs vs) (u:∀args w,(callFunc f args).run P w= .ok (.enter f args) w) (k:PreOk H true pre)
  (h0:lk H 0=some (Yx w0 M0)) (hw:∀b,w0.heap.size<=b->sc b) :
  T P N sc M o env H φ (λg=>(d,Yq g)::env) (λg=>(n,it g)::(n+1,D g)::H):=λa w hs K Q hK=>by
 have hr:(execOp a.eval o).run P w= .ok (.enter f vs.toArray) w:=by rw [Ix hs ho t,u]
 unfold Oper.wp;rw [hr];refine(hc w (λp hp=>by obtain⟨i,it,_,hi,Z,_,_⟩:=k.mem p hp;exact Z w (hs.hold i it hi))).mono ?_
 rintro e w' ⟨g,rfl,hg,r,a2,S,a0,a1,W,R⟩;show K (a.put o.dst (Yq g)) w';rw [hd];have a5:Sat N sc env H a w':=hs.chg0 (Chg.of_below r);have a7:=(hs.hold 0 _ h0).size;have a6:=a5.add (n+1) (D g) a0 (λj I a3 l Hf b m c=>by
  rcases Hf with Hf|Hf
  .rw [a1]at Hf;cases Hf
  .rcases W b m with h|⟨q,hq,v⟩
   .have:=I.lt w b (hs.hold j I l) c;omega
   .obtain⟨i,B,V,hi,_,z,a4⟩:=k.mem q hq;by_cases Y:j=i
    .subst Y;rw [hi]at l;cases l;rw [a4 rfl]at Hf;cases Hf
    .exact hs.sep j i I B Y l hi Hf b c (z b v)) (λb m=>by
  rcases W b m with h|⟨q,hq,v⟩
  .exact hw b O
  .obtain⟨i,B,V,hi,_,z,_⟩:=k.mem q hq;exact hs.scope i B V hi b (z b v))
 refine hK g _ _ hg (Sat.put (a6.add n (it g) a2 (λj I a3 l Hf b m c=>?_) (λb m=>hw b (by have:=S b m;omega))) d _ hN) (Chg.of_below r);by_cases hk:n+1=j
 .subst hk;rw [Yl]at l;cases l;exact R b m c
 .rw [Zx _ _ hk]at l;have h1:=I.lt w b (hs.hold j I l) c;have h2:=S b m;omega
def Yoi(P:Program)(fn:Func)(w0:World)(pre:List Pc){G:Type}(φ:G->Prop)(Yq:G->Value)(d c:G->Pc):Exit->Act->World->Prop:=
 bodyPost P fn λe h=>∃g,e= .returned (Yq g)/\φ g/\Below w0.heap.size w0 h/\(d g).holds h/\(∀b,(d g).fp b->w0.heap.size<=b)/\
  (c g).holds h/\(c g).own=false/\(∀b,(c g).fp b->w0.heap.size<=b\/∃q∈pre,q.fp b)/\∀b,(d g).fp b->(c g).fp b->False
theorem Ysz   {c:Code}   {G:Type} {φ:G->Prop} {Yq:G->Value} {I o:G->Pc} {N:Nat}
  (V:P.funcs[f]? = some fn) (g:fn.body=some c) (R:fn.ntmps=N) (m:Nat.ble vs.length N=true) (B:AllRo pre)
  (h:∀w0 (sc:Nat->Prop),(∀b,w0.heap.size<=b->sc b)->(∀b,sc b->w0.heap.size<=b\/∃q∈pre,q.fp b)->
   E P N sc c (Yoi P fn w0 pre φ Yq I o) (Qv 0 vs) ((0,Yx w0 (λ_=>False))::Yz 1 pre)) :
  CalM P f vs.toArray pre φ Yq I o:=λw Y=>by
 refine calls_of_wp V g (h w (λb=>w.heap.size<=b\/∃q∈pre,q.fp b) (λb g=> .inl g) (λb g=>g) _ w ?_);have m:vs.length<=N:=by simpa using m
 have d:∀i p,lk ((0,Yx w (λ_=>False))::Yz 1 pre) i=some p->(i=0/\p=Yx w (λ_=>False))\/(i≠0/\p∈pre/\p.own=false):=λi p hi=>by
   by_cases l:0=i
   .subst l;rw [Yl]at hi;cases hi;exact .inl ⟨rfl,rfl⟩
   .rw [Zx _ _ l]at hi;obtain⟨_,k⟩:=Nt pre 1 i p hi;exact .inr ⟨λe=>l e.symm,k,B.mem p k⟩
 refine⟨by simp [R];omega,rfl,λt v Z=>?_,λi p hi=>?_,λi j p q W hi hj z b g S=>?_,λi p r hi b g=>?_⟩
 .have D:vs.toArray[t]? = some v:=by simpa using(Ge vs 0 t v Z).2
  have u:=(aS.1 D).1;rw [bO,dY u,D];rfl
 .rcases d i p hi with⟨_,rfl⟩|⟨_,k,_⟩
  .exact Chg.refl _ w
  .exact Y p k
 .rcases d i p hi with⟨_,rfl⟩|⟨_,k,n⟩
  .cases z
  .rw [n]at z;cases z
 .rcases d i p hi with⟨l,_⟩|⟨_,k,_⟩
  .exact absurd l r
  .exact .inr ⟨p,k,g⟩
theorem Yon   {G:Type} {φ:G->Prop} {Yq:G->Value} {k c:G->Pc}  {e:Exit} (Y:e= .ret\/e= .normal) (V:∀b,sc b->w0.heap.size<=b\/∃q∈pre,q.fp b)
  (g:G) {v:Value} (o:∀a w,Sat N sc env H a w->(results fn a.tmps).run P w= .ok v w) (hv:Yq g=v) (Z:φ g) (W:lk H 0=some (Yx w0 (λ_=>False)))
  (i:Nat) (z:Nat.beq i 0=false) (hi:lk H i=some (k g)) (d:(k g).own=true) (j:Nat) (I:Nat.beq j 0=false) (D:lk H j=some (c g)) (R:(c g).own=false) (B:Nat.beq i j=false) :
  X N sc e (Yoi P fn w0 pre φ Yq k c) env H:=λa w hs=>by
 have l:i≠0:=λe=>by subst e;simp at z
 have n:j≠0:=λe=>by subst e;simp at I
 have m:i≠j:=λe=>by subst e;simp at B
 have r:a.defers=[]/\∃v,(results fn a.tmps).run P w= .ok v w/\(∃g,Ending.returned v= .returned (Yq g)/\φ g/\Below w0.heap.size w0 w/\(k g).holds w/\(∀b,(k g).fp b->w0.heap.size<=b)/\
   (c g).holds w/\(c g).own=false/\(∀b,(c g).fp b->w0.heap.size<=b\/∃q∈pre,q.fp b)/\∀b,(k g).fp b->(c g).fp b->False):=by
  refine⟨hs.defers,v,o a w hs,g,by rw [hv],Z,Ib (hs.hold 0 _ W),hs.hold i _ hi,λb t=>?_,hs.hold j _ D,R,λb t=>V b (hs.scope j _ n D b t),hs.sep i j _ _ m hi D d⟩;have hn:=hs.sep i 0 _ _ l hi W d b t;rcases aX b w0.heap.size with S|u
  .exact absurd ⟨S,λh=>h⟩ hn
  .exact u
 rcases Y with rfl|rfl
 .exact r
 .exact r
theorem Zca{β:Type}{q:β->Pc}{zs ys:List β}(i j n:Nat)(hi:lk H i=some (Nb q zs))(m:lk H j=some (Nb q ys))(d:Nat.beq i 0=false)(e:Nat.beq j 0=false) :
  ∀a w,Sat N sc env H a w->Sat N sc env ((n,Nb q (zs ++ ys))::H) a w:=
 Zx4 i j n hi m d e rfl rfl (λw k l y g=>by
  rcases cP.1 g with h|h
  .exact k y h
  .exact l y h) (λb c=>by
  obtain⟨y,g,c⟩:=c;rcases cP.1 g with h|h
  .exact .inl ⟨y,h,c⟩
  .exact .inr ⟨y,h,c⟩) rfl
abbrev qD (z:SL×Nat):Pc:=Oz (Xl z.1) z.2
abbrev JE:=(R2×R2)×(SL×SL×SL×SL)
abbrev encJ (y:JE):Value:= .agg #[.bool (decide (y.1.1.1<0)),Xl y.2.1,.bool (decide (y.1.1.2<0)),Xl y.2.2.1,.bool (decide (y.1.2.1<0)),Xl y.2.2.2.1,.bool (decide (y.1.2.2<0)),Xl y.2.2.2.2]
abbrev qJ (y:JE):Pc:=Nb qD [(y.2.1,y.1.1.1.natAbs),(y.2.2.1,y.1.1.2.natAbs),(y.2.2.2.1,y.1.2.1.natAbs),(y.2.2.2.2,y.1.2.2.natAbs)]
abbrev J0:JE:=(((0,0),(0,0)),((none,0,0),(none,0,0),(none,0,0),(none,0,0)))
end Go.Sky
namespace Go.Sky
variable{M M0:Nat->Prop}{o:Oper}{x y:Operand}{t tb:TypeId}{cs:Array Value}{v:Value}{vs:List Value}{zs:List (SL×List Int)}{r:List Pc}{z:SL×List Int}
variable {P:Program} {N:Nat} {sc:Nat->Prop} {env env':Pu} {H H':Hp} {Q Q':Exit->Act->World->Prop}
theorem Zur(w:World)(g:Nat)(cs:Array Value)(t:TypeId){fr:Nat×Nat}(a:w.heap[g]? = some (.cells cs t fr)):w.setRow g cs=w:=by
 obtain⟨b,c⟩:=aS.1 a;have h:(w.setRow g cs).heap=w.heap:=by
  apply Array.ext_getElem?;intro i;by_cases h:g=i
  .subst h;rw [setRow_heap w g cs cs t fr a,a]
  .unfold World.setRow;dsimp only;rw [Array.getElem?_modify,aG h]
 have e:w.setRow g cs={ w with heap:=(w.setRow g cs).heap }:=rfl;rw [e,h]
theorem Zox (i:Nat)     {b j k:Nat}    (s:o.op= .store t x y) (p:o.dst=none)
  (D:ev env x=some (.pointer (some ⟨b,j,none⟩))) (F:ev env y=some v) (m:lk H i=some (Kv b tb cs)) (B:v.cells=vs.toArray) (q:∀w,(sizeOf t).run P w= .ok k w) (d:vs.length=k)
  (c:Nat.ble (j+vs.length) cs.size=true) (l:∀u∈vs,u.oneCell'=true) (e:Fc cs j vs=cs) :
  T P N sc M o env H (G:=Unit) (λ_=>True) (λ_=>env) (λ_=>H):=λa w hs K Q n=>by
 have g:w.heap[b]? = some (.cells cs tb (0,0)):=hs.hold i _ m;have f:=run_storeCells_at P b j tb vs 0 cs w g (by simpa using iK c) l;simp only [eP]at f;have h:(execOp a.eval o).run P w= .ok .skip (w.setRow b (Fc cs j vs)):=by simp [execOp,s,hs.ev D,hs.ev F,Instr.storeAt,Instr.sureAddr,storeVar,B,q,d,f,Fc]
 rw [e,Zur w b cs tb g]at h;unfold Oper.wp;rw [h];show K (a.put o.dst _) _;rw [p];exact n () _ _ aA (hs.put_none undef) (Chg.refl _ _)
def Yrt{c:Code}(h:E P N sc c (Exit.noGoto Q) env H):E P N sc (.scope c) Q env H:=λa w hs=>wp_scope_straight (h a w hs)
def x_ngn(h:X N sc .normal Q env H):X N sc .normal (Exit.noGoto Q) env H:=h
def Yru{l:Nat}(h:X N sc .normal Q env H):E P N sc (.label l) Q env H:=λa w hs=>wp_label (h a w hs)
def t_stp1     {i b j:Nat}   {w0:World}  (m:o.op= .store t x y) (k:o.dst=none)
  (p:ev env x=some (.pointer (some ⟨b,j,none⟩))) (q:ev env y=some v) (g:lk H i=some (box b tb cs)) (d:i≠0) (l:∀w,(sizeOf t).run P w= .ok 1 w) (c:Nat.ble (j+1) cs.size=true) (e:One N sc env H v)
  (f:lk H 0=some (Yx w0 M0)) (n:∀b,w0.heap.size<=b->sc b) (h:M b) :
  T P N sc M o env H (G:=Unit) (λ_=>True) (λ_=>env) (λ_=>(i,box b tb (Fc cs j [v]))::H):=λa w hs=>
 t_stp (cs':=#[]) (vs:=[v]) m k p q g d (Ye (e a w hs)) l rfl c ⟨e,aA⟩ f n h a w hs
def Yju{al:Bool}(i:Nat)(hi:lk H i=some (Xv 1 Nm (λy:SL×List Int=>Yy 2 wv (Xl y.1) y.2) v zs))(a:Nat.beq i 0=false)(b:z∈zs)(h:PreOk H al r):PreOk H al (Yy 2 wv (Xl z.1) z.2::r):=Zvd (q:=λy:SL×List Int=>Yy 2 wv (Xl y.1) y.2) (z:=z) i hi a b h
end Go.Sky
namespace Go.Sky
variable{v:Int}{o:Oper}{x y:Operand}{t tb:TypeId}{b k i:Nat}{kd:IntKind}{M M0:Nat->Prop}{w0:World}{cs:Array Value}
variable {P:Program} {N:Nat} {sc:Nat->Prop} {env env':Pu} {H H':Hp} {Q Q':Exit->Act->World->Prop}
def Zaf(l:List Int):Array Value:=(l.map (Value.int .i64)).toArray
theorem Yen(l:List Int):(Zaf l).size=l.length:=by simp [Zaf]
theorem Yg8{l:List Int}{j:Nat}(h:j<l.length):(Zaf l)[j]? = some (.int .i64 (l.getD j 0)):=by simp [Zaf,aN h,aK]
theorem Yg7{l:List Int}{j:Nat}(h:j<l.length):Fc (Zaf l) j [.int .i64 v]=Zaf (l.set j v):=by unfold Fc Zaf;congr 1;rw [fZ,aM h,dD,bP,List.map_take,List.map_drop];simp
theorem Fd (i:Nat)   {e:TypeId} {d c:Nat}  {m:Int} (j:o.op= .indexAddr t x y) (n:ev env x=some (.pointer (some ⟨b,d,none⟩))) (p:ev env y=some (.int kd m))
  (l:P.underlying t=some (.array c e)) (h:∀w,(sizeOf e).run P w= .ok k w) (f:m=(i:Int):=by omega) (g:i<c:=by omega):Li P N sc o env H (.pointer (some ⟨b,d+i*k,none⟩)):=λa w hs=>by
 subst f;simp [execOp,j,hs.ev n,hs.ev p,Instr.indexAt,Instr.sureAddr,asIntOf,run_underlying l,h,g,Ol]
theorem Ygo (i:Nat){j:Nat}{l:List Int}(d:o.op= .load t x)(f:ev env x=some (.pointer (some ⟨b,j,none⟩)))(a:lk H i=some (box b tb (Zaf l)))(e:∀w,(isAgg t).run P w= .ok false w)(c:j<l.length:=by omega) :
  Li P N sc o env H (.int .i64 (l.getD j 0)):=Ygp _ d f a e (Yg8 c)
theorem d_lwa{l:List Int}(e:o.op= .load t x)(h:ev env x=some (.pointer (some ⟨b,0,none⟩)))(a:lk H i=some (box b tb (Zaf l)))(f:∀w,(isAgg t).run P w= .ok true w)(c:∀w,(sizeOf t).run P w= .ok k w)(d:l.length=k) :
  Li P N sc o env H (.agg (Zaf l)):=
 Ydd (l.map (Value.int .i64)) e h a f c (by simpa using d) (λn u g=>by rw [cE];simpa [Zaf]using g)
theorem Zxu (i:Nat)     {j:Nat} {l:List Int}    (m:o.op= .store t x y) (g:o.dst=none)
  (q:ev env x=some (.pointer (some ⟨b,j,none⟩))) (r:ev env y=some (.int .i64 v)) (e:lk H i=some (box b tb (Zaf l))) (h:∀w,(sizeOf t).run P w= .ok 1 w) 
  (d:lk H 0=some (Yx w0 M0)) (p:∀b,w0.heap.size<=b->sc b) (f:M b) (a:i≠0:=by decide) (c:j<l.length:=by omega) :
  T P N sc M o env H (G:=Unit) (λ_=>True) (λ_=>env) (λ_=>(i,box b tb (Zaf (l.set j v)))::H):=by
 rw [<-Yg7 c];exact Zjj [.int .i64 v] m g q r e a rfl h rfl (by rw [Yen];exact c) (λu n=>Yd (by rw [bI.1 n];rfl)) rfl d p f
theorem Yhk (i:Nat)       {l:List Int}   (j:o.op= .store t x y) (f:o.dst=none)
  (p:ev env x=some (.pointer (some ⟨b,0,none⟩))) (q:ev env y=some (.agg (Zaf l))) (d:lk H i=some (box b tb cs)) (g:∀w,(sizeOf t).run P w= .ok k w) (h:l.length=k) (r:cs.size=k)
  (c:lk H 0=some (Yx w0 M0)) (n:∀b,w0.heap.size<=b->sc b) (e:M b) (a:i≠0:=by decide) :
  T P N sc M o env H (G:=Unit) (λ_=>True) (λ_=>env) (λ_=>(i,box b tb (Zaf l))::H):=
 Zjj (l.map (Value.int .i64)) j f p q d a rfl g (by simpa using h) O8 (λu m=>Yd (by obtain⟨z,_,rfl⟩:=eH.1 m;rfl)) (by unfold Fc Zaf;rw [dQ,jK,cE,lP O8,iG]) c n e
def Ot:Nat->Nat->Nat
 | _,0=>1
 | 0,_+1=>0
 | n+1,k+1=>Ot n k+Ot n (k+1)
theorem Zzq:∀n k,Ot n k<=2^n
 | 0,0=>O3
 | _+1,0=>dK _
 | 0,_+1=>bA _
 | n+1,k+1=>by have a:=Zzq n k;have c:=Zzq n (k+1);show Ot n k+Ot n (k+1)<=2^(n+1);rw [cH];omega
theorem Znm:∀n k,n<k->Ot n k=0
 | _,0,h=>absurd h (bN _)
 | 0,_+1,_=>rfl
 | n+1,k+1,h=>by show Ot n k+Ot n (k+1)=0;rw [Znm n k O,Znm n (k+1) O]
structure Tab (l:List Int) (n k:Nat):Prop where
 len:l.length=625
 eq:∀r c,r<25->c<25->l.getD (r*25+c) 0=if r<n\/(r=n/\c<k)then(Ot r c:Int)else 0
theorem Zi1{l:List Int}{j:Nat}(hi:i<l.length:=by omega):(l.set i v).getD j 0=if j=i then v else l.getD j 0:=by
 rw [aK,aK,List.getElem?_set];by_cases h:i=j
 .subst h;rw [aM rfl,aM hi,aM rfl];rfl
 .rw [aG h,aG (λe=>h e.symm)]
theorem Tab.start:Tab (List.replicate 625 0) 0 0:=⟨aO,λr c d a=>by rw [aG O,aK];rw [jO];split<;>rfl⟩
theorem Tab.step{l:List Int}{n:Nat}(h:Tab l n k)(w:n<25)(u:k<25)(s:v=(Ot n k:Int)){j:Nat}(m:j=n*25+k):Tab (l.set j v) n (k+1):=by
 subst m;have p:=h.len;refine⟨by rw [bM];exact p,λr c q f=>?_⟩;rw [Zi1,h.eq r c q f];by_cases e:r*25+c=n*25+k
 .have a:r=n:=O;have d:c=k:=O;subst a;subst d;rw [aM rfl,aM O];exact s
 .rw [aG e];have:¬(r=n/\c=k):=λ⟨a,d⟩=>e (by rw [a,d]);by_cases g:r<n\/(r=n/\c<k)
  .rw [aM g,aM O]
  .rw [aG g,aG O]
theorem Tab.row{l:List Int}{n:Nat}(h:Tab l n k)(f:n<k):Tab l (n+1) 0:=⟨h.len,λr c e d=>by
 rw [h.eq r c e d];by_cases g:r<n\/(r=n/\c<k)
 .rw [aM g,aM O]
 .rw [aG g];by_cases a:r<n+1\/(r=n+1/\c<0)
  .rw [aM a,Znm r c O];rfl
  .rw [aG a]⟩
theorem Tab.get{l:List Int}{n r c:Nat}(h:Tab l n k)(f:r<25)(d:c<25)(a:r<n\/(r=n/\c<k)){j:Nat}(e:j=r*25+c):l.getD j 0=(Ot r c:Int):=by rw [e,h.eq r c f d,aM a]
theorem Ydt (n:Nat)(k:Nat)(c:1<=n:=by omega)(a:1<=k:=by omega):Ot n k=Ot (n-1) (k-1)+Ot (n-1) k:=by obtain⟨m,rfl⟩:∃m,n=m+1:=⟨n-1,O⟩;obtain⟨j,rfl⟩:∃j,k=j+1:=⟨k-1,O⟩;rfl
end Go.Sky
namespace Go.Sky
variable{k b:Nat}{t tb:TypeId}{parts:List (Nat×Value)}{cells:Array Value}{o:Oper}{x y:Operand}{kd:IntKind}{v0 v1 v2:Value}{M M0:Nat->Prop}
structure Tb (l:List Int) (n k:Nat):Prop where
 len:l.length=36
 eq:∀r c,r<6->c<6->l.getD (r*6+c) 0=if r<n\/(r=n/\c<k)then(Ot r c:Int)else 0
theorem Tb.start:Tb (List.replicate 36 0) 0 0:=⟨aO,λr c d a=>by rw [aG O,aK];rw [jO];split<;>rfl⟩
theorem Tb.step{l:List Int}{n:Nat}{v:Int}(h:Tb l n k)(u:n<6)(s:k<6)(q:v=(Ot n k:Int)){j:Nat}(i:j=n*6+k):Tb (l.set j v) n (k+1):=by
 subst i;have m:=h.len;refine⟨by rw [bM];exact m,λr c p f=>?_⟩;rw [Zi1,h.eq r c p f];by_cases e:r*6+c=n*6+k
 .have a:r=n:=O;have d:c=k:=O;subst a;subst d;rw [aM rfl,aM O];exact q
 .rw [aG e];have:¬(r=n/\c=k):=λ⟨a,d⟩=>e (by rw [a,d]);by_cases g:r<n\/(r=n/\c<k)
  .rw [aM g,aM O]
  .rw [aG g,aG O]
theorem Tb.row{l:List Int}{n:Nat}(h:Tb l n k)(f:n<k):Tb l (n+1) 0:=⟨h.len,λr c e d=>by
 rw [h.eq r c e d];by_cases g:r<n\/(r=n/\c<k)
 .rw [aM g,aM O]
 .rw [aG g];by_cases a:r<n+1\/(r=n+1/\c<0)
  .rw [aM a,Znm r c O];rfl
  .rw [aG a]⟩
theorem Tb.get{l:List Int}{n r c:Nat}(h:Tb l n k)(f:r<6)(d:c<6)(a:r<n\/(r=n/\c<k)){j:Nat}(e:j=r*6+c):l.getD j 0=(Ot r c:Int):=by rw [e,h.eq r c f d,aM a]
theorem Zs7 (n:Nat)(k:Nat)(h:n<=5:=by omega):Ot n k<=32:=aB (Zzq n k) (aB (cQ O3 h) O3)
theorem Ze1 {P:Program} {e:TypeId} {n:Nat} {c a:TypeInfo} {z:Value}   (hi:P.info? t=some c) (g:P.underlying t=some (.array n e)) (h:c.zero=some z) (d:P.info? e=some a)
  (f:Instr.fill (λi=>some (i*a.size,a.size)) z.cells parts=some cells):P.built t parts=some cells:=by
 unfold Program.built;simp only [hi,g,h,d,f]
variable {P:Program} {N:Nat} {sc:Nat->Prop} {env env':Pu} {H H':Hp} {Q Q':Exit->Act->World->Prop}
def Zu{α:Type _}(i:Nat)(a b c:α):α:=match i with
 | 0=>a
 | 1=>b
 | _=>c
theorem Cu{α:Type _}{p:α->Prop}{i:Nat}{a b c:α}(d:p a)(e:p b)(f:p c):p (Zu i a b c):=by unfold Zu;split<;>assumption
theorem Zpy (i:Nat)   {e:TypeId}   {m:Int}  (j:o.op= .index t x y) (n:ev env x=some (.agg #[v0,v1,v2])) (p:ev env y=some (.int kd m))
  (l:P.underlying t=some (.array 3 e)) (g:∀w,(sizeOf e).run P w= .ok 1 w) (f:∀w,(isAgg e).run P w= .ok false w) (c:m=(i:Int)) (h:i<3:=by omega):Li P N sc o env H (Zu i v0 v1 v2):=λa w hs=>by
 subst c;have d:i=0\/i=1\/i=2:=O;rcases d with rfl|rfl|rfl<;>simp [execOp,j,hs.ev n,hs.ev p,Instr.index,asIntOf,run_underlying l,g,f,asAgg,part,Zu]
theorem Zii {α:Type}  {enc:α->Value}  {f g j:List α} (i c d e n:Nat) (l:lk H c=some (Yy k enc v0 f)) (m:lk H d=some (Yy k enc v1 g)) (p:lk H e=some (Yy k enc v2 j))
  (q:Nat.beq c 0=false) (r:Nat.beq d 0=false) (s:Nat.beq e 0=false):∀a w,Sat N sc env H a w->Sat N sc env ((n,Yy k enc (Zu i v0 v1 v2) (Zu i f g j))::H) a w:=by
 match i with
 | 0=>exact Zc6 c n l q rfl (λw h=>h) (λb h=>h) rfl
 | 1=>exact Zc6 d n m r rfl (λw h=>h) (λb h=>h) rfl
 | i+2=>exact Zc6 e n p s rfl (λw h=>h) (λb h=>h) rfl
theorem Zw1 (i:Nat)(j:Nat){α:Type}{enc:α->Value}{l:List α}(d:α)(n:o.op= .load t x)(s:ev env x=some (.pointer (some ⟨b,0+j*k,none⟩)))(g:lk H i=some (box b tb (cellsOf enc l).toArray))(e:Enc P t k enc)(m:j<l.length) :
  Li P N sc o env H (enc (l.getD j d)):=λa w hs=>by
 have hi:l[j]? = some (l.getD j d):=by simp [List.getD,aN m]
 have h:=e.load (l.getD j d) w ⟨b,0+j*k,none⟩ (λq u p=>by have f:=Gf e.cells l j _ hi q u p;rw [Ol,hs.boxc g];simpa using f)
 have c:=hs.ev s;generalize enc (l.getD j d)=r at h ⊢;generalize (⟨b,0+j*k,none⟩:Addr)=v at h c;simp [execOp,n,c,Instr.loadAt,Instr.sureAddr,h]
theorem t_sbe (i:Nat)(j:Nat)(k:Nat) {α:Type}      {enc:α->Value} {l:List α} (z:α) {w0:World}  (q:o.op= .store t x y) (n:o.dst=none)
  (v:ev env x=some (.pointer (some ⟨b,0+j*k,none⟩))) (w:ev env y=some (enc z)) (h:lk H i=some (box b tb (cellsOf enc l).toArray)) (a:Enc P t k enc) (f:j<l.length)
  (g:lk H 0=some (Yx w0 M0)) (s:∀b,w0.heap.size<=b->sc b) (m:M b) (c:i≠0:=by decide) :
  T P N sc M o env H (G:=Unit) (λ_=>True) (λ_=>env) (λ_=>(i,box b tb (cellsOf enc (l.set j z)).toArray)::H):=by
 have p:=Xk a.cells l;have e:(enc z).cells.toList.length=k:=by simp [a.cells]
 have d:(j+1)*k<=l.length*k:=aL _ f;rw [cY]at d;refine Zjj ((enc z).cells.toList) q n v w h c rfl a.size e (by rw [e,lC,p];omega) (λu r=>Yd (a.one z u r)) ?_ g s m;unfold Fc;rw [cE,e,Bb a.cells l j z f]
end Go.Sky
namespace Go.Sky
variable{o:Oper}{x:Operand}{t tb te:TypeId}{M M0:Nat->Prop}{cs:Array Value}
variable {P:Program} {N:Nat} {sc:Nat->Prop} {env env':Pu} {H H':Hp} {Q Q':Exit->Act->World->Prop}
theorem d_lea{α:Type}{i b k q:Nat}{enc:α->Value}{l:List α}(f:o.op= .load t x)(j:ev env x=some (.pointer (some ⟨b,0,none⟩)))(a:lk H i=some (box b tb (cellsOf enc l).toArray))(c:Enc P te q enc)(g:∀w,(isAgg t).run P w= .ok true w)(d:∀w,(sizeOf t).run P w= .ok k w)(e:l.length*q=k) :
  Li P N sc o env H (.agg (cellsOf enc l).toArray):=
 Ydd (cellsOf enc l) f j a g d (by rw [Xk c.cells l];exact e) (λn u h=>by rw [cE];simpa using h)
theorem t_sea {α:Type}   {y:Operand}  {i b k q:Nat}  {enc:α->Value} {l:List α} {w0:World}  (r:o.op= .store t x y) (m:o.dst=none)
  (v:ev env x=some (.pointer (some ⟨b,0,none⟩))) (B:ev env y=some (.agg (cellsOf enc l).toArray)) (g:lk H i=some (box b tb cs)) (a:i≠0) (d:Enc P te q enc) (n:∀w,(sizeOf t).run P w= .ok k w) (p:l.length*q=k) (j:cs.size=k)
  (f:lk H 0=some (Yx w0 M0)) (s:∀b,w0.heap.size<=b->sc b) (h:M b) :
  T P N sc M o env H (G:=Unit) (λ_=>True) (λ_=>env) (λ_=>(i,box b tb (cellsOf enc l).toArray)::H):=by
 have c:(cellsOf enc l).length=k:=by rw [Xk d.cells l];exact p
 refine Zjj (cellsOf enc l) r m v B g a rfl n c (by rw [c,cE,j];exact aI _) (λu e=>?_) (by unfold Fc;rw [dQ,jK,cE,lP O8,iG]) f s h
 unfold cellsOf at e;obtain⟨z,_,D⟩:=kC.1 e;exact Yd (d.one z u D)
end Go.Sky
namespace Go.Sky
variable {P:Program} {N:Nat} {sc:Nat->Prop} {env env':Pu} {H H':Hp} {Q Q':Exit->Act->World->Prop}
abbrev Zl:=(Int×Int×Int)×(SL×List Int)×(SL×List Int)×(SL×List Int)
abbrev Pa (g:Zl):Value:= .agg #[.int .i64 g.1.1,.int .i64 g.1.2.1,.int .i64 g.1.2.2,Xl g.2.1.1,Xl g.2.2.1.1,Xl g.2.2.2.1]
abbrev qC (z:SL×List Int):Pc:=Yy 1 Yk (Xl z.1) z.2
abbrev qG (g:Zl):Pc:=Nb qC [g.2.1,g.2.2.1,g.2.2.2]
abbrev G0:Zl:=((0,0,0),((none,0,0),[]),((none,0,0),[]),((none,0,0),[]))
def Pj (g:Zl)(z:SL×List Int){v:Value}{ps:List Zl}(j n:Nat)(i:lk H j=some (Xv 6 Pa qG v ps))(c:Nat.beq j 0=false)(d:g∈ps)(e:z∈[g.2.1,g.2.2.1,g.2.2.2]):∀a w,Sat N sc env H a w->Sat N sc env ((n,Yy 1 Yk (Xl z.1) z.2)::H) a w:=
 Zc6 j n i c rfl (λw h=>h.2 g d z e) (λb f=> .inr ⟨g,d,z,e,f⟩) rfl
end Go.Sky
namespace Go.Sky
variable{x over:Int}{c:List Int}
theorem Gt(h:Nw x):bl x.natAbs<=64:=(Qo 64 _).2 (by obtain⟨a,b⟩:=h;omega)
theorem in_bl(h:bl x.natAbs<=63):Nw x:=by have:=(Qo 63 x.natAbs).1 h;exact⟨O,O⟩
theorem bl_pw{n:Int}{i:Nat}(h:bl n.natAbs<=100)(hi:i<=10):bl (n^i).natAbs<=1000:=by
 rcases aV i with a|a
 .subst a;rw [dE];decide
 .exact aB (Fk n h i a) (by have:=aL 100 hi;omega)
def Zan:List Int->Int
 | []=>1
 | x::r=>x*Zan r
def zc6_eq:(Value.agg (List.replicate 36 (Value.int .i64 0)).toArray).cells=Zaf (List.replicate 36 0):=rfl
def Ztt:(Value.agg (List.replicate 36 (Value.int .i64 0)).toArray).cells.size=36:=rfl
def w60(n j k:Nat):Int:=60/(Ot n k:Int)*(Ot j k:Int)
def ctl(c:List Int)(j m:Nat):Int:=Yj (λk=>c.getD k 0*w60 (c.length-1) j k) m
def Ynb(c:List Int)(j m:Nat):ctl c j (m+1)=ctl c j m+c.getD m 0*w60 (c.length-1) j m:=rfl
theorem Zk6:∀{n k:Nat},k<=n->0<Ot n k
 | n,0,_=>by cases n<;>exact Nat.one_pos
 | n+1,k+1,h=>by have:=Zk6 (n:=n) (k:=k) O;show 0<Ot n k+Ot n (k+1);omega
theorem Zxq (n:Nat)(j:Nat)(k:Nat)(d:j<=5):0<=w60 n j k/\w60 n j k<=1920:=by have e:=Zs7 _ k d;unfold w60;have a:(0:Int)<=60/(Ot n k:Int):=jJ O3 O;have b:(60:Int)/(Ot n k:Int)<=60:=lJ _ O3;refine⟨dZ a O,?_⟩;have:=jW b (show(Ot j k:Int)<=32 by omega) O O3;omega
theorem Znv (n:Nat)(k:Nat){j:Nat}(a:j<=5):bl (w60 n j k).natAbs<=11:=by have:=Zxq n _ k a;exact(Qo 11 _).2 O
theorem Lp(h:∀x∈c,Nw x)(k:Nat):Nw (c.getD k 0):=by
 by_cases a:k<c.length
 .exact h _ (Zd a)
 .rw [aK,bT O];exact⟨O3,O3⟩
theorem Zdz(h:∀x∈c,Nw x){j m:Nat}(a:j<=5)(b:m<=31):bl (ctl c j m).natAbs<=80:=
 Zla (K:=75) (λk _=>by have d:=Gt (Lp h k);have e:=Znv (c.length-1) k a;have:=Yr (c.getD k 0) (w60 (c.length-1) j k);omega) b
def Znu(c:List Int)(over:Int):Bool:=(List.range c.length).all λj=>decide ((ctl c j (j+1)).natAbs<=62914560*over)
theorem Zzw(h:∀j,j<c.length->((ctl c j (j+1)).natAbs:Int)<=62914560*over):Znu c over=true:=by unfold Znu;rw [cJ];intro j a;exact aJ (h j (gT.1 a))
theorem Zzx (j:Nat)(a:j<c.length)(h:¬((ctl c j (j+1)).natAbs:Int)<=62914560*over):Znu c over=false:=by
 cases hb:Znu c over with
 | false=>rfl
 | true=>
  unfold Znu at hb;rw [cJ]at hb;exact absurd (cF (hb j (gT.2 a))) h
theorem wc_abs{s:Int}:(#[.bool false,.string (Qq s.natAbs)]:Array Value)=wc (s.natAbs:Int):=by have:decide (((s.natAbs:Nat):Int)<0)=false:=aF O;rw [show wc (s.natAbs:Int)=#[.bool (decide (((s.natAbs:Nat):Int)<0)),.string (Qq ((s.natAbs:Nat):Int).natAbs)]from rfl,this,dC]
theorem sgp(z:Int):0<z.sign↔0<z:=by simpa using El z
end Go.Sky

