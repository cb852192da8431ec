/- Rules, arithmetic and contracts: part 4. No conditions but those that each theorem names. -/
import Derived.Test.YteikicbnfbgpnaaGreatEa202
import Derived.Scope
set_option linter.all false
namespace Go.Sky
variable{a b s c:List Int}
theorem Ap (k:Nat){f:Nat->Int} : ∀{n:Nat},k<n->(∀i,i<n->i≠k->f i=0)->Yl f n=f k
 | 0,d,_=>absurd d (bD _)
 | n+1,d,h=>by
  rw [Yp];by_cases e:k=n
  .subst e;rw [Gl λi hi=>h i O1 O1,kV]
  .rw [h n O6 (λx=>e x.symm),Ap _ O1 (λi hi=>h i O1),gX]
theorem Zab{p q:List Int}{a b:Nat}(e:∀i,a<i->cf p i=0)(f:∀i,b<i->cf q i=0):(ps p*ps q).c (a+b)=cf p a*cf q b:=by
 rw [PS.mul_c,Ap a O1 λi hi d=>?_]
 .grind [Md]
 .rw [Md,Md];grind
theorem Zhi(s e:List Int)(c d:Int)(f:PS)(t:Nat):(ps (Ek (Zt s c) (Zt e d))*f).c t=c*(ps s*f).c t-d*(ps e*f).c t:=by rw [PS.mul_c,PS.mul_c,PS.mul_c,<-Mn,eT,<-Int.neg_mul,<-Mn,<-Fy];refine Xr λk _=>?_;rw [Md,Md,Md,Im,Yo,Yo];grind
theorem Zwf(f:PS)(q d:List Int)(u v:Int)(h:∀i,u*cf q i=v*cf d i)(t:Nat):u*(f*ps q).c t=v*(f*ps d).c t:=by grind [PS.mul_c,Mn,Xr,Md]
theorem Yc4{q r:List Int}(j:Tr q)(f:q≠[])(h:∀t,(ps s*ps q).c t=cf r t)(o:∀t,q.length-1<=t->cf r t=0):∀t,cf s t=0:=by
 have d:=j.mem f;have hs:tzl s=[]:=by
  rcases Zkz _ with g|⟨u,y,g⟩
  .omega
  .have k:=Qn s;have e:tzl s≠[]:=O11;have l:=k.mem e;have m:=Zab (p:=tzl s) (q:=q) (a:=(tzl s).length-1) (b:=q.length-1) (λi hi=>Yr O1) (λi hi=>Yr O1);have n:ps _=ps s:=PS.ext' λi=>Ly s i;grind [Int.mul_eq_zero]
 grind [Iy]
theorem Kh(h:∀t,cf s t=0)(f:PS)(t:Nat):(ps s*f).c t=0:=by simp_all [PS.mul_c,Gl,Md,cK]
theorem Ox{p q:List Int}(f:Tr p)(g:Tr q)(d:p≠[])(e:q≠[]):(Qx p q).length=p.length+q.length-1:=by have h:=aH.2 d;have j:=aH.2 e;unfold Qx;rw [Ao,Xa];right;rw [Xa,Ml,aM O1,show p.length+q.length-1-1=(p.length-1)+(q.length-1) by omega,Zab (λi hi=>Yr O1) (λi hi=>Yr O1)];exact bB (f.mem d) (g.mem e)
def mono(s:Nat)(c:Int):List Int:=List.replicate s 0 ++ [c]
theorem Zlr(s:Nat)(c:Int)(i:Nat):cf (mono s c) i=if i=s then c else 0:=by
 unfold mono;rw [Zqj];split
 .unfold cf;grind
 .split
  .rename_i d;subst d;simp [cf]
  grind [Yr]
theorem Zm8(s:Nat)(c:Int)(f:PS)(t:Nat):(ps (mono s c)*f).c t=if s<=t then c*f.c (t-s)else 0:=by
 rw [PS.mul_c];split
 .rw [Ap s O1 λi _ d=>by rw [Md,Zlr,aK d,cK],Md,Zlr,aM rfl]
 .exact Gl λk e=>by rw [Md,Zlr,aK O1,cK]
theorem Zix{p q:List Int}(o:0<q.length)(n:q.length<=p.length):∀j,j<=p.length-q.length+1->∃s:List Int,∀t,cf q (q.length-1)^j*cf p t=(ps s*ps q).c t+cf (Pq p q j) t
 | 0,_=>⟨[],λt=>by rw [Kh (λt=>Yr (bE _))];unfold Pq;simp⟩
 | j+1,y=>by
  obtain⟨s,r⟩:=Zix o n j O1;refine⟨Ek (Zt s (cf q (q.length-1))) (Zt (mono (p.length-1-j-(q.length-1)) (cf (Pq p q j) (p.length-1-j))) (-1)),λt=>?_⟩;rw [Zhi,Zm8];have d:=r t;show _=_+cf (Zgw q _ _) t;rw [dD];rcases aW t p.length with h|h
  .rw [Zh8 (by grind [Ob])];generalize p.length-1-j-(q.length-1)=f;generalize cf (Pq p q j) t=k at d ⊢;generalize (ps s*ps q).c t=X at d ⊢;generalize cf q _^j=L at d ⊢;generalize cf q _=l at d ⊢;have e:L*l*cf p t=l*X+k*l:=O5;rw [e];by_cases m:f<=t
   .rw [aM m,Md];by_cases x:t<f+q.length
    .omega
    .rw [Yr (p:=q) (i:=t-_) O1];simp
   omega
  .have g:=Yr h;have u:cf (Pq p q j) t=0:=Yr (by grind [Ob]);have v:cf (Zgw q (Pq p q j) (p.length-1-j)) t=0:=Yr (by grind [Zhn,Ob]);have w:cf q (t-(p.length-1-j-(q.length-1)))=0:=Yr O1;rw [g,u,gX]at d;rw [g,v,Md,w,<-d];simp
theorem Cw(p:List Int){q:List Int}(e:q≠[]):∃(k:Nat) (s:List Int),∀t,cf q (q.length-1)^k*cf p t=(ps s*ps q).c t+cf (Qu p q) t:=by
 have d:=aH.2 e;rcases aW p.length q.length with h|h
 .refine⟨0,[],λt=>?_⟩;rw [Kh (λt=>Yr (bE _))];unfold Qu;grind
 .obtain⟨s,hs⟩:=Zix d h _ (aF _);refine⟨p.length-q.length+1,s,λt=>?_⟩;unfold Qu;simp_all [aK,Ly]
theorem Pg(p:List Int){q:List Int}(e:q≠[]):(Qu p q).length<q.length:=by
 have d:=aH.2 e;unfold Qu;split
 .omega
 .have:=Zcc (p:=Pq p q _) λi hi=>Zfs d O1 _ (aF _) i O1;omega
theorem Kt{p q:List Int}(d:Tr p):Tr (Qu p q):=by unfold Qu;grind [Qn]
def Sim(a b:List Int):Prop:=∃m n:Int,m≠0/\n≠0/\∀i,m*cf a i=n*cf b i
def Sim.refl(a:List Int):Sim a a:=⟨1,1,O1,O1,λ_=>rfl⟩
def Sim.symm : Sim a b->Sim b a:=λ⟨m,n,d,e,h⟩=>⟨n,m,e,d,λi=>(h i).symm⟩
def Sim.trans : Sim a b->Sim b c->Sim a c:=λ⟨m,n,d,e,h⟩ ⟨u,v,f,g,k⟩=>
 ⟨m*u,n*v,bB d f,bB e g,λi=>O5⟩
theorem Sim.zero(h:Sim a b){i:Nat}(hi:cf a i=0):cf b i=0:=by obtain⟨m,n,d,e,h⟩:=h;grind [Int.mul_eq_zero]
theorem Sim.len_le(h:Sim a b)(e:Tr b):b.length<=a.length:=by
 rcases aW a.length b.length with f|f
 .exfalso;have d:b≠[]:=aH.1 O1;exact e.mem d (h.zero (Yr O1))
 omega
def Sim.len(h:Sim a b)(d:Tr a)(e:Tr b):a.length=b.length:=jT (h.symm.len_le d) (h.len_le e)
theorem Sim.nil(h:Sim a b)(d:Tr b)(e:a=[]):b=[]:=by have:=h.len_le d;simp_all
theorem Ygb{g d:List Int}(R:Tr a)(H:Tr g)(w:Tr b)(h:Tr d)(l:b≠[])(F:Sim a g)(q:Sim b d):Sim (Qu a b) (Qu g d):=by
 have f:d≠[]:=λe=>l (q.symm.nil w e);have y:=q.len w h;obtain⟨k,s,hs⟩:=Cw a l;obtain⟨x,I,i⟩:=Cw g f;have G:cf b (b.length-1)^k≠0:=Nz (w.mem l) k;have r:cf d (d.length-1)^x≠0:=Nz (h.mem f) x;generalize cf b (b.length-1)^k=L at hs G;generalize cf d (d.length-1)^x=o at i r;obtain⟨m,n,S,V,B⟩:=F;obtain⟨u,v,Y,Z,D⟩:=q;have l1:=Pg a l;have l2:=Pg g f;have j:∀t,(ps (Ek (Zt s (o*m*v)) (Zt I (L*n*u)))*ps d).c t=cf (Ek (Zt (Qu g d) (L*n*u)) (Zt (Qu a b) (o*m*u))) t:=λt=>by rw [Zhi,Im,Yo,Yo];have M:=hs t;have N:=i t;have P:=B t;have Q:=Zwf (ps s) b d u v D t;grind
 have z:=Yc4 h f j λt W=>by rw [Im,Yo,Yo,Yr (p:=Qu g d) O1,Yr (p:=Qu a b) O1];simp
 refine⟨o*m*u,L*n*u,by simp [*],by simp [*],λt=>?_⟩;have:=j t;rw [Kh z,Im,Yo,Yo]at this;grind
theorem Zc1(c:Int):∀(p:List Int) (g:Int),0<=g->(p.map (· * c)).foldl (λg c=>(Int.gcd g c:Int)) (g*c.natAbs)=p.foldl (λg c=>(Int.gcd g c:Int)) g*c.natAbs
 | [],g,_=>rfl
 | x::p,g,hg=>by
  rw [bZ,iA,iA,<-Zc1 c p _ O6];congr 1;have:Int.gcd (g*(c.natAbs)) (x*c)=Int.gcd g x*c.natAbs:=by unfold Int.gcd;grind [Int.natAbs_mul,Int.natAbs_natCast,Nat.gcd_mul_right]
  omega
theorem Zi6(p:List Int)(c:Int):Yv (p.map (· * c))=Yv p*c.natAbs:=by have:=Zc1 c p 0 (eP _);rw [cK]at this;exact this
theorem Gr(p:List Int)(i:Nat):cf (Yb p) i*Yv p=cf p i:=by grind [Zd2,Int.ediv_mul_cancel,Kr]
theorem Ygc:Yb []=[]:=rfl
theorem Cz{p:List Int}(h:Tr p)(d:p≠[]):Yv p≠0:=λe=>h.mem d ((Zdl p).1 e _)
theorem Kv{p:List Int}(h:Tr p)(d:p≠[]):Yv (Yb p)=1:=by
 have f:=Cz h d;have e:=Zi6 (Yb p) (Yv p);rw [show(Yb p).map _=p from Iu (by rw [bA,Yc]) λi _=>by grind [Zf7,Gr]]at e;have g:=Nw p;have j:Yv p*(Yv (Yb p)-1)=0:=by grind
 all_goals grind [Int.mul_eq_zero]
theorem Zg7{p:List Int}(h:Yv p=1):Yb p=p:=Iu (Yc p) λi _=>by rw [Zd2,h,mV]
theorem Zfw{p:List Int}(h:Tr p):Yb (Yb p)=Yb p:=by
 by_cases d:p=[]
 .subst d;rfl
 grind [Zg7,Kv]
theorem Qm{p:List Int}(h:Tr p):Sim (Yb p) p:=by
 by_cases d:p=[]
 .subst d;exact Sim.refl _
 .exact⟨Yv p,1,Cz h d,O1,λi=>by grind [Gr]⟩
def Xj(p:List Int):List Int:=Kd (Yb p)
theorem Zmd{x y:List Int}(o:Tr x)(p:Tr y)(q:x≠[])(d:Yv x=1)(f:Yv y=1)(h:Sim x y):x=y\/∀i,cf x i=- cf y i:=by
 have r:=h.len o p;obtain⟨m,n,t,l,e⟩:=h;have g:=Zi6 x m;have j:=Zi6 y n;rw [show x.map _=y.map (· * n)from Iu O5 λi _=>by grind [Zf7,Int.mul_comm],j,d,f]at g
 have k:m=n\/m=-n:=O1;rcases k with rfl|rfl
 .grind [Iu,Int.eq_of_mul_eq_mul_left]
 .exact .inr λi=>iU l O5
theorem Dj(g:List Int)(i:Nat):cf (Kd g) i=if g.length≠0/\cf g (g.length-1)<0 then-cf g i else cf g i:=by unfold Kd;grind [Yo]
theorem Ng{g:List Int}(h:Tr g):Tr (Kd g):=by unfold Kd;grind [Ql]
theorem Ht(g:List Int):Sim (Kd g) g:=by
 by_cases h:g.length≠0/\cf g (g.length-1)<0
 .exact⟨-1,1,O1,O1,λi=>by simp_all [Dj,aM]⟩
 .exact⟨1,1,O1,O1,λi=>by rw [Dj,aK h]⟩
theorem Zr7(g:Tr a)(j:Tr b)(h:Sim a b):Xj a=Xj b:=by
 by_cases d:a=[]
 .rw [h.nil j d,d]
 .have l:=λe=>d (h.symm.nil g e);have hs:=(Qm g).trans (h.trans (Qm j).symm);have m:=Yu g;have k:=Yu j;have n:=hs.len m k;have f:Yb a≠[]:=λe=>d (aC (by grind [Yc]));rcases Zmd m k f (Kv g d) (Kv j l) hs with e|e
  .unfold Xj;grind
  .unfold Xj;refine(Ng m).ext (Ng k) λi=>?_;rw [Dj,Dj];have o:cf (Yb b) ((Yb a).length-1)≠0:=by rw [n];exact k.mem (λp=>f (aC O5))
   grind
theorem Yaa:∀(f:Nat) {a b k g:List Int},Tr a->Tr k->Tr b->Tr g->Sim a k->Sim b g->Sim (eu f a b) (eu f k g)
 | 0,_,_,_,_,_,_,_,_,h,_=>h
 | f+1,a,b,k,g,n,j,m,d,o,l=>by
  unfold eu;by_cases i:b=[]
  .rw [aM i,aM (l.nil d i)];omega
  .rw [aK i,aK (λe=>i (l.symm.nil m e))];have t1:=Kt (q:=b) n;have t2:=Kt (q:=g) j;exact Yaa f m d (Yu t1) (Yu t2) l ((Qm t1).trans ((Ygb n j m d i o l).trans (Qm t2).symm))
theorem Znt:∀(f:Nat) {a b:List Int},Tr a->Tr b->Tr (eu f a b)
 | 0,_,_,h,_=>h
 | f+1,a,b,d,e=>by
  unfold eu;split
  .exact d
  .exact Znt f e (Yu (Kt d))
theorem Zll:∀(f k:Nat) {a b:List Int},eok f a b->eu (f+k) a b=eu f a b
 | 0,k,a,b,h=>by rw [show b=[]from h,Bj,Bj]
 | f+1,k,a,b,h=>by
  rcases h with h|h
  .rw [h,Bj,Bj]
  .by_cases d:b=[]
   .rw [d,Bj,Bj]
   .rw [show f+1+k=f+k+1 by omega];unfold eu;rw [aK d,aK d];exact Zll f k h.2
theorem Ydx:∀(f:Nat) {a b:List Int},Tr a->Tr b->Yb a=a->Yb b=b->Yb (eu f a b)=eu f a b
 | 0,_,_,_,_,h,_=>h
 | f+1,a,b,d,i,e,g=>by
  unfold eu;split
  .exact e
  .exact Ydx f i (Yu (Kt d)) g (Zfw (Kt d))
theorem Zjs{p q:List Int}(d:Tr p)(e:Tr q):Tr (gA p q):=by unfold gA;all_goals grind [Yu]
theorem Zjr{p q:List Int}(d:Tr p)(e:Tr q):Tr (gB p q):=by unfold gB;all_goals grind [Yu]
theorem Zv7{F:Nat}{p q:List Int}(d:Tr p)(e:Tr q):Nq F p q=Xj (eu F (gA p q) (gB p q)):=by
 unfold Nq Xj;rw [Ydx F (Zjs d e) (Zjr d e)]
 .unfold gA;grind [Zfw]
 .unfold gB;grind [Zfw]
theorem Ysk{F G:Nat}{p q:List Int}(e:Tr p)(d:Tr q)(g:eok F p q)(i:eok G (gA p q) (gB p q)):Kd (Yb (eu F p q))=Nq G p q:=by
 rw [Zv7 e d];rw [<-Zll F _ g,<-Zll G F i];refine Zr7 (Znt _ e d) (Znt _ (Zjs e d) (Zjr e d)) ?_;rcases aW _ _ with h|h
 .rw [show gA p q=Yb q from aM h,show gB p q=Yb p from aM h];rw [show F+(G+1)=F+G+1 by rfl,show G+F=F+G by omega];have f:q≠[]:=aH.1 O1;have:eu (F+G+1) p q=eu (F+G) q (Yb p):=by
   conv=>lhs;unfold eu
   rw [aK f,show Qu p q=p from aM h]
  rw [this];exact Yaa _ d (Yu d) (Yu e) (Yu e) (Qm d).symm (Sim.refl _)
 .rw [show gA p q=Yb p from aK O1,show gB p q=Yb q from aK O1];have j:eu (F+(G+1)) p q=eu (F+G) p q:=by simp_all [Zll]
  rw [j,show G+F=F+G by omega];exact Yaa _ e (Yu e) d (Yu d) (Qm e).symm (Qm d).symm
def chk:Nat->Nat->Nat->Nat->Nat->Bool
 | 0,_,d,_,_=>Nat.beq d 0
 | f+1,e,d,A,B=>Nat.beq d 0 || (bif Nat.blt e d then chk f d e B A else
   Nat.ble (A+(e-d+1)*B) 65537 && (List.range d).all λl=>chk f d l B (bif Nat.ble l 1 then 2 else A+(e-d+1)*B))
theorem cp_nf{p:List Int}{x y z:Int}{n m:Nat}(d:Sz n p)(j:bl x.natAbs<=m)(k:bl y.natAbs<=m)(l:bl z.natAbs<=m)(i:p.length<=25)(h:n+24*(m+1)+8<=65536):Qc p+(p.length-1)*(Qc [x,y,z]+1)+8<=65536:=by
 have e:=Qy d;have f:Qc [x,y,z]<=m:=by simp only [Qc];omega
 have g:(p.length-1)*(Qc [x,y,z]+1)<=24*(m+1):=aP O1 O1;omega
theorem cp_not{p:List Int}{x y z:Int}(h:Qc p+(p.length-1)*(Qc [x,y,z]+1)+8<=65536):¬Zn0 p x y z:=λd=>by have:=d.2;omega
theorem Zfx(p:List Int)(x y z:Int):(Lv p x y z).length<=p.length:=by
 unfold Lv;split
 .simp
 grind [Nat.le_trans,Ns,Zdq]
theorem Zwo(x y:Int):Qi x y∣x:=by
 unfold Qi;split
 all_goals grind [Int.neg_dvd,Int.gcd_dvd_left]
theorem Zwn(x y:Int):Qi x y∣y:=by
 unfold Qi;split
 all_goals grind [Int.neg_dvd,Int.gcd_dvd_right]
def s8(l:List Int):Prop:=∀x∈l,(Qp x.natAbs).size<=8
abbrev Z0:SL×List Int:=((none,0,0),[])
theorem vp_eu:∀(f:Nat) {a b:List Int},Vp a->Vp b->eok f a b->Vp (eu f a b)
 | 0,_,_,h,_,_=>h
 | f+1,a,b,d,e,h=>by
  unfold eu;split
  .exact d
  .rcases h with h|h
   .contradiction
   .exact vp_eu f e (Kf (Zbg d h.1)) h.2
theorem Yhv{g:List Int}(h:Vp g):Vp (Kd g):=by
 unfold Kd;split
 .refine⟨λi=>by rw [Yo];exact Zcy h.sz i,Ql _ _,aB (Ok _ _) h.len⟩
 omega
def Ybb{F:Nat}{p q:List Int}(d:Vp p)(e:Vp q)(h:eok F (gA p q) (gB p q)):Vp (Nq F p q):=Yhv (vp_eu F (vp_gA d e) (vp_gB d e) h)
def pevn(p:List Int)(x y:Int)(n:Nat):Int:=Yl (λi=>cf p i*(x^i*y^(n-1-i))) n
def dn(p:List Int)(y:Int):Int:=y^(p.length-1)
theorem Fr(q:List Int):Qx [] q=[]:=Zbr (.inl rfl)
theorem Zcn(p:List Int):Qx p []=[]:=Zbr (.inr rfl)
theorem Zwm(N D:Int):N/Qi N D*D=N*(D/Qi N D):=by grind [Int.ediv_mul_cancel,Zwo,Zwn]
theorem Zp2{N D:Int}(h:0<D):0<D/Qi N D:=by
 have f:Qi N D=(Int.gcd N D):=aK O1;have g:=iW (Zwn N D);rw [f]at g ⊢;generalize D/(Int.gcd N D)=d at *;rcases gJ 0 d with e|e
 .omega
 .have:d*(Int.gcd N D)<=0:=fV e O6;omega
section
variable {p q:List Int}
theorem Zf2(l:Tr p)(f:Tr q)(h:p≠[])(d:q≠[]):∀j,j<=p.length->∀t,cf (Xu (Qx p q) q j) t=(ps (p.take (p.length-j))*ps q).c t
 | 0,_,t=>by rw [jY,bL];exact Gv p q t
 | j+1,y,t=>by
  have n:=Zf2 l f h d j O1;have z:=aH.2 d;have v:=Ox l f h d;have r:Xu (Qx p q) q (j+1)=Zhx q (Xu (Qx p q) q j) (p.length-1-j):=by show Zhx q _ _=_;grind
  have w:=f.mem d;have m:cf (Xu (Qx p q) q j) (p.length-1-j+q.length-1)=cf p (p.length-1-j)*cf q (q.length-1):=by rw [n,show p.length-1-j+q.length-1=(p.length-1-j)+(q.length-1) by omega,Zab (λi hi=>by rw [Dg,aK O1]) (λi hi=>Yr O1),Dg,aM O1]
  have e:dq q (Xu (Qx p q) q j) (p.length-1-j)=cf p (p.length-1-j):=by unfold dq;simp_all
  have u:(ps (p.take (p.length-j))*ps q).c t=(ps (p.take (p.length-(j+1)))*ps q).c t+(ps (mono (p.length-1-j) (cf p (p.length-1-j)))*ps q).c t:=by rw [PS.mul_c,PS.mul_c,PS.mul_c,<-Fy];refine Xr λk _=>?_;rw [Md,Md,Md,Md,Dg,Dg,Zlr];grind
  rw [r];unfold Zhx;rw [Ml,Fd,v,e,n,u,Zm8,Md];by_cases g:t<p.length+q.length-1
  .rw [aM g];by_cases o:p.length-1-j<=t
   .rw [aM o];by_cases x:t<p.length-1-j+q.length
    .omega
    .rw [Yr (p:=q) O1];simp
   omega
  .rw [aK g,PS.mul_c];refine(Gl λk _=>?_).symm;rw [Md,Md,Dg];split
   .rw [Yr (p:=q) O1,eA]
   omega
theorem Zr0(f:Tr p)(g:Tr q)(e:q≠[]):pdv (Qx p q) q/\Kg (Qx p q) q=p:=by
 by_cases d:p=[]
 .subst d;rw [Fr];exact⟨.inl rfl,rfl⟩
 have r:=aH.2 d;have t:=aH.2 e;have o:=Ox f g d e;have m:=g.mem e;have n:∀k,k<=p.length-1->cf (Xu _ q (p.length-1-k)) (k+q.length-1)=cf p k*cf q _:=λk j=>by rw [Zf2 f g d e _ O1,show k+q.length-1=k+(q.length-1) by omega,Zab (λi hi=>by rw [Dg,aK O1]) (λi hi=>Yr O1),Dg,aM O1]
 have l:(Qx p q).length-q.length=p.length-1:=O1;have h:Qx p q≠[]:=aH.1 O1;refine⟨.inr ⟨O1,λk j=>?_,?_⟩,?_⟩
 .unfold Ms;simp_all
 .rw [l,show p.length-1+1=p.length by omega];refine(Iy _).2 λi=>?_;rw [Zf2 f g d e _ (aF _),fE];simp [Kh,Yr,bE]
 .rw [Zmv h];unfold Yks;rw [l,show p.length-1+1=p.length by omega,Ba λk j=>?_,Zcq,Ao f];unfold Zxp dq;grind [Int.mul_ediv_cancel]
end
def Dv(g a:List Int):Prop:=∃(k:Int) (s:List Int),k≠0/\∀t,k*cf a t=(ps s*ps g).c t
theorem Zv9(f:PS)(t:Nat):(ps [1]*f).c t=f.c t:=by rw [PS.mul_c,Ap 0 O6 λi _ d=>by rw [Md,Yr O5,cK],Md,show cf [1] 0=1 from rfl,gQ,jY]
theorem Dv.refl(a:List Int):Dv a a:=⟨1,[1],O1,λt=>by rw [Zv9,gQ,Md]⟩
theorem Dv.nil(g:List Int):Dv g []:=⟨1,[],O1,λt=>by simp [Kh,Yr,bE]⟩
theorem Dv.sim{g:List Int} : Dv g a->Sim a b->Dv g b:=λ⟨k,s,d,h⟩ ⟨m,n,j,f,e⟩=>
 ⟨k*n,Zt s m,bB d f,λt=>by rw [PS.mul_c,show(λi=>(ps _).c i*(ps g).c _)=λi=>m*((ps s).c i*(ps g).c (t-i))from nF λi=>by grind [Md,Yo],Mn,<-PS.mul_c];grind⟩
theorem Dv.lin{g:List Int}(e:Dv g a)(f:Dv g b)(s:List Int)(L:Int)(d:L≠0)(h:∀t,L*cf c t=(ps s*ps a).c t+cf b t):Dv g c:=by
 obtain⟨k,u,j,r⟩:=e;obtain⟨m,v,l,w⟩:=f;refine⟨L*(k*m),Gb (Zt (Qx s u) m) (Zt v k),bB d (bB j l),λt=>?_⟩;have n:k*(ps s*ps a).c t=(ps (Qx s u)*ps g).c t:=by rw [Zk9,PS.mul_assoc',PS.mul_c,PS.mul_c,<-Mn];grind [Xr,Md]
 have o:(ps (Gb (Zt (Qx s u) m) (Zt v k))*ps g).c t=m*(ps (Qx s u)*ps g).c t+k*(ps v*ps g).c t:=by rw [PS.mul_c,PS.mul_c,PS.mul_c,<-Mn,<-Mn,<-Fy];refine Xr λi _=>?_;rw [Md,Md,Md,Md,Dh,Yo,Yo];grind
 grind
theorem eu_dv:∀(f:Nat) {a b:List Int},Tr a->Tr b->eok f a b->Dv (eu f a b) a/\Dv (eu f a b) b
 | 0,a,b,j,d,h=>by rw [show b=[]from h];exact⟨Dv.refl _,Dv.nil _⟩
 | f+1,a,b,j,d,h=>by
  by_cases i:b=[]
  .grind [Bj,Dv.refl,Dv.nil]
  .rcases h with h|h
   .grind
   .have e:eu (f+1) a b=eu f b (Yb (Qu a b)):=by
     conv=>lhs;unfold eu
     grind
    rw [e];have t1:=Kt (q:=b) j;obtain⟨g,l⟩:=eu_dv f d (Yu t1) h.2;obtain⟨k,s,hs⟩:=Cw a i;exact⟨g.lin (l.sim (Qm t1)) s _ (Nz (d.mem i) k) hs,g⟩
theorem Dv.of_sim{g d:List Int} : Dv g a->Sim g d->Dv d a:=λ⟨k,s,f,h⟩ ⟨m,n,i,j,e⟩=>
 ⟨m*k,Zt s n,bB i f,λt=>by grind [Int.mul_assoc,PS.mul_c,Mn,Xr,Md,Yo]⟩
theorem Dv.zero(e:Tr a)(h:Dv [] a):a=[]:=by obtain⟨k,s,f,h⟩:=h;rw [<-Ao e,Iy];intro i;have d:=h i;rw [PS.mul_comm',Kh (λt=>Yr (bE _))]at d;grind [Int.mul_eq_zero]
theorem Zeo{F:Nat}{p q:List Int}(g:Tr p)(i:Tr q)(h:eok F (gA p q) (gB p q)):Dv (Nq F p q) p/\Dv (Nq F p q) q:=by
 have j:=Zjs g i;have k:=Zjr g i;obtain⟨d,e⟩:=eu_dv F j k h;have hs:Sim _ (Nq F p q):=(Ht _).symm;have d:=d.of_sim hs;have e:=e.of_sim hs;by_cases f:p.length<q.length
 .rw [show gA p q=Yb q from aM f]at d;rw [show gB p q=Yb p from aM f]at e;exact⟨e.sim (Qm g),d.sim (Qm i)⟩
 .rw [show gA p q=Yb p from aK f]at d;rw [show gB p q=Yb q from aK f]at e;exact⟨d.sim (Qm g),e.sim (Qm i)⟩
def Zed (F:Nat){p q:List Int}(d:Tr p)(e:Tr q):Tr (Nq F p q):=Ng (Znt F (Zjs d e) (Zjr d e))
theorem Zfq(p:List Int){c:Int}(h:c≠0):Sim p (Zt p c):=⟨c,1,h,O1,λi=>by grind [Yo]⟩
def fin8(d A:Nat):Bool:=Nat.ble d 2 || Nat.ble (64+(9-d)*A) 65536
def chk2:Nat->Nat->Nat->Nat->Nat->Bool
 | 0,d,_,A,_=>fin8 d A
 | f+1,d,e,A,B=>bif Nat.beq e 0 then fin8 d A else bif Nat.blt d e then chk2 f e d B A else
   (List.range e).all λl=>chk2 f e l B (bif Nat.ble l 1 then 2 else A+(d-e+1)*B)
theorem Zcr{g:List Int}(h:Tr g):(Kd g).length=g.length:=(Ht g).len (Ng h) h
theorem Zj5(g:List Int):Yv (Kd g)=Yv g:=by
 have d:Yv (Kd g)∣Yv g:=Eg λi=>by
  have h:=Kr (Kd g) i;rw [Dj]at h;split at h
  all_goals simp_all
 have e:Yv g∣Yv (Kd g):=Eg λi=>by
  rw [Dj];split
  all_goals grind [Int.dvd_neg,Kr]
 exact Int.dvd_antisymm (Nw _) (Nw _) d e
theorem Zm0{F:Nat}{p q:List Int}(f:Tr p)(g:Tr q)(d:Nq F p q≠[]):Yv (Nq F p q)=1:=by rw [Zv7 f g]at d ⊢;unfold Xj at d ⊢;rw [Zj5];refine Kv (Znt F (Zjs f g) (Zjr f g)) λe=>d ?_;rw [e];rfl
end Go.Sky
namespace Go.Sky
variable{a b p x y xs:List Int}{i:Nat}{s:Int}{ls:List (SL×List Int)}
def Zbn(xs:List Int):Prop:=xs.length=0\/(xs.length+2)*(xs.length+2)*(Qc xs+16)<=65536
instance (xs:List Int):Decidable (Zbn xs):=by unfold Zbn;infer_instance
def sqf(F:Nat)(xs:List Int):List Int:=Kg (Xj xs) (Nq F (Xj xs) (Xi (Xj xs)))
def Yqb(F:Nat)(xs:List Int):Prop:=(∀i,i<xs.length->bl (cf (Xj xs) (i+1)*((i:Int)+1)).natAbs<=65536)/\¬Zp6 (Xj xs) (Xi (Xj xs))/\eok F (gA (Xj xs) (Xi (Xj xs))) (gB (Xj xs) (Xi (Xj xs)))/\
 Bz (Xj xs) (Nq F (Xj xs) (Xi (Xj xs)))=0/\pdv (Xj xs) (Nq F (Xj xs) (Xi (Xj xs)))
def Le(x y:List Int):List Int:=if cf y (y.length-1)<0/\(x.length-y.length+1)%2=1 then Yb (Qu x y)else Zt (Yb (Qu x y)) (-1)
def cok:Nat->List Int->List Int->Prop
 | 0,_,y=>y=[]
 | f+1,x,y=>y=[]\/(Bz x y=0/\y.length<=x.length/\cok f y (Le x y))
def Mg:Nat->List Int->List Int->List (List Int)
 | 0,x,_=>[x]
 | f+1,x,y=>if y=[]then [x]else x::Mg f y (Le x y)
theorem Du(f:Nat)(x:List Int):Mg f x []=[x]:=by cases f<;>rfl
theorem Zh5{f:Nat}(h:cok f a b)(c:b≠[]):∃g,f=g+1/\Bz a b=0/\b.length<=a.length/\cok g b (Le a b)/\Mg f a b=a::Mg g b (Le a b):=by
 cases f with
 | zero=>exact absurd h c
 | succ g=>
  rcases h with h|h
  .exact absurd h c
  .exact⟨g,rfl,h.1,h.2.1,h.2.2,by show(if b=[]then [a]else _)=_;rw [aK c]⟩
def chn(F:Nat)(xs:List Int):List (List Int):=Mg F (sqf F xs) (Yb (Xi (sqf F xs)))
def Zac(F:Nat)(xs:List Int):Prop:=Yqb F xs/\(∀i,i<xs.length->bl (cf (sqf F xs) (i+1)*((i:Int)+1)).natAbs<=65536)/\cok F (sqf F xs) (Yb (Xi (sqf F xs)))
theorem Zym(h:Vp p):Vp (Xj p):=by
 unfold Xj;have c:=Kf h;refine⟨λi=>?_,Ng c.tr,by rw [Zcr c.tr];exact c.len⟩;rw [Dj];split
 .rw [dL];exact c.sz i
 .exact c.sz i
theorem Pt(h:Tr p):(Xj p).length=p.length:=by unfold Xj;rw [Zcr (Yu h),Yc]
theorem Zl0(d:Vp x)(c:Bz x y=0):Vp (Le x y):=by
 have h:=Kf (Zbg d c);unfold Le;split
 .exact h
 .exact⟨λi=>by rw [Yo];exact Zcy h.sz i,Ql _ _,aB (Ok _ _) h.len⟩
def Nk(s:Int×Int)(x:Int):Int×Int:=if x=0 then s else(if x=-s.2 then s.1+1 else s.1,x)
def chg(l:List Int):Int:=(l.foldl Nk (0,0)).1
def Zct{α β:Type}(f:α->β->α)(a:α)(l:List β)(x:β):(l ++ [x]).foldl f a=f (l.foldl f a) x:=O6
theorem chg1_n(s:Int×Int)(x:Int):(Nk s x).1=s.1\/(Nk s x).1=s.1+1:=by
 unfold Nk;split
 .exact .inl rfl
 .dsimp only;split
  .exact .inr rfl
  .exact .inl rfl
def sgs(ls:List (List Int))(x y:Int):List Int:=ls.map λp=>(pev p x y).sign
def sgr(ls:List (List Int)):List Int:=ls.map λp=>(cf p (p.length-1)).sign
def sgl(ls:List (List Int)):List Int:=ls.map λp=>if p.length%2=0 then-(cf p (p.length-1)).sign else(cf p (p.length-1)).sign
def smost(xs:List Int):Nat:=(xs.take (xs.length-1)).foldl (λm c=>max m c.natAbs) 0
def sbound(xs:List Int):Int:=((smost xs/(cf xs (xs.length-1)).natAbs:Nat):Int)+2
def Yar(xs:List Int):Int:=if xs.length=0 then 3 else if Zbn xs then 0 else 7
def ef(z:Int×Int):Bool:=decide (512<bl z.1.natAbs) || decide (512<bl z.2.natAbs)
def chk2r(xs:List Int)(x y c d:Int):Int:=if xs.length=0 then 3 else if 0<x*d-c*y then 3 else if Zbn xs/\ef (x,y)=false/\ef (c,d)=false then 0 else 7
theorem Ytu(c:xs≠[])(h:Zbn xs):Yar xs=0:=by unfold Yar;rw [aK (λe=>c (aC e)),aM h]
theorem Zlc(h:¬cf (Yb xs) ((Yb xs).length-1)<0):Xj xs=Yb xs:=by unfold Xj Kd;rw [aK O1]
theorem Zld(c:(Yb xs).length≠0)(h:cf (Yb xs) ((Yb xs).length-1)<0):Xj xs=Zt (Yb xs) (-1):=by unfold Xj Kd;rw [aM ⟨c,h⟩]
theorem Zfy (P:Nat->Prop) : ∀n,P n->∃m,P m/\∀k,k<m->¬P k:=by
 intro n
 induction n using Nat.strongRecOn with
 | _ n f=>
  intro h;by_cases e:∃k,k<n/\P k
  .obtain⟨k,d,c⟩:=e;exact f k d c
  .exact⟨n,h,λk d c=>e ⟨k,d,c⟩⟩
theorem Ygs{n:Nat}(h:2<=n):∃p,2<=p/\p∣n/\∀d,2<=d->d∣n->p<=d:=by
 obtain⟨p,⟨f,g⟩,j⟩:=Zfy (λd=>2<=d/\d∣n) n ⟨h,Nat.dvd_refl n⟩;exact⟨p,f,g,λd k e=>by
  rcases aW d p with c|c
  .exact absurd ⟨k,e⟩ (j d c)
  .exact c⟩
theorem Zww{n p:Nat}(q:2<=p)(j:p∣n)(k:∀d,2<=d->d∣n->p<=d)(u:0<n){x y:Int}(h:(p:Int)∣x*y):(p:Int)∣x\/(p:Int)∣y:=by
 by_cases g:(p:Int)∣x
 .exact .inl g
 .right;have m:Nat.gcd p x.natAbs=1:=by
   have f:=Nat.gcd_dvd_left p x.natAbs;have o:0<Nat.gcd p x.natAbs:=Nat.gcd_pos_of_pos_left _ O1;rcases aW (Nat.gcd p x.natAbs) 2 with c|c
   .omega
   .have r:=k _ c (Nat.dvd_trans f j);have t:=kR O1 f;exfalso;refine g (gD.1 ?_);rw [dA];have l:Nat.gcd p x.natAbs=p:=O1;rw [<-l];exact Nat.gcd_dvd_right _ _
  have e:=gD.2 h;rw [dA,bT]at e;refine gD.1 ?_;rw [dA];exact(show Nat.Coprime p x.natAbs from m).dvd_of_dvd_mul_left e
theorem gauss{g:List Int}(hg:Yv g=1):∀(n:Nat) (k:Int) (s:List Int),k.natAbs=n->k≠0->(∀t,k*cf a t=(ps s*ps g).c t)->∃q:List Int,∀t,cf a t=(ps q*ps g).c t:=by
 intro n
 induction n using Nat.strongRecOn with
 | _ n ih=>
  intro k s o S h;rcases aW n 2 with P|P
  .have G:k*k=1:=by have:k=1\/k=-1:=O1;rcases this with e|e<;>subst e<;>rfl
   refine⟨Zt s k,λt=>?_⟩;have e:(ps (Zt s k)*ps g).c t=k*(ps s*ps g).c t:=by rw [PS.mul_c,PS.mul_c,<-Mn];exact Xr λi _=>by rw [Md,Md,Md,Yo];grind
   rw [e,<-h,<-fF,G,gQ]
  .obtain⟨p,V,W,pm⟩:=Ygs P;have I:∀{x y:Int},(p:Int)∣x*y->(p:Int)∣x\/(p:Int)∣y:=Zww V W pm O1;have r:(p:Int)∣k:=gD.1 (by rw [dA,o];exact W);have w:∃j,¬(p:Int)∣cf g j:=aZ λu=>by have:(p:Int)∣Yv g:=Eg λi=>aZ λhy=>u ⟨i,hy⟩;rw [hg]at this;have:=kS O4 this;omega
   obtain⟨j0,D⟩:=w;obtain⟨j,hj,F⟩:=Zfy (λj=>¬(p:Int)∣cf g j) j0 D;have hs:∀i,(p:Int)∣cf s i:=λi0=>aZ λz=>by
    obtain⟨i,hi,B⟩:=Zfy (λi=>¬(p:Int)∣cf s i) i0 z;have Q:=h (i+j);rw [PS.mul_c]at Q;have N:∀m,m<=i+j+1->(p:Int)∣Yl (λk=>if k=i then 0 else(ps s).c k*(ps g).c (i+j-k)) m:=λm=>by
     induction m with
     | zero=>intro _;exact jX _
     | succ m M=>
      intro hm;rw [Yp];refine Int.dvd_add (M O1) ?_;split
      .exact jX _
      .rename_i a0;rw [Md,Md];rcases aW m i with v|v
       .exact fQ (aZ λu=>B m v u) (kO _ _)
       .exact fQ (aZ λu=>F (i+j-m) O1 u) (Int.dvd_mul_left _ _)
    have Y:Yl (λk=>(ps s).c k*(ps g).c (i+j-k)) (i+j+1)=Yl (λk=>if k=i then 0 else(ps s).c k*(ps g).c (i+j-k)) (i+j+1)+cf s i*cf g j:=by
     have Z:Yl (λk=>(ps s).c k*(ps g).c (i+j-k)) (i+j+1)=Yl (λk=>(if k=i then 0 else(ps s).c k*(ps g).c (i+j-k))+(if k=i then(ps s).c k*(ps g).c (i+j-k)else 0)) (i+j+1):=
      Xr λk _=>by split<;>omega
     rw [Z,Fy,Ap i (f:=λk=>if k=i then(ps s).c k*(ps g).c (i+j-k)else 0) O1 (λq _ hq=>aK hq),aM rfl,Md,Md,show i+j-i=j by omega]
    rw [Y]at Q;have v:(p:Int)∣cf s i*cf g j:=by have l:cf s i*cf g j=k*cf a (i+j)-Yl (λk=>if k=i then 0 else(ps s).c k*(ps g).c (i+j-k)) (i+j+1):=O1;rw [l];exact Int.dvd_sub (fQ r (kO _ _)) (N _ (aF _))
    rcases I v with l|l
    .exact hi l
    .exact hj l
   obtain⟨d,c⟩:=r;have H:(p:Int)≠0:=O1;refine ih d.natAbs ?_ d (s.map (· / (p:Int))) rfl ?_ ?_
   .rw [<-o,c,bT,dA];have:0<d.natAbs:=by
     rcases aU d.natAbs with R|R
     .rw [show d=0 by omega]at c;simp at c;exact absurd c S
     .exact R
    have:=aJ d.natAbs V;omega
   .intro e;rw [e]at c;simp at c;exact S c
   .intro t;refine iU H ?_;rw [<-fF,<-c,h,PS.mul_c,PS.mul_c,<-Mn];refine Xr λi _=>?_;rw [Md,Md,Md,Zf7 _ _ O6,<-fF,lS (hs i)]
def ev1:List Int->Int->Int
 | [],_=>0
 | c::r,t=>c+t*ev1 r t
def sdv:List Int->Int->List Int
 | [],_=>[]
 | [_],_=>[]
 | _::c::r,t=>ev1 (c::r) t::sdv (c::r) t
theorem Znf:∀(u:List Int) (t:Int),(sdv u t).length=u.length-1
 | [],_=>rfl
 | [_],_=>rfl
 | _::c::r,t=>by unfold sdv;rw [eI,Znf _ t];simp
theorem Ydv:∀(u:List Int) (t x:Int),ev1 u x=ev1 u t+(x-t)*ev1 (sdv u t) x
 | [],t,x=>by simp [ev1,sdv]
 | [c],t,x=>by simp [ev1,sdv]
 | a::c::r,t,x=>by have d:=Ydv (c::r) t x;show a+x*ev1 _ x=a+t*ev1 _ t+(x-t)*(ev1 _ t+x*ev1 _ x);grind
theorem Yeu(a:Int)(u:List Int)(i:Nat):cf (a::u) i=if i=0 then a else cf u (i-1):=by
 cases i with
 | zero=>rfl
 | succ i=>rfl
theorem Zd3(i:Nat):cf [] i=0:=Yr (bE _)
theorem Yoj:∀(u:List Int) (t:Int) (i:Nat),cf u (i+1)=cf (sdv u t) i-t*cf (sdv u t) (i+1)
 | [],t,i=>by unfold sdv;simp [Zd3]
 | [c],t,i=>by unfold sdv;simp [Yeu,aK,Zd3]
 | a::c::r,t,i=>by
  cases i with
  | zero=>
   show c=ev1 _ t-t*cf _ 0
   match r with
   | []=>simp [ev1,sdv,cf]
   | d::r'=>unfold sdv;rw [Yeu];show c=(c+t*ev1 _ t)-_;simp
  | succ i=>
   exact Yoj _ t i
theorem Ytx:∀(u:List Int) (t:Int),cf u 0=ev1 u t-t*cf (sdv u t) 0
 | [],t=>by simp [ev1,sdv,cf]
 | [c],t=>by simp [ev1,sdv,cf]
 | a::c::r,t=>by show a=(a+t*ev1 _ t)-t*ev1 _ t;simp
theorem Zvk:∀(n:Nat) (u:List Int) (R:List Int),u.length=n->(∃i,cf u i≠0)->R.Nodup->(∀t∈R,ev1 u t=0)->R.length<n
 | 0,u,R,d,c,_,_=>by grind [List.eq_nil_of_length_eq_zero,Zd3]
 | n+1,u,[],d,c,_,_=>O6
 | n+1,u,t::R,d,c,hd,hR=>by
  have h:=hR t (bR ..);have j:=Znf u t;have g:∃i,cf (sdv u t) i≠0:=aZ λe=>by
   obtain⟨i,hi⟩:=c;cases i with
   | zero=>grind [Ytx]
   | succ i=>grind [Yoj]
  have:=Zvk n _ R O1 g (List.nodup_cons.1 hd).2 λx e=>by have f:=hR x (bH _ e);rw [Ydv u t x]at f;grind [Int.mul_eq_zero,List.nodup_cons]
  grind
def kk:Nat->Nat
 | 0=>0
 | d+1=>30*kk d+1
def pts:List Int:=[0,1,2,3,4,5,6,7,8,9,10,11,12,13,14]
def Psim(a b:List Int):Prop:=∃m n:Int,0<m/\0<n/\∀i,m*cf a i=n*cf b i
def Psim.refl(a:List Int):Psim a a:=⟨1,1,O1,O1,λ_=>rfl⟩
def Psim.symm : Psim a b->Psim b a:=λ⟨m,n,c,d,h⟩=>⟨n,m,d,c,λi=>(h i).symm⟩
def Psim.trans{c:List Int} : Psim a b->Psim b c->Psim a c:=λ⟨m,n,d,e,h⟩ ⟨u,v,f,g,k⟩=>
 ⟨m*u,n*v,eZ d f,eZ e g,λi=>O5⟩
def Psim.sim : Psim a b->Sim a b:=λ⟨m,n,c,d,h⟩=>⟨m,n,O1,O1,h⟩
theorem Zfv(h:Tr p):Psim (Yb p) p:=by
 by_cases c:p=[]
 .subst c;exact Psim.refl _
 .exact⟨Yv p,1,by have:=Nw p;grind [Cz],O1,λi=>by grind [Gr]⟩
theorem Zmw(f:Tr a)(g:Tr b)(h:Psim a b):Yb a=Yb b:=by
 by_cases c:a=[]
 .rw [h.sim.nil g c,c]
 .have j:=λe=>c (h.sim.symm.nil f e);obtain⟨m,n,u,v,e⟩:=(Zfv f).trans (h.trans (Zfv g).symm);have l:=Yu f;have t:=Yu g;have hs:Sim _ _:=⟨m,n,O1,O1,e⟩;have d:Yb a≠[]:=λe=>c (aC (by grind [Yc]));rcases Zmd l t d (Kv f c) (Kv g j) hs with k|k
  .omega
  .have o:=l.mem d;have q:=e ((Yb a).length-1);have r:=k ((Yb a).length-1);rw [r]at q o;grind [Int.mul_neg,Int.add_mul,Int.mul_eq_zero]
def Ev(y:List Int):Int:=if cf y (y.length-1)<0 then-cf y (y.length-1)else cf y (y.length-1)
def rb(x y:List Int):Int:=if cf y (y.length-1)<0 then-cf x (x.length-1)else cf x (x.length-1)
def Ds(x y:List Int):List Int:=Ek (Zt x (Ev y)) (shm y (rb x y) (x.length-y.length) y.length)
def Fa:Nat->List Int->List Int->List Int
 | 0,x,_=>x
 | f+1,x,y=>if x.length<y.length then x else Fa f (Ds x y) y
theorem Zho(e:Tr x)(f:0<y.length)(d:y.length<=x.length):(Ds x y).length<x.length:=by
 have h:=Zcc (p:=Ds x y) (n:=x.length-1) λi hi=>by
  unfold Ds;rw [Im,Yo,Ztw];by_cases c:i=x.length-1
  .unfold Ev rb;grind
  .rw [Yr O1,aK O1];simp
 rw [show tzl _=Ds x y from Ao (Zaj _ _)]at h;omega
theorem Yjp(x:List Int)(t:Nat):Ev y*cf x t=(ps (mono (x.length-y.length) (rb x y))*ps y).c t+cf (Ds x y) t:=by
 unfold Ds;rw [Zm8,Im,Yo,Ztw,Md];by_cases c:x.length-y.length<=t
 .by_cases d:t<x.length-y.length+y.length
  .grind
  .rw [Yr (p:=y) O1,gF _];simp
 grind
theorem Zg2(d:Tr y)(c:y≠[]):0<Ev y:=by have:=d.mem c;unfold Ev;split<;>omega
theorem Zci{y:List Int}(l:Tr y)(d:y≠[]):∀(f:Nat) (x:List Int),Tr x->x.length<y.length+f->Tr (Fa f x y)/\(Fa f x y).length<y.length/\∃(k:Nat) (s:List Int),∀t,Ev y^k*cf x t=(ps s*ps y).c t+cf (Fa f x y) t
 | 0,x,c,e=>⟨c,e,0,[],λt=>by rw [Kh (λt=>Yr (bE _))];unfold Fa;simp⟩
 | f+1,x,c,e=>by
  unfold Fa;by_cases h:x.length<y.length
  .rw [aM h];exact⟨c,h,0,[],λt=>by simp [Kh,Yr,bE,dC]⟩
  .rw [aK h];have m:=Zho c (aH.2 d) O1;obtain⟨g,j,k,s,hs⟩:=Zci l d f (Ds x y) (Zaj _ _) O1;refine⟨g,j,k+1,Ek (Zt s 1) (Zt (mono (x.length-y.length) (rb x y)) (-(Ev y^k))),λt=>?_⟩;grind [Yjp,Zhi,Int.pow_succ]
theorem Zv2(l:Int)(h:l≠0):∀n:Nat,(l<0/\n%2=1->l^n<0)/\(¬(l<0/\n%2=1)->0<l^n)
 | 0=>⟨λh=>O1,λ_=>O6⟩
 | n+1=>by
  have e:=Zv2 l h n;rw [dD];by_cases d:l<0
  .by_cases f:n%2=1
   .have c:=e.1 ⟨d,f⟩;exact⟨λh=>O1,λ_=>Int.mul_pos_of_neg_of_neg c d⟩
   .have c:=e.2 O1;exact⟨λ_=>Int.mul_neg_of_pos_of_neg c d,λh=>O1⟩
  .have c:=e.2 O1;exact⟨λh=>O1,λ_=>eZ c O1⟩
def Zi5(p:List Int):List Int:=Zt p (-1)
theorem Za1(p:List Int)(i:Nat):cf (Zi5 p) i=- cf p i:=by unfold Zi5;grind [Yo]
theorem Zzj(h:Tr p):Yb (Zi5 p)=Zi5 (Yb p):=by
 have e:=by
  have c:Yv (Zi5 p)∣Yv p:=Eg λi=>by have h:=Kr (Zi5 p) i;simp_all [Za1,nA]
  have d:Yv p∣Yv (Zi5 p):=Eg λi=>by simp [Za1,nA,Kr]
  exact Int.dvd_antisymm (Nw _) (Nw _) c d
 refine(Yu (Ql _ _)).ext (Ql _ _) λi=>?_;show cf (Yb (Zi5 p)) i=cf _ i;simp_all [Za1,Zd2,Int.neg_ediv_of_dvd,Kr]
theorem Zef (f:Nat)(u:Tr x)(m:Tr y)(g:y≠[])(B:y.length<=x.length)(w:x.length<y.length+f):Yb (Zi5 (Fa f x y))=Le x y:=by
 obtain⟨N,M,k,s,hs⟩:=Zci m g f x u w;have F:=aH.2 g;obtain⟨G,o⟩:=Zix (p:=x) F B _ (aF _);have D:∀t,cf (Pq x y (x.length-y.length+1)) t=cf (Qu x y) t:=λt=>by unfold Qu;simp_all [aK,Ly]
 have lp:=Pg x g;have h:=Kt (q:=y) u;have c:=m.mem g;have n:0<Ev y^k:=jD (Zg2 m g);have d:=Zv2 (cf y (y.length-1)) c (x.length-y.length+1);generalize H:cf y (y.length-1)^(x.length-y.length+1)=L at o d;generalize Ev y^k=K at hs n;have j:∀t,(ps (Ek (Zt G K) (Zt s L))*ps y).c t=cf (Ek (Zt (Fa f x y) L) (Zt (Qu x y) K)) t:=λt=>by rw [Zhi,Im,Yo,Yo,<-D t];grind
 have z:=Yc4 m g j λt I=>by rw [Im,Yo,Yo,Yr (p:=Fa f x y) O1,Yr (p:=Qu x y) O1];simp
 have e:∀t,L*cf (Fa f x y) t=K*cf (Qu x y) t:=λt=>by have v:=j t;rw [Kh z,Im,Yo,Yo]at v;grind
 unfold Le;by_cases l:cf y (y.length-1)<0/\(x.length-y.length+1)%2=1
 .rw [aM l];have r:=d.1 l;exact Zmw (Ql _ _) h ⟨-L,K,O1,n,λt=>by grind [Za1]⟩
 .rw [aK l];have r:=d.2 l;rw [show Zt (Yb (Qu x y)) (-1)=Zi5 (Yb (Qu x y))from rfl,<-Zzj h];exact Zmw (Ql _ _) (Ql _ _) ⟨L,K,r,n,λt=>by simp_all [Za1,lT]⟩
theorem Zc9(c:Tr x):Tr (Le x y):=by unfold Le;grind [Yu,Kt,Ql]
theorem Bu(c:Tr x):(Le x y).length=(Qu x y).length:=by
 unfold Le;have h:Tr (Yb (Qu x y)):=Yu (Kt c);split
 .simp [Yc]
 .rw [<-Yc (Qu x y)];exact((Zfq _ O1).len h (Ql _ _)).symm
theorem Zqu{n:Nat}(h:Sz n p):Sz n (Xj p):=λi=>by
 unfold Xj;rw [Dj];split
 .rw [dL];exact Gf h i
 .exact Gf h i
theorem Zi8(h:Tr p)(c:p≠[]):Xj p≠[]:=λe=>c (aC (by grind [Pt]))
theorem Az{g:List Int}(h:Tr g)(c:g≠[]):0<cf (Kd g) ((Kd g).length-1):=by have d:=h.mem c;grind [Zcr,Dj,List.eq_nil_of_length_eq_zero]
theorem Zbs(h:Tr p)(c:p≠[]):Yv (Xj p)=1:=by unfold Xj;grind [Zj5,Kv]
theorem Zzo(h:Tr p)(c:Yv p=1)(d:0<cf p (p.length-1)):Xj p=p:=by unfold Xj;rw [Zg7 c];unfold Kd;grind
theorem Ow (F:Nat)(o:Tr xs)(r:xs≠[])(v:eok F (gA (Xj xs) (Xi (Xj xs))) (gB (Xj xs) (Xi (Xj xs)))) :
  pdv (Xj xs) (Nq F (Xj xs) (Xi (Xj xs)))/\Tr (sqf F xs)/\sqf F xs≠[]/\Xj xs=Qx (sqf F xs) (Nq F (Xj xs) (Xi (Xj xs)))/\Nq F (Xj xs) (Xi (Xj xs))≠[]/\Xj (sqf F xs)=sqf F xs:=by
 have hs:Tr (Xj xs):=Ng (Yu o);have f:=Nt hs;have l:=Zi8 o r;have g:=(Zeo hs f v).1;have n:=Zed F hs f;have c:Nq F (Xj xs) (Xi (Xj xs))≠[]:=λe=>l ((e▸g).zero hs);have H:=Zm0 hs f c;obtain⟨k,s,I,h⟩:=g;obtain⟨q,P⟩:=gauss H _ k s rfl I h;have d:Xj xs=Qx (tzl q) (Nq F (Xj xs) (Xi (Xj xs))):=hs.ext (Qo _ _) λi=>by grind [Gv,Zrr]
 obtain⟨B,S⟩:=Zr0 (Qn q) n c;have w:sqf F xs=tzl q:=by unfold sqf;grind
 rw [<-d]at B;have j:tzl q≠[]:=λe=>l (by grind [Fr]);refine⟨B,by grind [Qn],O5,O5,c,?_⟩;rw [w];refine Zzo (Qn q) ?_ ?_
 .have D:=Zbs o r;have t:Yv (tzl q)∣Yv (Xj xs):=Eg λi=>by
   rw [d,Gv,PS.mul_c];have N:∀m,Yv (tzl q)∣Yl (λk=>(ps (tzl q)).c k*(ps (Nq F (Xj xs) (Xi (Xj xs)))).c (i-k)) m:=λm=>by
    induction m with
    | zero=>exact jX _
    | succ m M=>exact Int.dvd_add M (fQ (Kr (tzl q) m) (kO _ _))
   grind
  have u:=Nw (tzl q);have G:=kS O1 t;grind [Cz,Qn]
 .have Q:=aH.2 j;have R:=aH.2 c;have D:0<cf (Xj xs) ((Xj xs).length-1):=Az (Yu o) (λe=>r (aC (by grind [Yc])));have t:0<cf (Nq F (Xj xs) (Xi (Xj xs))) ((Nq F (Xj xs) _).length-1):=Az (Znt F (Zjs hs f) (Zjr hs f)) (λe=>c (by unfold Nq;rw [e];rfl));have u:=Ox (Qn q) n j c;rw [<-d]at u;have G:cf (Xj xs) ((Xj xs).length-1)=cf (tzl q) ((tzl q).length-1)*cf (Nq F (Xj xs) (Xi (Xj xs))) ((Nq F (Xj xs) (Xi (Xj xs))).length-1):=by rw [u,d,Gv,<-d,show(tzl q).length+(Nq F (Xj xs) (Xi (Xj xs))).length-1-1=((tzl q).length-1)+((Nq F (Xj xs) (Xi (Xj xs))).length-1) by omega];grind [Zab,Yr]
  rcases gJ 0 _ with z|z
  .omega
  .exfalso;have:=fV z (dY t);omega
def Og(p:List Int):(Xi p).length=p.length-1:=Xa _ _
theorem Yah{n:Nat}(c:Sz n p)(g:p.length<=25)(i:Nat):bl (cf p (i+1)*((i:Int)+1)).natAbs<=n+5:=by
 rcases aW (i+1) p.length with h|h
 .have d:=Zy (cf p (i+1)) ((i)+1);have e:=c (i+1);have f:bl ((i:Int)+1).natAbs<=5:=(Qs 5 _).2 O1;omega
 grind [Yr,Ip]
theorem Zh9(p:List Int)(i:Nat):cf (Xi p) i=cf p (i+1)*((i:Int)+1):=by unfold Xi;simp_all [Ml,Yr,cK]
theorem Gz{n:Nat}(d:Sz n p)(c:p.length<=25):Sz (n+5) (Xi p):=λi=>by simp_all [Zh9,Yah]
theorem Zgf(h:Vp p)(c:∀i,i<p.length->bl (cf p (i+1)*((i:Int)+1)).natAbs<=65536):Vp (Xi p):=by
 refine⟨λi=>?_,Nt h.tr,by rw [Og];have:=h.len;omega⟩;rw [Zh9];by_cases hi:i<p.length
 .grind
 .rw [Yr O1];simp [Ip]
def sf_t(h:xs.length=0):Value.bool (decide (Zbn xs))= .bool true:=aD _ (aG (.inl h))
theorem sf_i{n:Int}(h:xs.length≠0)(c:n=(((xs.length+2)*(xs.length+2)*(Qc xs+16):Nat):Int)):Value.bool (decide (Zbn xs))= .bool (decide (n<=65536)):=aD _ (bF.2 (by show(xs.length=0\/(xs.length+2)*(xs.length+2)*(Qc xs+16)<=65536)↔_;omega))
theorem Yfr(h:(Qu x y).length=0):Le x y=[]:=by have c:=aC h;unfold Le;rw [c];split<;>rfl
theorem Yqd(e:y.length<=x.length)(c:(cf y (y.length-1)).sign<0)(d:((x.length:Int)-(y.length:Int)+1)%2=1):Le x y=Yb (Qu x y):=by unfold Le;grind
theorem Ybn(c:¬(cf y (y.length-1)).sign<0):Le x y=Zt (Yb (Qu x y)) (-1):=by unfold Le;grind
theorem Ybm(d:y.length<=x.length)(c:¬((x.length:Int)-(y.length:Int)+1)%2=1):Le x y=Zt (Yb (Qu x y)) (-1):=by unfold Le;grind
theorem Zlz{F:Nat}(j:Vp xs)(k:xs≠[])(h:Yqb F xs):Vp (sqf F xs):=by
 obtain⟨_,_,_,d,c⟩:=h;have g:=Zym j;unfold sqf Kg;split
 .grind
 .rename_i l;rcases c with c|c
  .grind
  .have e:=(Zcv d).2 c.1;refine⟨?_,Qn _,?_⟩
   .rw [<-Zdv];exact(Ybk e c.2.1).tzl
   .have f:=Ns (Zh1 (Xj xs) (Nq F (Xj xs) (Xi (Xj xs))) ((Xj xs).length-(Nq F (Xj xs) (Xi (Xj xs))).length+1));rw [Zdv,Zat]at f;have:=g.len;grind [Zcv]
theorem Znd{F:Nat}(d:Vp xs)(h:Yqb F xs):(sqf F xs).length<=xs.length:=by
 obtain⟨_,_,_,e,c⟩:=h;have j:=Pt d.tr;unfold sqf Kg;split
 .simp
 .rename_i f;rcases c with c|c
  .grind
  .have g:=Ns (Zh1 (Xj xs) (Nq F (Xj xs) (Xi (Xj xs))) ((Xj xs).length-(Nq F (Xj xs) (Xi (Xj xs))).length+1));grind [Zdv,Zat,Zcv]
theorem Yes{L:List Int}{n l:Int}(hi:i<L.length)(h:(n,l)=(L.take i).foldl Nk (0,0))(hs:L.getD i 0=s)(c:s=0):(n,l)=(L.take (i+1)).foldl Nk (0,0):=by rw [Ps 0 L i hi,Zct,<-h];unfold Nk;grind
theorem Yer{L:List Int}{n l:Int}(hi:i<L.length)(h:(n,l)=(L.take i).foldl Nk (0,0))(hs:L.getD i 0=s)(c:s≠0)(d:s=-l):(n+1,s)=(L.take (i+1)).foldl Nk (0,0):=by rw [Ps 0 L i hi,Zct,<-h];unfold Nk;grind
theorem Yeq{L:List Int}{n l:Int}(hi:i<L.length)(h:(n,l)=(L.take i).foldl Nk (0,0))(hs:L.getD i 0=s)(c:s≠0)(d:¬s=-l):(n,s)=(L.take (i+1)).foldl Nk (0,0):=by rw [Ps 0 L i hi,Zct,<-h];unfold Nk;grind
theorem Ytw{L:List Int}{n l:Int}(hi:L.length<=i)(h:(n,l)=(L.take i).foldl Nk (0,0)):n=chg L:=by rw [cE hi]at h;unfold chg;grind
theorem Yi5{z:Int}:-1<=z.sign/\z.sign<=1:=by grind
theorem Ylz{α:Type}{d:α}{f:α->Int}{ls:List α}(h:i<ls.length):(ls.map f).getD i 0=f (ls.getD i d):=by grind
def sgx(ls:List (SL×List Int))(f:List Int->Int):List Int:=ls.map λz=>f z.2
def Zu4(ls:List (SL×List Int))(f:List Int->Int)(h:i<ls.length):(sgx ls f).getD i 0=f (ls.getD i ((none,0,0),[])).2:=Ylz h
def Zne(ls:List (SL×List Int))(f:List Int->Int):(sgx ls f).length=ls.length:=bA ..
def fr(p:List Int):Int:=(cf p (p.length-1)).sign
def fl(p:List Int):Int:=if p.length%2=0 then-(cf p (p.length-1)).sign else(cf p (p.length-1)).sign
def Ck(x y:Int)(p:List Int):Int:=(pev p x y).sign
def fat_r(x y:Int)(p:List Int):-1<=Ck x y p/\Ck x y p<=1:=Yi5
theorem Zo0:∀(f:Nat) {x y:List Int},Vp x->Vp y->cok f x y->∀p∈Mg f x y,Vp p
 | 0,x,y,d,_,_,p,c=>by rw [bN.1 c];omega
 | f+1,x,y,d,e,h,p,c=>by
  unfold Mg at c;split at c
  .rw [bN.1 c];exact d
  .rcases h with h|h
   .contradiction
   .rcases aX.1 c with rfl|c
    .exact d
    .exact Zo0 f e (Zl0 d h.1) h.2.2 p c
theorem Yhw{F:Nat}(j:Vp xs)(d:xs≠[])(h:Zac F xs):∀p∈chn F xs,Vp p:=by obtain⟨e,f,g⟩:=h;have c:=Zlz j d e;exact Zo0 F c (Kf (Zgf c (λi hi=>f i (by grind [Znd])))) g
def cnt(F:Nat)(xs:List Int)(x y:Int):Int:=chg ((chn F xs).map (Ck x y))
def sright(F:Nat)(xs:List Int):Int:=chg ((chn F xs).map fr)
def sleft(F:Nat)(xs:List Int):Int:=chg ((chn F xs).map fl)
theorem Ybp{C:List (List Int)}(h:ls.map Prod.snd=C)(f:List Int->Int):sgx ls f=C.map f:=by rw [<-h,kW];rfl
def Ka{C:List (List Int)}{p:List Int->Prop}(h:ls.map Prod.snd=C)(c:∀q∈C,p q):∀z∈ls,p z.2:=λz d=>c _ (h▸mE d)
theorem Zb4(L:List Int):0<=chg L/\chg L<=L.length:=by
 unfold chg;suffices h:∀(l:List Int) (s:Int×Int),s.1<=(l.foldl Nk s).1/\(l.foldl Nk s).1<=s.1+l.length by grind
 intro l
 induction l with
 | nil=>simp
 | cons x l c=>
  intro s;have d:=c (Nk s x);have e:=chg1_n s x;simp only [iA,eI];omega
theorem Zbb:∀(f:Nat) (x y:List Int),(Mg f x y).length<=f+1
 | 0,x,y=>aF _
 | f+1,x,y=>by
  unfold Mg;split
  .simp
  .have:=Zbb f y (Le x y);simp;omega
def sm(xs:List Int)(i:Nat):Nat:=(xs.take i).foldl (λm c=>max m c.natAbs) 0
def Zba{x y:Int}(h:¬Kc x y):Et x y=x/Qi x y/\Gn x y=y/Qi x y/\Yj1 x y=0:=⟨aK h,aK h,aK h⟩
theorem nr_bl{x y:Int}(h:¬Kc x y):bl (Et x y).natAbs<=65536/\bl (Gn x y).natAbs<=65536:=by obtain⟨c,d,_⟩:=Zba h;rw [c,d];unfold Kc at h;omega
theorem Zr8{x y:Int}(h:¬Kc x y)(c:0<y):0<Gn x y:=by simp_all [Zba,Zp2]
abbrev R2:=Int×Int
def Oo(a b:R2):R2:=(Et (Et (a.1*b.2+b.1*a.2) (a.2*b.2)*1) (Gn (a.1*b.2+b.1*a.2) (a.2*b.2)*2),Gn (Et (a.1*b.2+b.1*a.2) (a.2*b.2)*1) (Gn (a.1*b.2+b.1*a.2) (a.2*b.2)*2))
def Zfe(a b:R2):Prop:=¬Kc (a.1*b.2+b.1*a.2) (a.2*b.2)/\¬Kc (Et (a.1*b.2+b.1*a.2) (a.2*b.2)*1) (Gn (a.1*b.2+b.1*a.2) (a.2*b.2)*2)
instance (a b:R2):Decidable (Zfe a b):=by unfold Zfe;infer_instance
def Ygo{a b:R2}(h:Zfe a b):Yj1 (Et (a.1*b.2+b.1*a.2) (a.2*b.2)*1) (Gn (a.1*b.2+b.1*a.2) (a.2*b.2)*2)=0:=(Zba h.2).2.2
def isp(c:R2->Int)(e:Int):Nat->R2->R2->Int->Int->Nat->List (R2×R2)
 | 0,_,_,_,_,_=>[]
 | f+1,a,b,fr,g,d=>if fr=g then []else if fr-g=1/\e<=(d:Int)then [(a,b)]else isp c e f a (Oo a b) fr (c (Oo a b)) (d+1) ++ isp c e f (Oo a b) b (c (Oo a b)) g (d+1)
def Ydf(c:R2->Int)(g:R2->Prop)(e:Int):Nat->R2->R2->Int->Int->Nat->Prop
 | 0,_,_,_,_,_=>False
 | f+1,a,b,fr,h,d=>fr=h\/(fr-h=1/\e<=(d:Int))\/(d<1000/\Zfe a b/\g (Oo a b)/\Ydf c g e f a (Oo a b) fr (c (Oo a b)) (d+1)/\Ydf c g e f (Oo a b) b (c (Oo a b)) h (d+1))
instance ispDec (c:R2->Int) (e:R2->Prop) [DecidablePred e] (g:Int):∀f a b fr h d,Decidable (Ydf c e g f a b fr h d)
 | 0,_,_,_,_,_=>inferInstanceAs (Decidable False)
 | f+1,a,b,fr,h,d=>@instDecidableOr _ _ _ (@instDecidableOr _ _ _ (@instDecidableAnd _ _ _ (@instDecidableAnd _ _ _ (@instDecidableAnd _ _ _ (@instDecidableAnd _ _ (ispDec c e g f a (Oo a b) fr (c (Oo a b)) (d+1)) (ispDec c e g f (Oo a b) b (c (Oo a b)) h (d+1)))))))
def okQ(z:R2):Prop:=bl z.1.natAbs<=65536/\bl z.2.natAbs<=65536/\0<z.2
def evok(ls:List (SL×List Int))(m:R2):Prop:=∀z∈ls,¬Ig z.2 m.1 m.2
def cvx(ls:List (SL×List Int))(m:R2):Int:=chg (sgx ls (Ck m.1 m.2))
def cvc(F:Nat)(xs:List Int)(m:R2):Int:=cnt F xs m.1 m.2
def evc(F:Nat)(xs:List Int)(m:R2):Prop:=∀p∈chn F xs,¬Ig p m.1 m.2
def slow(a:R2):R2:=(Et a.1 a.2,Gn a.1 a.2)
def sisol(F:Nat)(xs:List Int)(f:Nat)(a b:R2)(c:Int):List (R2×R2):=isp (cvc F xs) c f (slow a) (slow b) (cvc F xs a) (cvc F xs b) 0
def isOK(F:Nat)(xs:List Int)(f:Nat)(a b:R2)(c:Int):Prop:=Zac F xs/\evc F xs a/\evc F xs b/\¬Kc a.1 a.2/\¬Kc b.1 b.2/\Ydf (cvc F xs) (evc F xs) c f (slow a) (slow b) (cvc F xs a) (cvc F xs b) 0/\(sisol F xs f a b c).length<=1000000
open Go.RowKit Below
variable {P:Program} {N:Nat} {sc:Nat->Prop} {env env':Pw} {H H':Hp} {Q Q':Exit->Act->World->Prop} {M:Nat->Prop}
def CalM(P:Program)(f:FuncId)(args:Array Value)(pre:List Pc){G:Type}(φ:G->Prop)(Yt:G->Value)(d c:G->Pc):Prop:=
 ∀w,(∀p∈pre,p.holds w)->Calls P f args w λe h=>∃g,e= .returned (Yt g)/\φ g/\Below w.heap.size w h/\(d g).holds h/\(∀b,(d g).fp b->w.heap.size<=b)/\
  (c g).holds h/\(c g).own=false/\(∀b,(c g).fp b->w.heap.size<=b\/∃q∈pre,q.fp b)/\∀b,(d g).fp b->(c g).fp b->False
def FPostM(P:Program)(fn:Func)(w0:World)(pre:List Pc){G:Type}(φ:G->Prop)(Yt:G->Value)(d c:G->Pc):Exit->Act->World->Prop:=
 bodyPost P fn λe f=>∃g,e= .returned (Yt g)/\φ g/\Below w0.heap.size w0 f/\(d g).holds f/\(∀b,(d g).fp b->w0.heap.size<=b)/\
  (c g).holds f/\(c g).own=false/\(∀b,(c g).fp b->w0.heap.size<=b\/∃q∈pre,q.fp b)/\∀b,(d g).fp b->(c g).fp b->False
theorem Zcg{β:Type}{q:β->Pc}{zs ys:List β}(i j n:Nat)(hi:lk H i=some (Nf q zs))(l:lk H j=some (Nf q ys))(d:Nat.beq i 0=false)(e:Nat.beq j 0=false) :
  ∀a w,Sat N sc env H a w->Sat N sc env ((n,Nf q (zs ++ ys))::H) a w:=
 Zy1 i j n hi l d e rfl rfl (λw g k y f=>by
  rcases cW.1 f with h|h
  .exact g y h
  .exact k y h) (λb c=>by
  obtain⟨y,f,c⟩:=c;rcases cW.1 f with h|h
  .exact .inl ⟨y,h,c⟩
  .exact .inr ⟨y,h,c⟩) rfl
abbrev qD (z:SL×Nat):Pc:=Pn (Xk z.1) z.2
abbrev JE:=(R2×R2)×(SL×SL×SL×SL)
abbrev encJ (y:JE):Value:= .agg #[.bool (decide (y.1.1.1<0)),Xk y.2.1,.bool (decide (y.1.1.2<0)),Xk y.2.2.1,.bool (decide (y.1.2.1<0)),Xk y.2.2.2.1,.bool (decide (y.1.2.2<0)),Xk y.2.2.2.2]
abbrev qJ (y:JE):Pc:=Nf qD [(y.2.1,y.1.1.1.natAbs),(y.2.2.1,y.1.1.2.natAbs),(y.2.2.2.1,y.1.2.1.natAbs),(y.2.2.2.2,y.1.2.2.natAbs)]
abbrev J0:JE:=(((0,0),(0,0)),((none,0,0),(none,0,0),(none,0,0),(none,0,0)))
end Go.Sky
namespace Go.Sky
variable{M M0:Nat->Prop}{o:Oper}{x y:Operand}{t tb:TypeId}{cs:Array Value}{v:Value}{vs:List Value}{zs:List (SL×List Int)}{r:List Pc}{z:SL×List Int}
variable {P:Program} {N:Nat} {sc:Nat->Prop} {env env':Pw} {H H':Hp} {Q Q':Exit->Act->World->Prop}
theorem Zu9(w:World)(g:Nat)(cs:Array Value)(t:TypeId){fr:Nat×Nat}(a:w.heap[g]? = some (.cells cs t fr)):w.setRow g cs=w:=by
 obtain⟨b,c⟩:=aS.1 a;have h:(w.setRow g cs).heap=w.heap:=by
  apply Array.ext_getElem?;intro i;by_cases h:g=i
  .subst h;rw [setRow_heap w g cs cs t fr a,a]
  .unfold World.setRow;dsimp only;rw [Array.getElem?_modify,aK h]
 have e:w.setRow g cs={ w with heap:=(w.setRow g cs).heap }:=rfl;rw [e,h]
theorem Zo9 (i:Nat)     {b j k:Nat}    (s:o.op= .store t x y) (p:o.dst=none)
  (D:ev env x=some (.pointer (some ⟨b,j,none⟩))) (F:ev env y=some v) (m:lk H i=some (Ku b tb cs)) (B:v.cells=vs.toArray) (q:∀w,(sizeOf t).run P w= .ok k w) (d:vs.length=k)
  (c:Nat.ble (j+vs.length) cs.size=true) (l:∀u∈vs,u.oneCell'=true) (e:Fe cs j vs=cs) :
  T P N sc M o env H (G:=Unit) (λ_=>True) (λ_=>env) (λ_=>H):=λa w hs K Q n=>by
 have g:w.heap[b]? = some (.cells cs tb (0,0)):=hs.hold i _ m;have f:=run_storeCells_at P b j tb vs 0 cs w g (by simpa using iD c) l;simp only [eJ]at f;have h:(execOp a.eval o).run P w= .ok .skip (w.setRow b (Fe cs j vs)):=by simp [execOp,s,hs.ev D,hs.ev F,Instr.storeAt,Instr.sureAddr,storeVar,B,q,d,f,Fe]
 rw [e,Zu9 w b cs tb g]at h;unfold Oper.wp;rw [h];show K (a.put o.dst _) _;rw [p];exact n () _ _ aA (hs.put_none undef) (Chg.refl _ _)
def Ysu{c:Code}(h:E P N sc c (Exit.noGoto Q) env H):E P N sc (.scope c) Q env H:=λa w hs=>wp_scope_straight (h a w hs)
def x_ngn(h:X N sc .normal Q env H):X N sc .normal (Exit.noGoto Q) env H:=h
def Ysv{l:Nat}(h:X N sc .normal Q env H):E P N sc (.label l) Q env H:=λa w hs=>wp_label (h a w hs)
def t_stp1     {i b j:Nat}   {w0:World}  (m:o.op= .store t x y) (k:o.dst=none)
  (p:ev env x=some (.pointer (some ⟨b,j,none⟩))) (q:ev env y=some v) (g:lk H i=some (box b tb cs)) (d:i≠0) (l:∀w,(sizeOf t).run P w= .ok 1 w) (c:Nat.ble (j+1) cs.size=true) (e:One N sc env H v)
  (f:lk H 0=some (Yy w0 M0)) (n:∀b,w0.heap.size<=b->sc b) (h:M b) :
  T P N sc M o env H (G:=Unit) (λ_=>True) (λ_=>env) (λ_=>(i,box b tb (Fe cs j [v]))::H):=λa w hs=>
 t_stp (cs':=#[]) (vs:=[v]) m k p q g d (Ye (e a w hs)) l rfl c ⟨e,aA⟩ f n h a w hs
def Ykp{al:Bool}(i:Nat)(hi:lk H i=some (Xn 1 Nn (λy:SL×List Int=>Yx 2 wv (Xk y.1) y.2) v zs))(a:Nat.beq i 0=false)(b:z∈zs)(h:PreOk H al r):PreOk H al (Yx 2 wv (Xk z.1) z.2::r):=Zv1 (q:=λy:SL×List Int=>Yx 2 wv (Xk y.1) y.2) (z:=z) i hi a b h
end Go.Sky
namespace Go.Sky
variable{v:Int}{o:Oper}{x y:Operand}{t tb:TypeId}{b k i:Nat}{kd:IntKind}{M M0:Nat->Prop}{w0:World}{cs:Array Value}
variable {P:Program} {N:Nat} {sc:Nat->Prop} {env env':Pw} {H H':Hp} {Q Q':Exit->Act->World->Prop}
def Zah(l:List Int):Array Value:=(l.map (Value.int .i64)).toArray
theorem Yfg(l:List Int):(Zah l).size=l.length:=by simp [Zah]
theorem Yhu{l:List Int}{j:Nat}(h:j<l.length):(Zah l)[j]? = some (.int .i64 (l.getD j 0)):=by simp [Zah,aO h,aL]
theorem Yht{l:List Int}{j:Nat}(h:j<l.length):Fe (Zah l) j [.int .i64 v]=Zah (l.set j v):=by unfold Fe Zah;grind
theorem Fg (i:Nat)   {e:TypeId} {d c:Nat}  {m:Int} (j:o.op= .indexAddr t x y) (n:ev env x=some (.pointer (some ⟨b,d,none⟩))) (p:ev env y=some (.int kd m))
  (l:P.underlying t=some (.array c e)) (h:∀w,(sizeOf e).run P w= .ok k w) (f:m=(i:Int):=by omega) (g:i<c:=by omega):Lk P N sc o env H (.pointer (some ⟨b,d+i*k,none⟩)):=λa w hs=>by
 subst f;simp [execOp,j,hs.ev n,hs.ev p,Instr.indexAt,Instr.sureAddr,asIntOf,run_underlying l,h,g,Ov]
theorem Yhd (i:Nat){j:Nat}{l:List Int}(d:o.op= .load t x)(f:ev env x=some (.pointer (some ⟨b,j,none⟩)))(a:lk H i=some (box b tb (Zah l)))(e:∀w,(isAgg t).run P w= .ok false w)(c:j<l.length:=by omega) :
  Lk P N sc o env H (.int .i64 (l.getD j 0)):=Yhe _ d f a e (Yhu c)
theorem d_lwa{l:List Int}(d:o.op= .load t x)(g:ev env x=some (.pointer (some ⟨b,0,none⟩)))(a:lk H i=some (box b tb (Zah l)))(e:∀w,(isAgg t).run P w= .ok true w)(c:∀w,(sizeOf t).run P w= .ok k w)(h:l.length=k) :
  Lk P N sc o env H (.agg (Zah l)):=
 Zxs d g a e c O5 (λn u f=>by simpa [Zah]using f)
theorem Zyq (i:Nat)     {j:Nat} {l:List Int}    (m:o.op= .store t x y) (f:o.dst=none)
  (q:ev env x=some (.pointer (some ⟨b,j,none⟩))) (r:ev env y=some (.int .i64 v)) (d:lk H i=some (box b tb (Zah l))) (h:∀w,(sizeOf t).run P w= .ok 1 w) 
  (c:lk H 0=some (Yy w0 M0)) (p:∀b,w0.heap.size<=b->sc b) (e:M b) (a:i≠0:=by decide) (g:j<l.length:=by omega) :
  T P N sc M o env H (G:=Unit) (λ_=>True) (λ_=>env) (λ_=>(i,box b tb (Zah (l.set j v)))::H):=by
 rw [<-Yht g];exact Zjt m f q r d a rfl h rfl (by grind [Yfg]) (λu n=>Yg (by rw [List.mem_singleton.1 n];rfl)) rfl c p e
theorem Yh6 (i:Nat)       {l:List Int}   (h:o.op= .store t x y) (f:o.dst=none)
  (n:ev env x=some (.pointer (some ⟨b,0,none⟩))) (p:ev env y=some (.agg (Zah l))) (d:lk H i=some (box b tb cs)) (g:∀w,(sizeOf t).run P w= .ok k w) (r:l.length=k) (q:cs.size=k)
  (c:lk H 0=some (Yy w0 M0)) (m:∀b,w0.heap.size<=b->sc b) (e:M b) (a:i≠0:=by decide) :
  T P N sc M o env H (G:=Unit) (λ_=>True) (λ_=>env) (λ_=>(i,box b tb (Zah l))::H):=
 Zjt h f n p d a rfl g O5 O5 (λu j=>Yg (by obtain⟨z,_,rfl⟩:=dI.1 j;rfl)) (by unfold Fe Zah;grind) c m e
def Ou:Nat->Nat->Nat
 | _,0=>1
 | 0,_+1=>0
 | n+1,k+1=>Ou n k+Ou n (k+1)
theorem Yaq:∀n k,Ou n k<=2^n
 | 0,0=>O4
 | _+1,0=>dK _
 | 0,_+1=>bE _
 | n+1,k+1=>by have a:=Yaq n k;have c:=Yaq n (k+1);show Ou n k+Ou n _<=2^(n+1);omega
theorem Zn4:∀n k,n<k->Ou n k=0
 | _,0,h=>absurd h (bD _)
 | 0,_+1,_=>rfl
 | n+1,k+1,h=>by show Ou n k+Ou n _=0;rw [Zn4 n k O1,Zn4 n _ O1]
structure Tab (l:List Int) (n k:Nat):Prop where
 len:l.length=625
 eq:∀r c,r<25->c<25->l.getD (r*25+c) 0=if r<n\/(r=n/\c<k)then(Ou r c:Int)else 0
theorem Zje{l:List Int}{j:Nat}(hi:i<l.length:=by omega):(l.set i v).getD j 0=if j=i then v else l.getD j 0:=by grind
theorem Tab.start:Tab (List.replicate 625 0) 0 0:=⟨aR,λr c d a=>by grind⟩
theorem Tab.step{l:List Int}{n:Nat}(h:Tab l n k)(m:n<25)(f:k<25)(p:v=(Ou n k:Int)){j:Nat}(e:j=n*25+k):Tab (l.set j v) n (k+1):=by have g:=h.len;refine⟨O5,λr c d a=>?_⟩;rw [Zje,h.eq r c d a];grind
theorem Tab.row{l:List Int}{n:Nat}(h:Tab l n k)(f:n<k):Tab l (n+1) 0:=⟨h.len,λr c e d=>by
 rw [h.eq r c e d];by_cases g:r<n\/(r=n/\c<k)
 .omega
 .rw [aK g];by_cases a:r<n+1\/(r=n+1/\c<0)
  .rw [aM a,Zn4 r c O1];rfl
  omega⟩
theorem Tab.get{l:List Int}{n r c:Nat}(h:Tab l n k)(f:r<25)(d:c<25)(a:r<n\/(r=n/\c<k)){j:Nat}(e:j=r*25+c):l.getD j 0=(Ou r c:Int):=by rw [e,h.eq r c f d,aM a]
theorem Yen (n:Nat)(k:Nat)(c:1<=n:=by omega)(a:1<=k:=by omega):Ou n k=Ou (n-1) (k-1)+Ou (n-1) k:=by obtain⟨m,rfl⟩:∃m,n=m+1:=⟨n-1,O1⟩;obtain⟨j,rfl⟩:∃j,k=j+1:=⟨k-1,O1⟩;rfl
end Go.Sky
namespace Go.Sky
variable{k b:Nat}{t tb:TypeId}{parts:List (Nat×Value)}{cells:Array Value}{o:Oper}{x y:Operand}{kd:IntKind}{v0 v1 v2:Value}{M M0:Nat->Prop}
structure Tb (l:List Int) (n k:Nat):Prop where
 len:l.length=36
 eq:∀r c,r<6->c<6->l.getD (r*6+c) 0=if r<n\/(r=n/\c<k)then(Ou r c:Int)else 0
theorem Tb.start:Tb (List.replicate 36 0) 0 0:=⟨aR,λr c d a=>by rw [aK O1,aL];rw [List.getElem?_replicate];split<;>rfl⟩
theorem Tb.step{l:List Int}{n:Nat}{v:Int}(h:Tb l n k)(u:n<6)(s:k<6)(q:v=(Ou n k:Int)){j:Nat}(i:j=n*6+k):Tb (l.set j v) n (k+1):=by
 subst i;have m:=h.len;refine⟨by rw [bK];exact m,λr c p f=>?_⟩;rw [Zje,h.eq r c p f];by_cases e:r*6+c=n*6+k
 .have a:r=n:=O1;have d:c=k:=O1;subst a;subst d;rw [aM rfl,aM O1];exact q
 .rw [aK e];have:¬(r=n/\c=k):=λ⟨a,d⟩=>e (by rw [a,d]);by_cases g:r<n\/(r=n/\c<k)
  .rw [aM g,aM O1]
  .rw [aK g,aK O1]
theorem Tb.row{l:List Int}{n:Nat}(h:Tb l n k)(f:n<k):Tb l (n+1) 0:=⟨h.len,λr c e d=>by
 rw [h.eq r c e d];by_cases g:r<n\/(r=n/\c<k)
 .rw [aM g,aM O1]
 .rw [aK g];by_cases a:r<n+1\/(r=n+1/\c<0)
  .rw [aM a,Zn4 r c O1];rfl
  .rw [aK a]⟩
theorem Tb.get{l:List Int}{n r c:Nat}(h:Tb l n k)(f:r<6)(d:c<6)(a:r<n\/(r=n/\c<k)){j:Nat}(e:j=r*6+c):l.getD j 0=(Ou r c:Int):=by rw [e,h.eq r c f d,aM a]
theorem Zts (n:Nat)(k:Nat)(h:n<=5:=by omega):Ou n k<=32:=aB (Yaq n k) (aB (cY O4 h) O4)
theorem Ze3 {P:Program} {e:TypeId} {n:Nat} {c a:TypeInfo} {z:Value}   (hi:P.info? t=some c) (g:P.underlying t=some (.array n e)) (h:c.zero=some z) (d:P.info? e=some a)
  (f:Instr.fill (λi=>some (i*a.size,a.size)) z.cells parts=some cells):P.built t parts=some cells:=by
 unfold Program.built;simp only [hi,g,h,d,f]
variable {P:Program} {N:Nat} {sc:Nat->Prop} {env env':Pw} {H H':Hp} {Q Q':Exit->Act->World->Prop}
def Zs{α:Type _}(i:Nat)(a b c:α):α:=match i with
 | 0=>a
 | 1=>b
 | _=>c
theorem Cr{α:Type _}{p:α->Prop}{i:Nat}{a b c:α}(d:p a)(e:p b)(f:p c):p (Zs i a b c):=by unfold Zs;split<;>assumption
theorem Zqf (i:Nat)   {e:TypeId}   {m:Int}  (j:o.op= .index t x y) (n:ev env x=some (.agg #[v0,v1,v2])) (p:ev env y=some (.int kd m))
  (l:P.underlying t=some (.array 3 e)) (g:∀w,(sizeOf e).run P w= .ok 1 w) (f:∀w,(isAgg e).run P w= .ok false w) (c:m=(i:Int)) (h:i<3:=by omega):Lk P N sc o env H (Zs i v0 v1 v2):=λa w hs=>by
 subst c;have d:i=0\/i=1\/i=2:=O1;rcases d with rfl|rfl|rfl<;>simp [execOp,j,hs.ev n,hs.ev p,Instr.index,asIntOf,run_underlying l,g,f,asAgg,part,Zs]
theorem Ziv {α:Type}  {enc:α->Value}  {f g j:List α} (i c d e n:Nat) (l:lk H c=some (Yx k enc v0 f)) (m:lk H d=some (Yx k enc v1 g)) (p:lk H e=some (Yx k enc v2 j))
  (q:Nat.beq c 0=false) (r:Nat.beq d 0=false) (s:Nat.beq e 0=false):∀a w,Sat N sc env H a w->Sat N sc env ((n,Yx k enc (Zs i v0 v1 v2) (Zs i f g j))::H) a w:=by
 match i with
 | 0=>exact Zcz c n l q rfl (λw h=>h) (λb h=>h) rfl
 | 1=>exact Zcz d n m r rfl (λw h=>h) (λb h=>h) rfl
 | i+2=>exact Zcz e n p s rfl (λw h=>h) (λb h=>h) rfl
theorem Zxr (i:Nat)(j:Nat){α:Type}{enc:α->Value}{l:List α}(d:α)(n:o.op= .load t x)(s:ev env x=some (.pointer (some ⟨b,0+j*k,none⟩)))(g:lk H i=some (box b tb (cellsOf enc l).toArray))(e:Enc P t k enc)(m:j<l.length) :
  Lk P N sc o env H (enc (l.getD j d)):=λa w hs=>by
 have hi:l[j]? = some (l.getD j d):=by simp [List.getD,aO m]
 have h:=e.load (l.getD j d) w ⟨b,0+j*k,none⟩ (λq u p=>by have f:=Gh e.cells l j _ hi q u p;rw [Ov,hs.boxc g];simpa using f)
 have c:=hs.ev s;generalize enc (l.getD j d)=r at h ⊢;generalize (⟨b,0+j*k,none⟩:Addr)=v at h c;simp [execOp,n,c,Instr.loadAt,Instr.sureAddr,h]
theorem t_sbe (i:Nat)(j:Nat)(k:Nat) {α:Type}      {enc:α->Value} {l:List α} (z:α) {w0:World}  (q:o.op= .store t x y) (n:o.dst=none)
  (v:ev env x=some (.pointer (some ⟨b,0+j*k,none⟩))) (w:ev env y=some (enc z)) (h:lk H i=some (box b tb (cellsOf enc l).toArray)) (a:Enc P t k enc) (f:j<l.length)
  (g:lk H 0=some (Yy w0 M0)) (s:∀b,w0.heap.size<=b->sc b) (m:M b) (c:i≠0:=by decide) :
  T P N sc M o env H (G:=Unit) (λ_=>True) (λ_=>env) (λ_=>(i,box b tb (cellsOf enc (l.set j z)).toArray)::H):=by
 have p:=Xm a.cells l;have e:(enc z).cells.toList.length=k:=by simp [a.cells]
 have d:(j+1)*k<=l.length*k:=aJ _ f;rw [dG]at d;refine Zjt (vs:=(enc z).cells.toList) q n v w h c rfl a.size e (by rw [e,kM,p];omega) (λu r=>Yg (a.one z u r)) ?_ g s m;unfold Fe;rw [cH,e,Bc a.cells l j z f]
end Go.Sky
namespace Go.Sky
variable{o:Oper}{x:Operand}{t tb te:TypeId}{M M0:Nat->Prop}{cs:Array Value}
variable {P:Program} {N:Nat} {sc:Nat->Prop} {env env':Pw} {H H':Hp} {Q Q':Exit->Act->World->Prop}
theorem d_lea{α:Type}{i b k q:Nat}{enc:α->Value}{l:List α}(f:o.op= .load t x)(j:ev env x=some (.pointer (some ⟨b,0,none⟩)))(a:lk H i=some (box b tb (cellsOf enc l).toArray))(c:Enc P te q enc)(g:∀w,(isAgg t).run P w= .ok true w)(d:∀w,(sizeOf t).run P w= .ok k w)(e:l.length*q=k) :
  Lk P N sc o env H (.agg (cellsOf enc l).toArray):=
 Zxs (vs:=cellsOf enc l) f j a g d (by rw [Xm c.cells l];exact e) (λn u h=>by rw [cH];simpa using h)
theorem t_sea {α:Type}   {y:Operand}  {i b k q:Nat}  {enc:α->Value} {l:List α} {w0:World}  (r:o.op= .store t x y) (m:o.dst=none)
  (v:ev env x=some (.pointer (some ⟨b,0,none⟩))) (B:ev env y=some (.agg (cellsOf enc l).toArray)) (g:lk H i=some (box b tb cs)) (a:i≠0) (d:Enc P te q enc) (n:∀w,(sizeOf t).run P w= .ok k w) (p:l.length*q=k) (j:cs.size=k)
  (f:lk H 0=some (Yy w0 M0)) (s:∀b,w0.heap.size<=b->sc b) (h:M b) :
  T P N sc M o env H (G:=Unit) (λ_=>True) (λ_=>env) (λ_=>(i,box b tb (cellsOf enc l).toArray)::H):=by
 have c:(cellsOf enc l).length=k:=by rw [Xm d.cells l];exact p
 refine Zjt (vs:=cellsOf enc l) r m v B g a rfl n c (by rw [c,cH,j];exact aF _) (λu e=>?_) (by unfold Fe;rw [eE,lF,cH,List.drop_eq_nil_of_le O9,jA]) f s h
 unfold cellsOf at e;obtain⟨z,_,D⟩:=jQ.1 e;exact Yg (d.one z u D)
end Go.Sky
namespace Go.Sky
variable {P:Program} {N:Nat} {sc:Nat->Prop} {env env':Pw} {H H':Hp} {Q Q':Exit->Act->World->Prop}
abbrev Zk:=(Int×Int×Int)×(SL×List Int)×(SL×List Int)×(SL×List Int)
abbrev Xv (g:Zk):Value:= .agg #[.int .i64 g.1.1,.int .i64 g.1.2.1,.int .i64 g.1.2.2,Xk g.2.1.1,Xk g.2.2.1.1,Xk g.2.2.2.1]
abbrev qC (z:SL×List Int):Pc:=Yx 1 Yj (Xk z.1) z.2
abbrev qG (g:Zk):Pc:=Nf qC [g.2.1,g.2.2.1,g.2.2.2]
abbrev G0:Zk:=((0,0,0),((none,0,0),[]),((none,0,0),[]),((none,0,0),[]))
def Pf (g:Zk)(z:SL×List Int){v:Value}{ps:List Zk}(j n:Nat)(i:lk H j=some (Xn 6 Xv qG v ps))(c:Nat.beq j 0=false)(d:g∈ps)(e:z∈[g.2.1,g.2.2.1,g.2.2.2]):∀a w,Sat N sc env H a w->Sat N sc env ((n,Yx 1 Yj (Xk z.1) z.2)::H) a w:=
 Zcz j n i c rfl (λw h=>h.2 g d z e) (λb f=> .inr ⟨g,d,z,e,f⟩) rfl
end Go.Sky
namespace Go.Sky
variable{x c y z:List Int}{i:Nat}{over ov:Int}
theorem Li{x:Int}(h:Nc x):bl x.natAbs<=64:=(Qs 64 _).2 (by obtain⟨a,b⟩:=h;omega)
theorem in_bl{x:Int}(h:bl x.natAbs<=63):Nc x:=by have:=(Qs 63 x.natAbs).1 h;exact⟨O1,O1⟩
theorem bl_pw{n:Int}(h:bl n.natAbs<=100)(hi:i<=10):bl (n^i).natAbs<=1000:=by
 rcases aU i with a|a
 .subst a;rw [dC];decide
 .exact aB (Fl n h i a) (by have:=aJ 100 hi;omega)
def Zap:List Int->Int
 | []=>1
 | x::r=>x*Zap r
def zc6_eq:(Value.agg (List.replicate 36 (Value.int .i64 0)).toArray).cells=Zah (List.replicate 36 0):=rfl
def Zuc:(Value.agg (List.replicate 36 (Value.int .i64 0)).toArray).cells.size=36:=rfl
def w60(n j k:Nat):Int:=60/(Ou n k:Int)*(Ou j k:Int)
def ctl(c:List Int)(j m:Nat):Int:=Yl (λk=>c.getD k 0*w60 (c.length-1) j k) m
def Yn7(c:List Int)(j m:Nat):ctl c j (m+1)=ctl c j m+c.getD m 0*w60 (c.length-1) j m:=rfl
theorem Zlp:∀{n k:Nat},k<=n->0<Ou n k
 | n,0,_=>by cases n<;>exact Nat.one_pos
 | n+1,k+1,h=>by have:=Zlp (n:=n) (k:=k) O1;show 0<Ou n k+Ou n (k+1);omega
theorem Zyl (n:Nat)(j:Nat)(k:Nat)(d:j<=5):0<=w60 n j k/\w60 n j k<=1920:=by have e:=Zts _ k d;unfold w60;have a:(0:Int)<=60/(Ou n k:Int):=iZ O4 O1;have b:(60:Int)/(Ou n k:Int)<=60:=kU _ O4;refine⟨dU a O1,?_⟩;have:=jK b (show(Ou j k:Int)<=32 by omega) O1 O4;omega
theorem Zoc (n:Nat)(k:Nat){j:Nat}(a:j<=5):bl (w60 n j k).natAbs<=11:=by have:=Zyl n _ k a;exact(Qs 11 _).2 O1
theorem Kb(h:∀x∈c,Nc x)(k:Nat):Nc (c.getD k 0):=by
 by_cases a:k<c.length
 .exact h _ (Zd a)
 .rw [aL,bX O1];exact⟨O4,O4⟩
theorem Zd6(h:∀x∈c,Nc x){j m:Nat}(a:j<=5)(b:m<=31):bl (ctl c j m).natAbs<=80:=
 Zlu (K:=75) (λk _=>by have d:=Li (Kb h k);have e:=Zoc (c.length-1) k a;have:=Zy (c.getD k 0) (w60 (c.length-1) j k);omega) b
def Zob(c:List Int)(over:Int):Bool:=(List.range c.length).all λj=>decide ((ctl c j (j+1)).natAbs<=62914560*over)
theorem Yax(h:∀j,j<c.length->((ctl c j (j+1)).natAbs:Int)<=62914560*over):Zob c over=true:=by unfold Zob;rw [cI];intro j a;exact aG (h j (fX.1 a))
theorem Yay (j:Nat)(a:j<c.length)(h:¬((ctl c j (j+1)).natAbs:Int)<=62914560*over):Zob c over=false:=by
 cases hb:Zob c over with
 | false=>rfl
 | true=>
  unfold Zob at hb;rw [cI]at hb;exact absurd (cC (hb j (fX.2 a))) h
theorem wc_abs{s:Int}:(#[.bool false,.string (Qp s.natAbs)]:Array Value)=wc (s.natAbs:Int):=by have:decide (((s.natAbs:Nat):Int)<0)=false:=aI O1;rw [show wc (s.natAbs:Int)=#[.bool (decide (((s.natAbs:Nat):Int)<0)),.string (Qp ((s.natAbs:Nat):Int).natAbs)]from rfl,this,dA]
theorem sgp(z:Int):0<z.sign↔0<z:=by simpa using sign_pos_iff z
def axB(c:List Int)(over:Int):Bool:=decide (1<=c.length) && decide (c.length<=6) && !(decide (1<c.length) && decide (c.getD (c.length-1) 0=0)) && Zob c over
def Mh(g:Int):List Int->Int
 | []=>g
 | x::r=>Mh (Int.gcd g x) r
theorem Gi:∀(a b:List Int) (g:Int),Mh g (a ++ b)=Mh (Mh g a) b
 | [],_,_=>rfl
 | x::a,b,g=>Gi a b _
theorem Ah{l:List Int}{g:Int}(h:i<l.length):Mh g (l.take (i+1))=(Int.gcd (Mh g (l.take i)) (l.getD i 0):Int):=by rw [Ps 0 _ _ h,Gi];rfl
theorem Zid:∀{l:List Int} {g:Int} {m:Nat},(∀x∈l,bl x.natAbs<=m)->bl g.natAbs<=m->bl (Mh g l).natAbs<=m
 | [],_,_,_,h=>h
 | x::l,g,m,h,hg=>Zid (l:=l) (λy a=>h y (bH _ a)) (aB (Zic g x) (by have:=h x (bR ..);omega))
abbrev Cs:=List Int×List Int×List Int
def Yfl(fr a ov:Int):Bool:=decide (0<=fr) && decide (fr<a) && decide (a<=3600000) && decide (1<=ov) && decide (ov<=4294967296)
def Bf(fr a ov:Int)(x y z:List Int):Bool:=Yfl fr a ov && axB x ov && axB y ov && axB z ov && decide (Mh ov (x ++ y ++ z)=1)
def Lh(i:Nat)(x y z:List Int):List Int:=match i with
 | 0=>[]
 | 1=>x
 | 2=>x ++ y
 | _=>x ++ y ++ z
theorem Ee(x y z:List Int)(h:i<3):Lh (i+1) x y z=Lh i x y z ++ Zs i x y z:=by
 match i,h with
 | 0,_=>rfl
 | 1,_=>rfl
 | 2,_=>rfl
theorem Zde (i:Nat){fr a:Int}(h:axB (Zs i x y z) ov=false):Bf fr a ov x y z=false:=by unfold Bf;revert h;unfold Zs;split<;>intro h<;>simp [h]
theorem Za4{fr a:Int}(h:¬(0<=fr/\fr<a/\a<=3600000/\1<=ov/\ov<=4294967296)):Bf fr a ov x y z=false:=by
 cases hb:Bf fr a ov x y z with
 | false=>rfl
 | true=>
  unfold Bf Yfl at hb;simp only [aN,cF]at hb;exact absurd O1 h
theorem Zom(h:1<=c.length->c.length<=6->¬(1<c.length/\c.getD (c.length-1) 0=0)->Zob c ov=true->False):axB c ov=false:=by
 cases hb:axB c ov with
 | false=>rfl
 | true=>
  unfold axB at hb;simp only [aN,fI,iF,cF,fJ]at hb;exact(h hb.1.1.1 hb.1.1.2 (λb=>by rcases hb.1.2 with a|a;exact a b.1;exact a b.2) hb.2).elim
theorem Ye9(b:1<=c.length)(d:c.length<=6)(e:¬(1<c.length/\c.getD (c.length-1) 0=0))(f:Zob c ov=true):axB c ov=true:=by
 unfold axB;simp only [aN,fI,iF,cF,fJ];refine⟨⟨⟨b,d⟩,?_⟩,f⟩;by_cases a:1<c.length
 .exact .inr λg=>e ⟨a,g⟩
 .exact .inl a
theorem Yje{fr d:Int}(a:0<=fr/\fr<d/\d<=3600000/\1<=ov/\ov<=4294967296)(b:∀k,k<3->axB (Zs k x y z) ov=true):Bf fr d ov x y z=decide (Mh ov (Lh 3 x y z)=1):=by have e:axB x ov=true:=b 0 O4;have f:axB y ov=true:=b 1 O4;have g:axB z ov=true:=b 2 O4;unfold Bf Yfl;rw [aG a.1,aG a.2.1,aG a.2.2.1,aG a.2.2.2.1,aG a.2.2.2.2,e,f,g];rfl
def Il(b:∀a∈x,Nc a)(d:∀a∈y,Nc a)(e:∀a∈z,Nc a)(i:Nat):∀a∈Zs i x y z,Nc a:=Cr (p:=λl=>∀a∈l,Nc a) b d e
theorem bl_fc(d:∀a∈x,Nc a)(e:∀a∈y,Nc a)(f:∀a∈z,Nc a)(g:bl ov.natAbs<=64)(i k:Nat):bl (Mh (Mh ov (Lh i x y z)) ((Zs i x y z).take k)).natAbs<=64:=by
 refine Zid (λa b=>Li (Il d e f i a (fG b))) (Zid (λa b=>Li ?_) g);unfold Lh at b;split at b
 .cases b
 .exact d a b
 .rcases cW.1 b with h|h
  .exact d a h
  .exact e a h
 .rcases cW.1 b with h|h
  .rcases cW.1 h with h|h
   .exact d a h
   .exact e a h
  .exact f a h
end Go.Sky

