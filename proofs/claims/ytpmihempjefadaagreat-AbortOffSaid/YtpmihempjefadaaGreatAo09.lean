/- Rules, arithmetic and contracts: part 10. No conditions but those that each theorem names. -/
import Derived.Test.YtpmihempjefadaaGreatAo08
set_option linter.all false
namespace Go.Sky
variable{xs p c z y q l1 l2:List Int}{i:Nat}{a b d x ov:Int}{u v:Value}{zs:List (SL×List Int)}{s:SL}{f:Nat->Value}{d0:SL×List Int}{M M0:Nat->Prop}
def lessx(xs:List Int)(m:Int):List Int:=Zbo xs (tzl [m])
def Zuo(xs:List Int)(m:Int):Prop:=∃x:Rat,0<=x/\x<=1/\Zb xs x<(m:Rat)
theorem Ybm{m n:Int}(h:Zuo xs m)(e:m<=n):Zuo xs n:=by
 obtain⟨x,a,b,c⟩:=h;have:(m:Rat)<=(n:Rat):=by exact_mod_cast e
 exact⟨x,a,b,O4⟩
def lws:List Int->Int
 | []=>0
 | c::p=>-(c.natAbs:Int)+lws p
theorem Yfs{n:Nat} : ∀p:List Int,(∀c∈p,c.natAbs<=n)->-((p.length*n:Nat):Int)<=lws p/\lws p<=0
 | [],_=>by show -((0*n:Nat):Int)<=0/\(0:Int)<=0;omega
 | c::p,h=>by have g:=Yfs p λd e=>h d (bM _ e);have j:=h c cE;show -(((p.length+1)*n:Nat):Int)<=-(c.natAbs:Int)+lws p/\-(c.natAbs:Int)+lws p<=0;rw [eN];omega
theorem Zyp{x:Rat}(g:0<=x)(k:x<=1):∀p:List Int,((lws p:Int):Rat)<=Zb p x
 | []=>by show((0:Int):Rat)<=0;exact iL
 | c::p=>by
  have j:=Zyp g k p;have o:=(Yfs (n:=p.foldl (λm c=>max m c.natAbs) 0) p (λc e=>by
   have:∀(l:List Int) (a:Nat),(a<=l.foldl (λm c=>max m c.natAbs) a)/\∀c∈l,c.natAbs<=l.foldl (λm c=>max m c.natAbs) a:=λl=>by
    induction l with
    | nil=>intro a;exact⟨aI _,λc e=>absurd e O8⟩
    | cons d l j=>
     intro a;obtain⟨h,w⟩:=j (max a d.natAbs);refine⟨aB (Nat.le_max_left _ _) h,λc e=>?_⟩;rcases aZ.1 e with rfl|e
     .exact aB (Nat.le_max_right _ _) h
     .exact w c e
   exact(this p 0).2 c e)).2
  have r:((lws p:Int):Rat)<=0:=by exact_mod_cast o
  have e:((-(c.natAbs:Int):Int):Rat)<=(c:Rat):=by exact_mod_cast (show -(c.natAbs:Int)<=c by omega)
  have B:=aN (show 0<=1-x by grind) (show 0<=-((lws p:Int):Rat) by grind);have t:=aN g (show 0<=Zb p x-((lws p:Int):Rat) by grind);show((-(c.natAbs:Int)+lws p:Int):Rat)<=(c:Rat)+x*Zb p x;push_cast at e ⊢;grind
theorem Yfv(xs:List Int):¬Zuo xs (lws xs):=by rintro⟨x,a,b,c⟩;have:=Zyp a b xs;grind
theorem Yk2(xs:List Int):Zb xs 0=((cf xs 0:Int):Rat):=by
 cases xs with
 | nil=>rfl
 | cons c p=>show(c:Rat)+0*Zb p 0=(c:Rat);grind
theorem Ybn(xs:List Int):Zuo xs (cf xs 0+1):=by refine⟨0,O4,O3,?_⟩;rw [Yk2];push_cast;grind
theorem Ylt{l h:Int}(e:¬Zuo xs l)(g:Zuo xs h):l<h:=by
 rcases jL l h with q|q
 .exact q
 .exact absurd (Ybm g q) e
def Zrb(hs:Sz 40 xs)(i:Nat):(cf xs i).natAbs<1099511627776:=(Qt 40 _).1 (hs i)
theorem Yfr(hs:Sz 40 xs)(r:xs.length<=9)(i:Nat):-9895604649984<=lws (xs.take i)/\lws (xs.take i)<=0:=by
 obtain⟨l,g⟩:=Yfs (n:=1099511627776) (xs.take i) λc h=>by
  obtain⟨k,j,rfl⟩:=eD.1 h;have o:=Zrb hs k;rw [aS]at j;have e:(xs.take i)[k]=cf xs k:=by rw [List.getElem_take];unfold cf;rw [aE,aM O];rfl
  rw [e];omega
 have m:(xs.take i).length*1099511627776<=9*1099511627776:=aP _ (by rw [aS];omega);exact⟨O,g⟩
structure FlI (xs:List Int) (lo hi:Int):Prop where
 l:¬Zuo xs lo
 h:Zuo xs hi
 b1:-17592186044416<=lo
 b2:hi<=17592186044416
def FlI.lt{lo hi:Int}(h:FlI xs lo hi):lo<hi:=Ylt h.l h.h
theorem FlI.start(hs:Sz 40 xs)(e:xs.length<=9)(hi:xs.length<=i):FlI xs (lws (xs.take i)) (cf xs 0+1):=by have g:=Yfr hs e i;have h:=Zrb hs 0;refine⟨by rw [cC hi];exact Yfv xs,Ybn xs,O,O⟩
structure Ef (a:R2):Prop where
 p:0<a.2
 b1:bl a.1.natAbs<=512
 b2:bl a.2.natAbs<=512
def E32.ef{a:R2}(h:E32 a):Ef a:=⟨h.p,aB h.b1 O3,aB h.b2 O3⟩
def plx(a b:R2):Int:=a.1*b.2
def ply(a b:R2):Int:=b.1*a.2
def pld(a b:R2):Int:=a.2*b.2
def plc(xs:List Int)(a b:R2):List Int:=Ks xs (plx a b) (ply a b-plx a b) (pld a b)
def psum(c:List Int)(d j:Nat)(i:Nat):Int:=Yb (λi=>cf c i*(Py (d-i) (j-i):Int)) i
def plainB(xs:List Int)(a b:R2):Bool:=if xs.length=0 then true else(List.range xs.length).all λj=>decide (0<=psum (plc xs a b) (xs.length-1) j (min (j+1) (plc xs a b).length))
abbrev PTs:=Int×R2×R2
abbrev P0:PTs:=(0,(0,0),(0,0))
abbrev encP9 (z:PTs):Value:= .agg #[.int .i64 z.1,.bool (decide (z.2.1.1<0)),.string (Xo z.2.1.1.natAbs),.bool (decide (z.2.1.2<0)),.string (Xo z.2.1.2.natAbs),.bool (decide (z.2.2.1<0)),.string (Xo z.2.2.1.natAbs),.bool (decide (z.2.2.2<0)),.string (Xo z.2.2.2.natAbs)]
def shw(xs:List Int)(z:PTs):Bool:=if z.1=1 then plainB xs z.2.1 z.2.2 else if xs.length=0\/cmp z.2.1 z.2.2=0 then decide (0<=vlu (Nd xs) z.2.1)else decide (0<aft (Nd xs) z.2.1) && !crb (chx xs) z.2.1 z.2.2
def okpB(xs:List Int)(l:R2)(z:PTs):Bool:=decide (cmp l z.2.1=0) && decide (¬0<cmp z.2.1 z.2.2) && shw xs z
def lst(a:R2)(ps:List PTs)(i:Nat):R2:=if i=0 then a else(ps.getD (i-1) P0).2.2
def chkP(xs:List Int)(ps:List PTs)(a b:R2):Bool:=decide (0<ps.length) && (List.range ps.length).all (λk=>okpB xs (lst a ps k) (ps.getD k P0)) && decide (cmp (lst a ps ps.length) b=0)
def ValP(ps:List PTs):Prop:=∀z∈ps,(z.1=1\/z.1=2)/\Ef z.2.1/\Ef z.2.2
theorem Ef.efit{a:R2}(h:Ef a):Go.Sky.efit a=true:=by have:=h.b1;have:=h.b2;unfold Go.Sky.efit;exact aJ O
theorem Xw{b:Bool}(h:(!b)=true):b=false:=by cases b<;>simp_all
theorem Ql{b:Bool}(h:(!b)=false):b=true:=by cases b<;>simp_all
def Hr(f:Nat->Rat):Nat->Rat
 | 0=>0
 | n+1=>Hr f n+f n
def Nr(f:Nat->Rat)(n:Nat):Hr f (n+1)=Hr f n+f n:=rfl
theorem Mo{f g:Nat->Rat} : ∀n,(∀i,i<n->f i=g i)->Hr f n=Hr g n
 | 0,_=>rfl
 | n+1,h=>by rw [Nr,Nr,Mo n λi hi=>h i O,h n O]
theorem Dg(f:Nat->Rat):∀n,Hr f (n+1)=f 0+Hr (λi=>f (i+1)) n
 | 0=>by show 0+f 0=f 0+0;grind
 | n+1=>by rw [Nr,Dg f n,Nr];grind
theorem Zka(f g:Nat->Rat):∀n,Hr (λi=>f i+g i) n=Hr f n+Hr g n
 | 0=>by show(0:Rat)=0+0;grind
 | n+1=>by rw [Nr,Nr,Nr,Zka f g n];grind
theorem Fx(c:Rat)(f:Nat->Rat):∀n,Hr (λi=>c*f i) n=c*Hr f n
 | 0=>by show(0:Rat)=c*0;grind
 | n+1=>by rw [Nr,Nr,Fx c f n];grind
theorem Zlt(n:Nat):Py n 0=1:=by cases n<;>rfl
def chz_s(n k:Nat):Py (n+1) (k+1)=Py n k+Py n (k+1):=rfl
theorem Yir{u w:Rat}(h:u+w=1):∀n,Hr (λj=>(Py n j:Rat)*(u^j*w^(n-j))) (n+1)=1
 | 0=>by rw [Dg];show((Py 0 0:Nat):Rat)*(u^0*w^0)+0=1;rw [Zlt,eO,eO];push_cast;grind
 | n+1=>by
  have e:=Yir h n;rw [Dg];have g:Hr (λi=>(Py (n+1) (i+1):Rat)*(u^(i+1)*w^(n+1-(i+1)))) (n+1)=Hr (λi=>u*((Py n i:Rat)*(u^i*w^(n-i)))) (n+1)+Hr (λi=>(Py n (i+1):Rat)*(u^(i+1)*w^(n-i))) (n+1):=by rw [<-Zka];refine Mo _ λi hi=>?_;rw [chz_s,show n+1-(i+1)=n-i by omega,dX];push_cast;grind
  have k:Hr (λi=>(Py n (i+1):Rat)*(u^(i+1)*w^(n-i))) (n+1)=Hr (λi=>(Py n (i+1):Rat)*(u^(i+1)*w^(n-i))) n:=by rw [Nr,Zls n (n+1) O];push_cast;grind
  have l:w*Hr (λj=>(Py n j:Rat)*(u^j*w^(n-j))) (n+1)=w^(n+1)+Hr (λi=>(Py n (i+1):Rat)*(u^(i+1)*w^(n-i))) n:=by
   rw [<-Fx,Dg,Zlt];congr 1
   .rw [iM,eO,dX];push_cast;grind
   .refine Mo _ λi hi=>?_;rw [show n-i=(n-(i+1))+1 by omega,dX w];grind
  rw [g,k,Fx,e];rw [e]at l;rw [Zlt,eO,iM];push_cast;grind
def Iv(d:Nat)(c:List Int)(j:Nat):Int:=Yb (λi=>cf c i*(Py (d-i) (j-i):Int)) (j+1)
theorem brS_0(d:Nat)(a:Int)(c:List Int):Iv d (a::c) 0=a:=by unfold Iv;rw [Yl,Hl];show 0+a*((Py (d-0) (0-0):Nat):Int)=a;rw [show 0-0=0 from rfl,Zlt];omega
theorem brS_s(d:Nat)(a:Int)(c:List Int)(j:Nat):Iv (d+1) (a::c) (j+1)=a*(Py (d+1) (j+1):Int)+Iv d c j:=by unfold Iv;rw [Mz];congr 1;refine Yz λi hi=>?_;rw [show d+1-(i+1)=d-i by omega,show j+1-(i+1)=j-i by omega];rfl
theorem Ynw(d j:Nat):Iv d [] j=0:=by unfold Iv;exact(Zgz (m:=0) (bI _) λi _ _=>by rw [show cf [] i=0 from rfl,dC]).trans (Hl _)
theorem bern{u w:Rat}(h:u+w=1):∀(d:Nat) (c:List Int),c.length<=d+1->Hr (λj=>(Iv d c j:Rat)*(u^j*w^(d-j))) (d+1)=Zb c u
 | d,[],_=>by
  rw [Mo (g:=λ_=>0) (d+1) λi hi=>by rw [Ynw];push_cast;grind];show Hr (λ_=>0) (d+1)=0;have:∀n,Hr (λ_=>0) n=0:=λn=>by
   induction n with
   | zero=>rfl
   | succ n k=>rw [Nr,k];grind
  exact this _
 | 0,[a],_=>by rw [Nr,brS_0];show 0+(a:Rat)*(u^0*w^0)=(a:Rat)+u*0;rw [eO,eO];grind
 | 0,a::b::c,hl=>by simp at hl
 | d+1,a::c,hl=>by
  have k:=bern h d c (by simpa using hl);have e:=Yir h (d+1);rw [Dg]at e;rw [Dg,brS_0];have l:Hr (λi=>(Iv (d+1) (a::c) (i+1):Rat)*(u^(i+1)*w^(d+1-(i+1)))) (d+1)=(a:Rat)*Hr (λi=>(Py (d+1) (i+1):Rat)*(u^(i+1)*w^(d+1-(i+1)))) (d+1)+u*Hr (λj=>(Iv d c j:Rat)*(u^j*w^(d-j))) (d+1):=by rw [<-Fx,<-Fx,<-Zka];refine Mo _ λi hi=>?_;rw [brS_s,show d+1-(i+1)=d-i by omega,dX];push_cast;grind
  rw [l,k];show _=(a:Rat)+u*Zb c u;rw [Zlt]at e;push_cast at e ⊢;grind
theorem Dx(a:Int):∀(c:List Int) (i:Nat),cf (c.map λx=>a*x) i=a*cf c i
 | [],i=>by rw [iQ,show cf [] i=0 from rfl,eC]
 | x::c,0=>rfl
 | x::c,i+1=>Dx a c i
theorem Zu9(c:List Int)(a b e:Int)(u:Rat):Zb (mk (c.length+1) λt=>cf c t*a+(if t=0 then e else cf c (t-1)*b)) u=Zb c u*((a:Rat)+(b:Rat)*u)+(e:Rat):=by
 have h:Zb (mk (c.length+1) λt=>cf c t*a+(if t=0 then e else cf c (t-1)*b)) u=Zb (Mb (c.map λx=>a*x) (e::c.map λx=>b*x)) u:=Ng u _ _ λi=>by
  rw [My,Dx,Ly]
  match i with
  | 0=>rw [aF O,aF rfl];show cf c 0*a+e=a*cf c 0+e;rw [dV]
  | i+1=>
   show _=a*cf c (i+1)+cf (c.map λx=>b*x) i;rw [Dx];by_cases hi:i<c.length
   .rw [aF O,aD O,fN,dV,dV (cf c i)]
   .rw [aD O,Yo (p:=c) (i:=i+1) O,Yo (p:=c) (i:=i) O];omega
 rw [h,Xd,Zg];show _+((e:Rat)+u*Zb (c.map λx=>b*x) u)=_;rw [Zg];grind
theorem Zry(p:List Int)(a b d:Int){t u:Rat}(g:t*(d:Rat)=(a:Rat)+(b:Rat)*u):∀j,j+1<=p.length->Zb (Mx p a b d j) u=(d:Rat)^j*Zb (p.drop (p.length-1-j)) t
 | 0,h=>by
  have e:p.drop (p.length-1-0)=[cf p (p.length-1)]:=by rw [iM,eG O,iP O];congr 1;unfold cf;rw [aE,aM O];rfl
  rw [Dn,e,eO,Pi,Pi];grind
 | j+1,h=>by
  have k:=Zry p a b d g j O;have e:p.drop (p.length-1-(j+1))=cf p (p.length-2-j)::p.drop (p.length-1-j):=by rw [eG O,show p.length-1-(j+1)+1=p.length-1-j by omega];congr 1;unfold cf;rw [aE,aM O];show p[p.length-1-(j+1)]=p[p.length-2-j];congr 1;omega
  rw [Ycc,Zu9,k,e,<-g];show _=(d:Rat)^(j+1)*((cf p (p.length-2-j):Rat)+t*Zb (p.drop (p.length-1-j)) t);rw [dX];push_cast;rw [dX];generalize (d:Rat)^j=D;grind
theorem Zj8(a b d:Int){t u:Rat}(g:t*(d:Rat)=(a:Rat)+(b:Rat)*u)(e:p.length≠0):Zb (Ks p a b d) u=(d:Rat)^(p.length-1)*Zb p t:=by unfold Ks;rw [aD e,Ng u (tzl _) _ (λi=>Ik _ i),Zry p a b d g (p.length-1) O,lA,lL]
def Nn(c:List Int)(a b d:Int):List Int:=Yk (Ks (tzl c) a b d) (d^(6-c.length))
def Zly(h:a.natAbs<=3600000):bl a.natAbs<=22:=(Qt 22 _).2 (bC h O3)
theorem Znq(h:bl d.natAbs<=22):∀k,k<=5->bl (d^k).natAbs<=132
 | 0,_=>by rw [dD];decide
 | k+1,g=>by
  have e:∀k,bl (d^k).natAbs<=22*k+1:=λk=>by
   induction k with
   | zero=>rw [dD];decide
   | succ k j=>rw [eF];have:=Xq (d^k) d;omega
  have:=e (k+1);omega
theorem Zqa(h:∀a∈c,Mw a)(D:1<=c.length/\c.length<=6)(w:a.natAbs<=3600000)(B:b.natAbs<=3600000)(P:1<=d/\d<=3600000) :
  Vp (tzl c)/\¬Zlp (tzl c) a b d/\Vp (Ks (tzl c) a b d)/\bl (d^(6-c.length)).natAbs<=132/\(∀i,bl (cf (Ks (tzl c) a b d) i*d^(6-c.length)).natAbs<=65536)/\Vp (Nn c a b d)/\Sz 1000 (Nn c a b d)/\(Nn c a b d).length<=6:=by
 have H:(tzl c).length<=6:=aB (Hj c) D.2;have n:Sz 64 (tzl c):=(ab_in h).sz O3;have o:=Zly w;have r:=Zly B;have g:bl d.natAbs<=22:=Zly O;have l:=cp_not (cp_nf n o r g O O);have hs:Sz 300 (Ks (tzl c) a b d):=by
  have h:=Zim (x:=a) (y:=b) (z:=d) (m:=22) n o r g ((tzl c).length-1);unfold Ks;split
  .exact Sz.nil _
  .refine(Sz.tzl h).mono ?_;have:((tzl c).length-1)*(22+1)<=5*23:=aY O O;omega
 have G:Tr (Ks (tzl c) a b d):=by
  unfold Ks;split
  .exact .inl rfl
  .exact Qq _
 have j:(Ks (tzl c) a b d).length<=6:=aB (Zew _ _ _ _) H;have F:=Znq g (6-c.length) O;have t:∀i,bl (cf (Ks (tzl c) a b d) i*d^(6-c.length)).natAbs<=500:=λi=>by have I:=hs i;have N:=Xq (cf (Ks (tzl c) a b d) i) (d^(6-c.length));omega
 have e:Sz 1000 (Nn c a b d):=λi=>by unfold Nn;rw [Qo];have:=t i;omega
 have k:(Nn c a b d).length<=6:=aB Kb j;exact⟨⟨n.mono O,Qq _,O⟩,l,⟨hs.mono O,G,O⟩,F,λi=>by have:=t i;omega,⟨e.mono O,Nq,O⟩,e,k⟩
def Zsa(zs:List (SL×List Int)):List (SL×List Int):=zs ++ List.replicate (3-zs.length) ((none,0,0),[])
theorem Yfy(h:zs.length<=3):(Zsa zs).length=3:=by unfold Zsa;rw [bE,aT];omega
theorem Ye1{z:SL×List Int}(hi:i<3)(h:zs.length=i):(Zsa zs).set i z=Zsa (zs ++ [z]):=by subst h;unfold Zsa;rw [List.set_append_right _ _ (aI _),lA,bE,dW];congr 1;obtain⟨k,e⟩:∃k,3-zs.length=k+1:=⟨2-zs.length,O⟩;rw [e,jO,nL,show 3-(zs.length+[z].length)=k by simp;omega];rfl
theorem Zt6{t:Nat}{f:Nat->List Int}(g:zs.length=i)(h:∀t,t<i->(zs.getD t d0).2=f t)(j:t<i+1):((zs ++ [(s,f i)]).getD t d0).2=f t:=by
 subst g;rw [aE];rcases aC.1 j with e|e
 .rw [cW e,<-aE];exact h t e
 .subst e;simp
theorem Yc3{x:List Int}(k:zs.length=3)(h:∀t,t<3->(zs.getD t d0).2=Nn (Ye t x y z) a b d):∃l m n:SL,zs=[(l,Nn x a b d),(m,Nn y a b d),(n,Nn z a b d)]:=by
 match zs,k with
 | [o,r,w],_=>
  have e:=h 0 O3;have g:=h 1 O3;have j:=h 2 O3;simp [Ye]at e g j;exact⟨o.1,r.1,w.1,by rw [<-e,<-g,<-j]⟩
def Yhu:List Int->List Int
 | []=>[]
 | a::p=>a::0::Yhu p
theorem Zok(x:Rat):∀p:List Int,Zb (Yhu p) x=Zb p (x*x)
 | []=>rfl
 | a::p=>by show(a:Rat)+x*(((0:Int):Rat)+x*Zb (Yhu p) x)=(a:Rat)+x*x*Zb p (x*x);rw [Zok x p];push_cast;grind
theorem Zwm:∀(p:List Int) (i:Nat),cf (Yhu p) (2*i)=cf p i
 | [],i=>rfl
 | a::p,0=>rfl
 | a::p,i+1=>by show cf (0::Yhu p) (2*i+1)=cf p i;exact Zwm p i
theorem sq_nn(x:Rat):0<=x*x:=by
 rcases(show 0<=x\/x<=0 by grind)with h|h
 .exact aN h h
 .have:=aN (show 0<=-x by grind) (show 0<=-x by grind);grind
theorem Zrx(h:∀x:Rat,0<=x->Zb p x=Zb q x)(i:Nat):cf p i=cf q i:=by rw [<-Zwm p,<-Zwm q];exact Mi (λx=>by rw [Zok,Zok];exact h _ (sq_nn x)) _
theorem Zit(f:Nat->Int)(x:Rat):∀n,Zb (mk n f) x=Hr (λj=>(f j:Rat)*x^j) n
 | 0=>rfl
 | n+1=>by rw [Yls,Zrw,Zit f x n,Yu,Nr]
def NN(p:List Int):Prop:=∀i,0<=cf p i
theorem NN.smul{c:Int}(e:0<=c)(h:NN p):NN (p.map λa=>c*a):=λi=>by rw [Dx];exact dS e (h i)
theorem NN.add(e:NN p)(g:NN q):NN (Mb p q):=λi=>by rw [My];exact Int.add_nonneg (e i) (g i)
theorem NN.lmul{q:List Int}(e:NN q):∀{p:List Int},NN p->NN (lmul p q)
 | [],_=>λi=>by show 0<=cf [] i;rw [show cf [] i=0 from rfl];exact fE _
 | c::p,h=>NN.add (NN.smul (h 0) e) λi=>by
  match i with
  | 0=>exact fE _
  | i+1=>exact NN.lmul e (p:=p) (λj=>h (j+1)) i
def lpw(l:List Int):Nat->List Int
 | 0=>[1]
 | k+1=>lmul l (lpw l k)
theorem Zoh(l:List Int)(x:Rat):∀k,Zb (lpw l k) x=Zb l x^k
 | 0=>by rw [eO];show((1:Int):Rat)+x*0=1;push_cast;grind
 | k+1=>by rw [show lpw l (k+1)=lmul l (lpw l k)from rfl,Zp,Zoh l x k,dX,kE]
theorem NN.lpw{l:List Int}(h:NN l):∀k,NN (lpw l k)
 | 0=>λi=>by
  show 0<=cf [1] i
  match i with
  | 0=>exact Int.one_nonneg
  | i+1=>exact fE _
 | k+1=>NN.lmul (NN.lpw h k) h
theorem NN.two(e:0<=a)(g:0<=b):NN [a,b]:=λi=>by
 match i with
 | 0=>exact e
 | 1=>exact g
 | i+2=>exact fE _
def sQ(f:Nat->Int)(W:Nat->List Int):Nat->List Int
 | 0=>[]
 | k+1=>Mb (sQ f W k) ((W k).map λa=>f k*a)
theorem Zu7(f:Nat->Int)(W:Nat->List Int)(x:Rat):∀k,Zb (sQ f W k) x=Hr (λi=>(f i:Rat)*Zb (W i) x) k
 | 0=>rfl
 | k+1=>by rw [show sQ f W (k+1)=Mb (sQ f W k) ((W k).map λa=>f k*a)from rfl,Xd,Zu7 f W x k,Zg,Nr]
theorem sQ_le{f g:Nat->Int}{W:Nat->List Int}{B:Int}(l:∀i,NN (W i)):∀k,(∀i,i<k->((f i).natAbs:Int)<=B*g i)->∀j,((cf (sQ f W k) j).natAbs:Int)<=B*cf (sQ g W k) j
 | 0,_,j=>by show((cf [] j).natAbs:Int)<=B*cf [] j;rw [show cf [] j=0 from rfl];simp
 | k+1,h,j=>by
  have w:=sQ_le l k (λi hi=>h i O) j;have m:=h k O;show((cf (Mb (sQ f W k) ((W k).map λa=>f k*a)) j).natAbs:Int)<=B*cf (Mb (sQ g W k) ((W k).map λa=>g k*a)) j;rw [My,My,Dx,Dx,kM,<-eZ];have n:=l k j;have o:((f k*cf (W k) j).natAbs:Int)<=B*g k*cf (W k) j:=by rw [cH];push_cast;have e:((cf (W k) j).natAbs:Int)=cf (W k) j:=O;rw [e];exact fD m n
  generalize B*g k*cf (W k) j=t at *;generalize f k*cf (W k) j=s at *;generalize B*cf (sQ g W k) j=r at *;omega
theorem Zkp(a b:Rat):∀n:Nat,(a*b)^n=a^n*b^n
 | 0=>by rw [eO,eO,eO];grind
 | n+1=>by rw [dX,dX,dX,Zkp a b n];grind
theorem Yak(a:Rat)(m:Nat):∀n:Nat,a^(m+n)=a^m*a^n
 | 0=>by rw [fR,eO];grind
 | n+1=>by rw [<-fY,dX,dX,Yak a m n];grind
theorem Yis{U V S:Rat}(h:U+V=S)(m:S≠0){d:Nat}(l:c.length<=d+1):Hr (λj=>(Iv d c j:Rat)*(U^j*V^(d-j))) (d+1)=S^d*Zb c (U/S):=by
 rw [<-bern (u:=U/S) (w:=V/S) (by rw [<-h];grind) d c l,<-Fx];refine Mo _ λj n=>?_;have e:U^j=S^j*(U/S)^j:=by rw [<-Zkp];congr 1;grind
 have g:V^(d-j)=S^(d-j)*(V/S)^(d-j):=by rw [<-Zkp];congr 1;grind
 have k:S^d=S^j*S^(d-j):=by rw [<-Yak];congr 1;omega
 rw [e,g,k];grind
theorem Yae{U V S:Rat}(h:U+V=S)(l:S≠0)(d:Nat):Hr (λj=>(Py d j:Rat)*(U^j*V^(d-j))) (d+1)=S^d:=by
 have:=Yir (u:=U/S) (w:=V/S) (by rw [<-h];grind) d;rw [<-Rat.mul_one (S^d),<-this,<-Fx];refine Mo _ λj m=>?_;have e:U^j=S^j*(U/S)^j:=by rw [<-Zkp];congr 1;grind
 have g:V^(d-j)=S^(d-j)*(V/S)^(d-j):=by rw [<-Zkp];congr 1;grind
 have k:S^d=S^j*S^(d-j):=by rw [<-Yak];congr 1;omega
 rw [e,g,k];grind
theorem Zxx(a b:Int)(x:Rat):Zb [a,b] x=(a:Rat)+(b:Rat)*x:=by show(a:Rat)+x*((b:Rat)+x*0)=_;grind
theorem onepw(n:Nat):(1:Rat)^n=1:=by
 induction n with
 | zero=>rw [eO]
 | succ n e=>rw [dX,e];grind
theorem Zc9(d:Int)(n:Nat):((d^n:Int):Rat)=(d:Rat)^n:=by
 induction n with
 | zero=>rw [dD,eO];rfl
 | succ n e=>rw [eF,dX,<-e];push_cast;rfl
def Wij(a e d:Int)(n i:Nat):List Int:=lmul (lpw [a,e] i) (lpw [d-a,d-e] (n-i))
def Wij_nn{e:Int}(g:0<=a)(h:0<=e)(j:a<=d)(k:e<=d)(n i:Nat):NN (Wij a e d n i):=NN.lmul (NN.lpw (NN.two O O) _) (NN.lpw (NN.two g h) _)
theorem Zxy(a e d:Int)(n i:Nat)(x:Rat):Zb (Wij a e d n i) x=((a:Rat)+(e:Rat)*x)^i*(((d-a:Int):Rat)+((d-e:Int):Rat)*x)^(n-i):=by unfold Wij;rw [Zp,Zoh,Zoh,Zxx,Zxx]
theorem Yny {X:List Int} {n m:Nat} (hl:c.length<=n+1) (hX:X.length<=n+1) {B:Int} (ha:0<=a) (hb:0<=b) (N:a+b<=d) (R:0<d) (hr:∀t u:Rat,t*(d:Rat)=(a:Rat)+(b:Rat)*u->Zb X u=(d:Rat)^m*Zb c t)
  (hB:∀j,j<n+1->((Iv n c j).natAbs:Int)<=B*(Py n j:Int)):∀j,j<n+1->((Iv n X j).natAbs:Int)<=B*d^m*(Py n j:Int):=by
 have a0:(0:Rat)<(d:Rat):=by exact_mod_cast R
 have k:∀x:Rat,0<=x->(x+1)≠0:=λx e h=>O4;have o:∀x:Rat,((a:Rat)+((a+b:Int):Rat)*x)+(((d-a:Int):Rat)+((d-(a+b):Int):Rat)*x)=(d:Rat)*(x+1):=λx=>by push_cast;grind
 have l:∀x:Rat,0<=x->(d:Rat)*(x+1)≠0:=λx e h=>by have:=bB a0 (show(0:Rat)<x+1 by grind);grind
 have a1:∀x:Rat,0<=x->Zb (sQ (λi=>(Py n i:Int)) (Wij a (a+b) d n) (n+1)) x=Zb (mk (n+1) λj=>d^n*(Py n j:Int)) x:=λx e=>by
  rw [Zu7,Zit];have F:=Yae (o x) (l x e) n;have G:=Yae (U:=x) (V:=1) (S:=x+1) rfl (k x e) n;have H:Hr (λi=>(((Py n i:Nat):Int):Rat)*Zb (Wij a (a+b) d n i) x) (n+1)=((d:Rat)*(x+1))^n:=by rw [<-F];exact Mo _ λj w=>by rw [Zxy];push_cast;rfl
  rw [H,Zkp,<-G,<-Fx];refine Mo _ λj w=>?_;rw [onepw];push_cast;rw [<-Zc9];push_cast;grind
 have a2:∀x:Rat,0<=x->Zb (mk (n+1) λj=>d^n*Iv n X j) x=Zb ((sQ (Iv n c) (Wij a (a+b) d n) (n+1)).map λq=>d^m*q) x:=λx e=>by
  rw [Zg,Zu7,Zit];have F:=Yis (o x) (l x e) hl;have G:=Yis (U:=x) (V:=1) (S:=x+1) rfl (k x e) hX;have H:Hr (λi=>((Iv n c i:Int):Rat)*Zb (Wij a (a+b) d n i) x) (n+1)=((d:Rat)*(x+1))^n*Zb c (((a:Rat)+((a+b:Int):Rat)*x)/((d:Rat)*(x+1))):=by rw [<-F];exact Mo _ λj w=>by rw [Zxy]
  have e4:Hr (λj=>((d^n*Iv n X j:Int):Rat)*x^j) (n+1)=(d:Rat)^n*Hr (λj=>(Iv n X j:Rat)*(x^j*1^(n-j))) (n+1):=by rw [<-Fx];refine Mo _ λj w=>?_;rw [onepw,<-Zc9];push_cast;grind
  rw [H,e4,G,hr (((a:Rat)+((a+b:Int):Rat)*x)/((d:Rat)*(x+1))) (x/(x+1)) ?_,Zkp,Zc9]
  .grind
  .have I:=k x e;have D:(d:Rat)≠0:=O4;push_cast;grind
 have P:=Zrx a1;have Q:=Zrx a2;intro j w;have I:=P j;have D:=Q j;rw [Ly,aF w]at I D;rw [Dx]at D;have h3:=sQ_le (f:=Iv n c) (g:=λi=>(Py n i:Int)) (W:=Wij a (a+b) d n) (B:=B) (Wij_nn ha O O N n) (n+1) hB j;rw [I]at h3;have Z:0<d^n:=jT R;have Y:0<=d^m:=eK (jT R);have h4:((d^n*Iv n X j).natAbs:Int)=d^n*((Iv n X j).natAbs:Int):=by rw [cH];push_cast;rw [show((d^n).natAbs:Int)=d^n by omega]
 have h5:((d^m*cf (sQ (Iv n c) (Wij a (a+b) d n) (n+1)) j).natAbs:Int)=d^m*((cf (sQ (Iv n c) (Wij a (a+b) d n) (n+1)) j).natAbs:Int):=by rw [cH];push_cast;rw [show((d^m).natAbs:Int)=d^m by omega]
 have h6:=iK h3 Y;rw [<-h5,<-D,h4]at h6;refine lQ (a:=d^n) ?_ Z;refine mJ h6 (oD ?_);generalize d^n=p;generalize d^m=q;generalize (Py n j:Int)=r;grind
theorem Ybu{s:Bool}(j:x.natAbs<=9223372036854775807)(h:sg s x):(x=0/\dg U x.natAbs=[])\/(s=true/\x<0/\dg U x.natAbs=[x.natAbs])\/(s=false/\0<x/\dg U x.natAbs=[x.natAbs]):=by
 have g:x.natAbs≠0->dg U x.natAbs=[x.natAbs]:=λk=>by have e:x.natAbs<U:=bC j O3;rw [Zc0 O3 O,aU e,dI e];rfl
 rcases kB x 0 with q|q|q
 .right;left;refine⟨?_,q,g O⟩;cases s
  .have:=h.2 rfl;omega
  .rfl
 .subst q;exact .inl ⟨rfl,rfl⟩
 .right;right;refine⟨?_,q,g O⟩;cases s
  .rfl
  .have:=h.1 rfl;omega
theorem int_wn(e:x.natAbs<=9223372036854775807)(h:x<0):IntKind.i64.wrap (18446744073709551616-(x.natAbs:Int))=x:=by simp only [IntKind.wrap,IntKind.bits,IntKind.signed];simp;omega
theorem int_wp(e:x.natAbs<=9223372036854775807)(h:0<x):IntKind.i64.wrap ((([x.natAbs]:List Nat).getD 0 0:Nat):Int)=x:=by show IntKind.i64.wrap (x.natAbs:Int)=x;rw [Zei ⟨O,O⟩];omega
theorem int_d0(e:x.natAbs<=9223372036854775807):¬((([x.natAbs]:List Nat).getD 0 0:Nat):Int)>=9223372036854775808:=by show ¬(x.natAbs:Int)>=_;omega
theorem Yf2(e:x.natAbs<=9223372036854775807):¬((([x.natAbs]:List Nat).getD 0 0:Nat):Int)>9223372036854775808:=by show ¬(x.natAbs:Int)>_;omega
theorem int_m(h:x<0)(e:x.natAbs<=9223372036854775807):(-((([x.natAbs]:List Nat).getD 0 0:Nat):Int))%18446744073709551616=18446744073709551616-(x.natAbs:Int):=by show(-(x.natAbs:Int))%_=_;omega
abbrev Ygr (o:Nat) (m:Int) (g:Ze):List Int:=formP o m g.1.2.2 (g.1.2.1-g.1.1) g.2.1.2 g.2.2.1.2 g.2.2.2.2
def Yf0(o:Nat)(ps:List Ze)(m:Int):Bool:=ps.all λg=>!Zd6 (Ygr o m g)
def Ykf(p:Nat->Bool):Nat->Nat->Nat->Nat
 | 0,i,_=>i
 | f+1,i,j=>if i<j then(if p ((i+j)/2)then Ykf p f i ((i+j)/2)else Ykf p f ((i+j)/2+1) j)else i
def Yj7(o:Nat)(ps:List Ze):Nat:=Ykf (λn=>Yf0 o ps (n:Int)) 14 0 10001
def joG(g h:Ze):Bool:=joinB g.1.1 g.1.2.1 g.1.2.2 g.2.1.2 g.2.2.1.2 g.2.2.2.2 h.1.1 h.1.2.1 h.1.2.2 h.2.1.2 h.2.2.1.2 h.2.2.2.2
def joAll(ps:List Ze):Bool:=(List.range ps.length).all λi=>decide (i=0) || joG (ps.getD (i-1) G0) (ps.getD i G0)
def topV(ps:List Ze):Int×Int×Int:=
 if 10000<Yj7 1 ps\/10000<Yj7 2 ps then(0,0,3)else if joAll ps then((Yj7 1 ps:Int),(Yj7 2 ps:Int),0)else(0,0,10)
theorem Zx7{ps:List Ze}(l:∀g∈ps,Gin g)(k:Xn ps=true):∀g∈ps,SgG g:=λg j=>by obtain⟨i,hi,e⟩:=eD.1 j;have h:=Cv ((Oi k).1 i hi);rw [aE,aM hi,fC,e]at h;exact Ig (l g j) h
def g8(g:Ze):Bool:=decide (g.2.1.2.length<=8) && decide (g.2.2.1.2.length<=8) && decide (g.2.2.2.2.length<=8)
def fewB(ps:List Ze)(m:Nat):Bool:=(List.range ps.length).all (λi=>decide (m<i) || g8 (ps.getD i G0)) && decide (ps.length<=m)
def axc(c:List Int):Bool:=!(decide (1<=c.length) && decide (c.length<=6) && !(decide (1<c.length) && decide (c.getD (c.length-1) 0=0)))
variable {P:Program} {N:Nat} {sc:Nat->Prop} {env env':Qi} {H H':Hp}
def Ci(c:List Int)(g:Int):List Int:=if c.length=0 then [0]else c.map (· / g)
def mdO(ov g:Int):Int:=if ov/g<=4294967296 then ov/g else 0
def mdL(ov g:Int)(c:List Int):List Int:=if ov/g<=4294967296 then Ci c g else []
def Fl(ov:Int)(x y z:List Int):Int:=Ln ov (Kw 3 x y z)
structure Mdh (ov:Int) (x y z:List Int):Prop where
 o:0<ov
 b:bl ov.natAbs<=1000
 s:∀i,Sz 1000 (Ye i x y z)
 l:∀i,(Ye i x y z).length<=6
 c:∀i k,(cf (Ye i x y z) k).natAbs<=ov.natAbs*2146435072
def Zf7:∀(l:List Int) (g:Int),0<=g->0<=Ln g l
 | [],_,h=>h
 | x::l,g,h=>Zf7 l _ (lM _)
theorem Zy4:∀(l:List Int) (g:Int),Ln g l∣g/\∀x∈l,Ln g l∣x
 | [],g=>⟨mI _,λx h=>nomatch h⟩
 | x::l,g=>by
  obtain⟨j,k⟩:=Zy4 l ((Int.gcd g x:Nat):Int);exact⟨fQ j (iJ ..),λy e=>by
   rcases aZ.1 e with rfl|e
   .exact fQ j (gE ..)
   .exact k y e⟩
theorem Zvj{x:List Int}(hi:i<3)(h:a∈Ye i x y z):a∈Kw 3 x y z:=by
 match i,hi with
 | 0,_=>exact cY.2 (.inl (cY.2 (.inl h)))
 | 1,_=>exact cY.2 (.inl (cY.2 (.inr h)))
 | 2,_=>exact cY.2 (.inr h)
theorem Mdh.g{x:List Int}(h:Mdh ov x y z):0<Fl ov x y z/\Fl ov x y z∣ov/\∀i,i<3->∀a∈Ye i x y z,Fl ov x y z∣a:=by
 obtain⟨e,g⟩:=Zy4 (Kw 3 x y z) ov;have j:=Zf7 (Kw 3 x y z) ov (eK h.o);have l:=h.o;refine⟨?_,e,λi hi a k=>g a (Zvj hi k)⟩;rcases Int.lt_or_eq_of_le j with q|q
 .exact q
 .exact absurd (Int.zero_dvd.1 (q▸e)) O
theorem Mdh.fc{x:List Int}(h:Mdh ov x y z)(i k:Nat):bl (Ln (Ln ov (Kw i x y z)) ((Ye i x y z).take k)).natAbs<=1000:=by
 have l:∀i,∀a∈Ye i x y z,bl a.natAbs<=1000:=λi a e=>by obtain⟨j,r⟩:=fI.1 e;have:=h.s i j;unfold cf at this;rw [aE,r]at this;exact this
 have o:∀a∈Kw i x y z,bl a.natAbs<=1000:=λa e=>by
  unfold Kw at e;have g:=l 0;have m:=l 1;have n:=l 2;simp only [Ye]at g m n;split at e
  .cases e
  .exact g a e
  .rcases cY.1 e with q|q
   .exact g a q
   .exact m a q
  .rcases cY.1 e with q|q
   .rcases cY.1 q with q|q
    .exact g a q
    .exact m a q
   .exact n a q
 exact Zgo (λa e=>l i a (fP e)) (Zgo o h.b)
theorem Mdh.fit{x:List Int}(h:Mdh ov x y z)(hs:ov/Fl ov x y z<=4294967296)(hi:i<3)(k:Nat):((Ye i x y z).getD k 0/Fl ov x y z).natAbs<=9223372036854775807:=by
 obtain⟨m,⟨s,e⟩,n⟩:=h.g;have w:Fl ov x y z∣(Ye i x y z).getD k 0:=by
  rcases aX k (Ye i x y z).length with q|q
  .exact n i hi _ (Zi (d:=0) q)
  .rw [aE,bQ q];exact jJ _
 obtain⟨t,l⟩:=w;have j:((Ye i x y z).getD k 0).natAbs<=ov.natAbs*2146435072:=h.c i k;generalize Fl ov x y z=g at *;rw [l,fK _ O];rw [e,fK _ O]at hs;rw [l,e,cH,cH,dB]at j;have r:=Nat.le_of_mul_le_mul_left j O;have B:=h.o;have D:0<s:=by
  rw [e]at B;by_cases q:0<s
  .exact q
  .have:=gP (eK m) (show s<=0 by omega);omega
 have o:s.natAbs*2146435072<=4294967296*2146435072:=aP _ O;exact aB r (aB o O3)
def mdO_t{g:Int}(h:ov/g<=4294967296):mdO ov g=ov/g:=aF h
def Zm8{g:Int}(h:ov/g<=4294967296):mdL ov g c=Ci c g:=aF h
def mdO_f{g:Int}(h:¬ov/g<=4294967296):mdO ov g=0:=aD h
def Yfn{g:Int}(h:¬ov/g<=4294967296):mdL ov g c=[]:=aD h
def dvL_0{g:Int}(h:c.length=0):Ci c g=[0]:=aF h
def dvL_n{g:Int}(h:c.length≠0):Ci c g=c.map (· / g):=aD h
theorem Yfp{g:Int}{k:Nat}(h:k<c.length):(c.take k).map (· / g) ++ [c.getD k 0/g]=(c.take (k+1)).map (· / g):=by rw [Ps 0 _ _ h,eE];rfl
abbrev C6 (a b c:Value) (f:Nat->Value):Array Value:=#[a,b,c,f 0,f 1,f 2]
def upd(f:Nat->Value)(i:Nat)(v:Value)(j:Nat):Value:=if j=i then v else f j
theorem c6_get{a b c:Value}(h:i<3):(C6 a b c f)[3+i]? = some (f i):=by
 match i,h with
 | 0,_=>rfl
 | 1,_=>rfl
 | 2,_=>rfl
theorem Yik{a b c:Value}(h:i<3):(C6 a b c (upd f i v))[3+i]? = some v:=by rw [c6_get h];unfold upd;rw [aF rfl]
theorem c6_lay{a b c:Value}(h:i<3):Gr (C6 a b c (upd f i u)) (3+i) [v]=C6 a b c (upd f i v):=by
 match i,h with
 | 0,_=>rfl
 | 1,_=>rfl
 | 2,_=>rfl
theorem Zwo{a b c:Value}{g:Nat->Value}(h:∀j,j<3->f j=g j):C6 a b c f=C6 a b c g:=by unfold C6;rw [h 0 O3,h 1 O3,h 2 O3]
theorem p3_sel{b:Nat}(h:i<3):Ye i (Value.pointer (some ⟨b,3,none⟩)) (Value.pointer (some ⟨b,4,none⟩)) (Value.pointer (some ⟨b,5,none⟩))= .pointer (some ⟨b,3+i,none⟩):=by
 match i,h with
 | 0,_=>rfl
 | 1,_=>rfl
 | 2,_=>rfl
theorem c3_get{a b c:Value}(h:i<3):(#[a,b,c]:Array Value)[0+i*1]? = some (Ye i a b c):=by
 match i,h with
 | 0,_=>rfl
 | 1,_=>rfl
 | 2,_=>rfl
def fz(zs:List (SL×List Int))(j:Nat):Value:=Xp (zs.getD j ((none,0,0),[])).1
theorem fz_upd(h:zs.length=i)(j:Nat):fz zs j=upd (fz zs) i (.slice none 0 0) j:=by
 unfold upd;split
 .rename_i e;subst e;subst h;unfold fz;rw [aE,bQ (aI _)];rfl
 .rfl
theorem Zy6(h:zs.length=i)(j:Nat):upd (fz zs) i (Xp s) j=fz (zs ++ [(s,c)]) j:=by
 subst h;unfold upd fz;split
 .rename_i e;subst e;simp
 .rename_i e;rw [aE,aE];rcases aX j zs.length with q|q
  .rw [cW q]
  .rw [bQ q,bQ O9]
def Zsj{t:Nat}{f:Nat->List Int}(g:zs.length=i)(h:∀t,t<i->(zs.getD t d0).2=f t)(e:c=f i)(j:t<i+1):((zs ++ [(s,c)]).getD t d0).2=f t:=e▸Zt6 g h j
theorem mds_of{x:List Int}{g:Int}(l:zs.length=3)(h:∀t,t<3->(zs.getD t d0).2=Ci (Ye t x y z) g):∃m n o:SL,zs=[(m,Ci x g),(n,Ci y g),(o,Ci z g)]:=by
 match zs,l with
 | [r,w,B],_=>
  have e:=h 0 O3;have j:=h 1 O3;have k:=h 2 O3;simp [Ye]at e j k;exact⟨r.1,w.1,B.1,by rw [<-e,<-j,<-k]⟩
theorem Yd1 : 0<(a-b).sign↔¬a<=b:=by rw [sgp];omega
theorem t_st6 (i:Nat)(n:Nat)  {o:Oper} {x y:Operand} {t k:TypeId} {b:Nat} {g h j:Value}   {w0:World}  (Q:o.op= .store t x y) (D:o.dst=none)
  (S:ev env x=some (.pointer (some ⟨b,3+n,none⟩))) (V:ev env y=some v) (r:lk H i=some (box b k (C6 g h j (upd f n u)))) (e:i≠0) (F:∀w,(sizeOf t).run P w= .ok 1 w) (I:n<3) (m:One N sc env H v)
  (l:lk H 0=some (Zt w0 M0)) (R:∀b,w0.heap.size<=b->sc b) (B:M b) :
  T P N sc M o env H (G:=Unit) (λ_=>True) (λ_=>env) (λ_=>(i,box b k (C6 g h j (upd f n v)))::H):=by
 have:=t_stp1 (P:=P) (N:=N) (sc:=sc) (M:=M) Q D S V r e F (by show Nat.ble (3+n+1) 6=true;simp;omega) m l R B;rw [c6_lay I]at this;exact this
theorem bl_dlq{n:Nat}(h:bl a.natAbs<=n)(g:0<b)(e:0<=a):bl (a/b).natAbs<=n:=(Qt n _).2 (bC (by have j:=mA b e;have k:=kR e (eK g);omega) ((Qt n _).1 h))
theorem Ygp{n:Nat}(h:∀z∈zs,∀b,(Xp z.1).ownBlock=some b->n<=b)(e:∀b,(Xp s).ownBlock=some b->n<=b):∀z∈zs ++ [(s,c)],∀b,(Xp z.1).ownBlock=some b->n<=b:=λz g=>by
 rcases cY.1 g with q|q
 .exact h z q
 .rw [bZ.1 q];exact e
theorem fr3{n:Nat}{g j k:SL}{l m o l3:List Int}(h:∀z∈[(g,l),(j,m),(k,o)],∀b,(Xp z.1).ownBlock=some b->n<=b):∀p∈[Yt 1 Xf (Xp g) l1,Yt 1 Xf (Xp j) l2,Yt 1 Xf (Xp k) l3],∀b,p.fp b->n<=b:=λp r b e=>by
 simp only [aZ,dJ,gG]at r;rcases r with rfl|rfl|rfl
 .exact h (g,l) O8 b e.2
 .exact h (j,m) O8 b e.2
 .exact h (k,o) O8 b e.2
theorem fr0{n:Nat}{l3:List Int} : ∀p∈[Yt 1 Xf (Xp (none,0,0)) l1,Yt 1 Xf (Xp (none,0,0)) l2,Yt 1 Xf (Xp (none,0,0)) l3],∀b,p.fp b->n<=b:=λp e b g=>by simp only [aZ,dJ,gG]at e;rcases e with rfl|rfl|rfl<;>cases g.2
end Go.Sky
namespace Go.Sky
variable{p:Ze->Bool}{i b k off:Nat}{d ov x0 x1 x2 x3 x4 a G m:Int}{c xs:List Int}{x y:Operand}{t tb:TypeId}{zs:List Ze}{o:Oper}{r:List Value}{v:Value}{w0 w:World}{M0:Nat->Prop}{kd:IntKind}
abbrev Zht:=(Int×Int×Int)×List Int×List Int×List Int
def Ds(g:Ze):Zht:=(g.1,g.2.1.2,g.2.2.1.2,g.2.2.2.2)
abbrev cA (fr:Int) (g:Ze):Int:=max fr g.1.1
abbrev cB (e:Int) (g:Ze):Int:=min e g.1.2.1
abbrev cX (fr e:Int) (g:Ze) (c:List Int):List Int:=Nn c (cA fr g-g.1.1) (cB e g-cA fr g) (g.1.2.1-g.1.1)
abbrev cO (g:Ze):Int:=g.1.2.2*(g.1.2.1-g.1.1)^5
def cG(fr e:Int)(g:Ze):Int:=Fl (cO g) (cX fr e g g.2.1.2) (cX fr e g g.2.2.1.2) (cX fr e g g.2.2.2.2)
def Lj(fr e:Int)(g:Ze):Bool:=decide (cA fr g<cB e g)
def Zgk(fr e:Int)(g:Ze):Bool:=decide (cO g/cG fr e g<=4294967296)
def Zwe(fr e:Int)(g:Ze):Zht:=((cA fr g,cB e g,mdO (cO g) (cG fr e g)),mdL (cO g) (cG fr e g) (cX fr e g g.2.1.2),mdL (cO g) (cG fr e g) (cX fr e g g.2.2.1.2),mdL (cO g) (cG fr e g) (cX fr e g g.2.2.2.2))
def MdG(fr e:Int)(g:Ze):Prop:=Mdh (cO g) (cX fr e g g.2.1.2) (cX fr e g g.2.2.1.2) (cX fr e g g.2.2.2.2)
theorem fl_get{ps:List Ze}{d:Ze}(hi:i<ps.length)(f:p (ps.getD i d)=true):(ps.filter p)[((ps.take i).filter p).length]? = some (ps.getD i d):=by
 have h:=fH i ps;have e:ps.drop i=ps.getD i d::ps.drop (i+1):=by rw [aE,aM hi,fC];exact eG hi
 conv=>lhs;arg 1;rw [<-h,e]
 rw [fO,eR f];simp
theorem fl_t{ps:List Ze}{d:Ze}(hi:i<ps.length)(e:p (ps.getD i d)=true):((ps.take (i+1)).filter p).length=((ps.take i).filter p).length+1:=by rw [Ps d _ _ hi,fO,eR e,bE];rfl
theorem fl_f{ps:List Ze}{d:Ze}(hi:i<ps.length)(e:p (ps.getD i d)=false):((ps.take (i+1)).filter p).length=((ps.take i).filter p).length:=by rw [Ps d _ _ hi,fO,gF (by rw [e];exact bD),bE];rfl
def Zm0(h:1<=d/\d<=3600000):bl (d^5).natAbs<=132:=Znq (Zly O) 5 (aI _)
theorem Yh2{W:Nat}{H:Hp}{l n q:SL}{g j l3:List Int}(h:∀p∈[Yt 1 Xf (Xp l) g,Yt 1 Xf (Xp n) j,Yt 1 Xf (Xp q) l3],∀b,p.fp b->W<=b)(i:Nat)(u:lk H i=some (Yt 1 Xf (Xp l) g))(z:lk H (i+1)=some (Yt 1 Xf (Xp n) j))(B:lk H (i+2)=some (Yt 1 Xf (Xp q) l3)) :
  ∀p∈[Yt 1 Xf (Xp l) g,Yt 1 Xf (Xp n) j,Yt 1 Xf (Xp q) l3],p.own=false/\(∀b,p.fp b->W<=b)/\∃i s,lk H i=some s/\∀w,s.holds w->p.holds w:=λp f=>by
 have e:=h p f;simp only [aZ,dJ,gG]at f;rcases f with rfl|rfl|rfl
 .exact⟨rfl,e,_,_,u,λ_ h=>h⟩
 .exact⟨rfl,e,_,_,z,λ_ h=>h⟩
 .exact⟨rfl,e,_,_,B,λ_ h=>h⟩
theorem cut_b{fr f:Int}{g:Ze}(e:SgG g)(h:Lj fr f g=true):(cA fr g-g.1.1).natAbs<=3600000/\(cB f g-cA fr g).natAbs<=3600000/\Mw (cA fr g-g.1.1)/\Mw (cB f g-cA fr g):=by have q:=cD h;have j:=e.t1;have l:=e.t2;have n:=e.t3;unfold cA cB at *;exact⟨O,O,⟨O,O⟩,⟨O,O⟩⟩
def Yjx:∀n,n<6->∀j,j<n+1->∀k,k<j+1->(Py n j:Int)*w60 n j k=60*(Py (n-k) (j-k):Int):=O7
theorem Zel(f:Nat->Int)(a:Int):∀m,Yb (λk=>a*f k) m=a*Yb f m
 | 0=>by show(0:Int)=a*0;omega
 | m+1=>by rw [Yl,Yl,Zel f a m,kM]
theorem Ym8(g:1<=c.length/\c.length<=6){j:Nat}(e:j<c.length):(Py (c.length-1) j:Int)*ctl c j (j+1)=60*Iv (c.length-1) c j:=by unfold ctl Iv;rw [<-Zel,<-Zel];refine Yz λk f=>?_;have:=Yjx (c.length-1) O j O k O;show(Py (c.length-1) j:Int)*(cf c k*w60 (c.length-1) j k)=60*(cf c k*_);rw [lX,this,lX]
theorem Yid{n j:Nat}(h:j<n+1):(0:Int)<(Py n j:Int):=by have:=Zqb (n:=n) (k:=j) O;omega
theorem Zz9(D:1<=c.length/\c.length<=6) : Zho c ov=true↔∀j,j<c.length->((Iv (c.length-1) c j).natAbs:Int)<=1048576*ov*(Py (c.length-1) j:Int):=by
 have f:∀j,j<c.length->((((ctl c j (j+1)).natAbs:Int)<=62914560*ov)↔((Iv (c.length-1) c j).natAbs:Int)<=1048576*ov*(Py (c.length-1) j:Int)):=λj e=>by
  have z:=Ym8 D e;have l:=Yid (n:=c.length-1) (j:=j) O;have s:=aL Int.natAbs z;rw [cH,cH,eI]at s;generalize (ctl c j (j+1)).natAbs=x at *;generalize (Iv (c.length-1) c j).natAbs=y at *;generalize Py (c.length-1) j=q at *;have u:(q:Int)*(x:Int)=60*(y:Int):=by exact_mod_cast s
  constructor
  .intro h;have g:=iK h (eK l);rw [u]at g;have B:(q:Int)*(62914560*ov)=60*(1048576*ov*q):=O4;omega
  .intro h;have g:60*(y:Int)<=(q:Int)*(62914560*ov):=by have B:(q:Int)*(62914560*ov)=60*(1048576*ov*q):=O4;omega
   rw [<-u]at g;exact lQ g l
 constructor
 .intro h j e;unfold Zho at h;rw [bF]at h;exact(f j e).1 (cD (h j (dA.2 e)))
 .intro h;exact Zqj λj e=>(f j e).2 (h j e)
def Xr{x b:Int} : ((x.natAbs:Int)<=b)↔(-b<=x/\x<=b):=O
def cfb0{M:Int}(f:0<=M)(e:-(M*1)<=(x0*1)/\(x0*1)<=M*1):(-(2047*M)<=x0/\x0<=2047*M):=O
def bre00(c:List Int):Iv 0 c 0=cf c 0*1:=O11
theorem cfb1{M:Int}(g:0<=M)(e:-(M*1)<=(x0*1)/\(x0*1)<=M*1)(f:-(M*1)<=(x0*1+x1*1)/\(x0*1+x1*1)<=M*1):(-(2047*M)<=x0/\x0<=2047*M)/\(-(2047*M)<=x1/\x1<=2047*M):=by refine⟨⟨?_,?_⟩,⟨?_,?_⟩⟩<;>omega
def bre10(c:List Int):Iv 1 c 0=cf c 0*1:=O11
def bre11(c:List Int):Iv 1 c 1=cf c 0*1+cf c 1*1:=O11
theorem cfb2{M:Int}(h:0<=M)(e:-(M*1)<=(x0*1)/\(x0*1)<=M*1)(f:-(M*2)<=(x0*2+x1*1)/\(x0*2+x1*1)<=M*2)(g:-(M*1)<=(x0*1+x1*1+x2*1)/\(x0*1+x1*1+x2*1)<=M*1):(-(2047*M)<=x0/\x0<=2047*M)/\(-(2047*M)<=x1/\x1<=2047*M)/\(-(2047*M)<=x2/\x2<=2047*M):=by refine⟨⟨?_,?_⟩,⟨?_,?_⟩,⟨?_,?_⟩⟩<;>omega
def bre20(c:List Int):Iv 2 c 0=cf c 0*1:=O11
def bre21(c:List Int):Iv 2 c 1=cf c 0*2+cf c 1*1:=O11
def bre22(c:List Int):Iv 2 c 2=cf c 0*1+cf c 1*1+cf c 2*1:=O11
theorem cfb3{M:Int}(j:0<=M)(e:-(M*1)<=(x0*1)/\(x0*1)<=M*1)(f:-(M*3)<=(x0*3+x1*1)/\(x0*3+x1*1)<=M*3)(g:-(M*3)<=(x0*3+x1*2+x2*1)/\(x0*3+x1*2+x2*1)<=M*3)(h:-(M*1)<=(x0*1+x1*1+x2*1+x3*1)/\(x0*1+x1*1+x2*1+x3*1)<=M*1):(-(2047*M)<=x0/\x0<=2047*M)/\(-(2047*M)<=x1/\x1<=2047*M)/\(-(2047*M)<=x2/\x2<=2047*M)/\(-(2047*M)<=x3/\x3<=2047*M):=by refine⟨⟨?_,?_⟩,⟨?_,?_⟩,⟨?_,?_⟩,⟨?_,?_⟩⟩<;>omega
def bre30(c:List Int):Iv 3 c 0=cf c 0*1:=O11
def bre31(c:List Int):Iv 3 c 1=cf c 0*3+cf c 1*1:=O11
def bre32(c:List Int):Iv 3 c 2=cf c 0*3+cf c 1*2+cf c 2*1:=O11
def bre33(c:List Int):Iv 3 c 3=cf c 0*1+cf c 1*1+cf c 2*1+cf c 3*1:=O11
theorem cfb4{M:Int}(l:0<=M)(e:-(M*1)<=(x0*1)/\(x0*1)<=M*1)(f:-(M*4)<=(x0*4+x1*1)/\(x0*4+x1*1)<=M*4)(g:-(M*6)<=(x0*6+x1*3+x2*1)/\(x0*6+x1*3+x2*1)<=M*6)(h:-(M*4)<=(x0*4+x1*3+x2*2+x3*1)/\(x0*4+x1*3+x2*2+x3*1)<=M*4)(j:-(M*1)<=(x0*1+x1*1+x2*1+x3*1+x4*1)/\(x0*1+x1*1+x2*1+x3*1+x4*1)<=M*1):(-(2047*M)<=x0/\x0<=2047*M)/\(-(2047*M)<=x1/\x1<=2047*M)/\(-(2047*M)<=x2/\x2<=2047*M)/\(-(2047*M)<=x3/\x3<=2047*M)/\(-(2047*M)<=x4/\x4<=2047*M):=by refine⟨⟨?_,?_⟩,⟨?_,?_⟩,⟨?_,?_⟩,⟨?_,?_⟩,⟨?_,?_⟩⟩<;>omega
def bre40(c:List Int):Iv 4 c 0=cf c 0*1:=O11
def bre41(c:List Int):Iv 4 c 1=cf c 0*4+cf c 1*1:=O11
def bre42(c:List Int):Iv 4 c 2=cf c 0*6+cf c 1*3+cf c 2*1:=O11
def bre43(c:List Int):Iv 4 c 3=cf c 0*4+cf c 1*3+cf c 2*2+cf c 3*1:=O11
def bre44(c:List Int):Iv 4 c 4=cf c 0*1+cf c 1*1+cf c 2*1+cf c 3*1+cf c 4*1:=O11
theorem cfb5{M e:Int}(q:0<=M)(f:-(M*1)<=(x0*1)/\(x0*1)<=M*1)(g:-(M*5)<=(x0*5+x1*1)/\(x0*5+x1*1)<=M*5)(h:-(M*10)<=(x0*10+x1*4+x2*1)/\(x0*10+x1*4+x2*1)<=M*10)(j:-(M*10)<=(x0*10+x1*6+x2*3+x3*1)/\(x0*10+x1*6+x2*3+x3*1)<=M*10)(l:-(M*5)<=(x0*5+x1*4+x2*3+x3*2+x4*1)/\(x0*5+x1*4+x2*3+x3*2+x4*1)<=M*5)(n:-(M*1)<=(x0*1+x1*1+x2*1+x3*1+x4*1+e*1)/\(x0*1+x1*1+x2*1+x3*1+x4*1+e*1)<=M*1):(-(2047*M)<=x0/\x0<=2047*M)/\(-(2047*M)<=x1/\x1<=2047*M)/\(-(2047*M)<=x2/\x2<=2047*M)/\(-(2047*M)<=x3/\x3<=2047*M)/\(-(2047*M)<=x4/\x4<=2047*M)/\(-(2047*M)<=e/\e<=2047*M):=by refine⟨⟨?_,?_⟩,⟨?_,?_⟩,⟨?_,?_⟩,⟨?_,?_⟩,⟨?_,?_⟩,⟨?_,?_⟩⟩<;>omega
def bre50(c:List Int):Iv 5 c 0=cf c 0*1:=O11
def bre51(c:List Int):Iv 5 c 1=cf c 0*5+cf c 1*1:=O11
def bre52(c:List Int):Iv 5 c 2=cf c 0*10+cf c 1*4+cf c 2*1:=O11
def bre53(c:List Int):Iv 5 c 3=cf c 0*10+cf c 1*6+cf c 2*3+cf c 3*1:=O11
def bre54(c:List Int):Iv 5 c 4=cf c 0*5+cf c 1*4+cf c 2*3+cf c 3*2+cf c 4*1:=O11
def bre55(c:List Int):Iv 5 c 5=cf c 0*1+cf c 1*1+cf c 2*1+cf c 3*1+cf c 4*1+cf c 5*1:=O11
theorem cf_brS{n:Nat}(B:n<6)(F:c.length<=n+1){M:Int}(h:∀j,j<n+1->((Iv n c j).natAbs:Int)<=M*(Py n j:Int))(k:Nat):((cf c k).natAbs:Int)<=2047*M:=by
 have s:0<=M:=by have f:=h 0 O;rw [Zlt]at f;omega
 by_cases D:k<n+1
 .rw [Xr]
  match n,B with
  | 0,_=>
   have f:=Xr.1 (h 0 O3);rw [bre00,show(Py 0 0:Int)=1 from rfl]at f;have e:=cfb0 s f;obtain rfl:k=0:=O;exact e
  | 1,_=>
   have f:=Xr.1 (h 0 O3);rw [bre10,show(Py 1 0:Int)=1 from rfl]at f;have g:=Xr.1 (h 1 O3);rw [bre11,show(Py 1 1:Int)=1 from rfl]at g;have e:=cfb1 s f g;rcases(show k=0\/k=1 by omega)with rfl|rfl
   .exact e.1
   .exact e.2
  | 2,_=>
   have f:=Xr.1 (h 0 O3);rw [bre20,show(Py 2 0:Int)=1 from rfl]at f;have g:=Xr.1 (h 1 O3);rw [bre21,show(Py 2 1:Int)=2 from rfl]at g;have l:=Xr.1 (h 2 O3);rw [bre22,show(Py 2 2:Int)=1 from rfl]at l;have e:=cfb2 s f g l;rcases(show k=0\/k=1\/k=2 by omega)with rfl|rfl|rfl
   .exact e.1
   .exact e.2.1
   .exact e.2.2
  | 3,_=>
   have f:=Xr.1 (h 0 O3);rw [bre30,show(Py 3 0:Int)=1 from rfl]at f;have g:=Xr.1 (h 1 O3);rw [bre31,show(Py 3 1:Int)=3 from rfl]at g;have l:=Xr.1 (h 2 O3);rw [bre32,show(Py 3 2:Int)=3 from rfl]at l;have q:=Xr.1 (h 3 O3);rw [bre33,show(Py 3 3:Int)=1 from rfl]at q;have e:=cfb3 s f g l q;rcases(show k=0\/k=1\/k=2\/k=3 by omega)with rfl|rfl|rfl|rfl
   .exact e.1
   .exact e.2.1
   .exact e.2.2.1
   .exact e.2.2.2
  | 4,_=>
   have f:=Xr.1 (h 0 O3);rw [bre40,show(Py 4 0:Int)=1 from rfl]at f;have g:=Xr.1 (h 1 O3);rw [bre41,show(Py 4 1:Int)=4 from rfl]at g;have l:=Xr.1 (h 2 O3);rw [bre42,show(Py 4 2:Int)=6 from rfl]at l;have q:=Xr.1 (h 3 O3);rw [bre43,show(Py 4 3:Int)=4 from rfl]at q;have u:=Xr.1 (h 4 O3);rw [bre44,show(Py 4 4:Int)=1 from rfl]at u;have e:=cfb4 s f g l q u;rcases(show k=0\/k=1\/k=2\/k=3\/k=4 by omega)with rfl|rfl|rfl|rfl|rfl
   .exact e.1
   .exact e.2.1
   .exact e.2.2.1
   .exact e.2.2.2.1
   .exact e.2.2.2.2
  | 5,_=>
   have f:=Xr.1 (h 0 O3);rw [bre50,show(Py 5 0:Int)=1 from rfl]at f;have g:=Xr.1 (h 1 O3);rw [bre51,show(Py 5 1:Int)=5 from rfl]at g;have l:=Xr.1 (h 2 O3);rw [bre52,show(Py 5 2:Int)=10 from rfl]at l;have q:=Xr.1 (h 3 O3);rw [bre53,show(Py 5 3:Int)=10 from rfl]at q;have u:=Xr.1 (h 4 O3);rw [bre54,show(Py 5 4:Int)=5 from rfl]at u;have z:=Xr.1 (h 5 O3);rw [bre55,show(Py 5 5:Int)=1 from rfl]at z;have e:=cfb5 s f g l q u z;rcases(show k=0\/k=1\/k=2\/k=3\/k=4\/k=5 by omega)with rfl|rfl|rfl|rfl|rfl|rfl
   .exact e.1
   .exact e.2.1
   .exact e.2.2.1
   .exact e.2.2.2.1
   .exact e.2.2.2.2.1
   .exact e.2.2.2.2.2
 .rw [Yo O];simp;omega
structure AxC (c:List Int) (ov:Int):Prop where
 l:1<=c.length/\c.length<=6
 t:¬(1<c.length/\c.getD (c.length-1) 0=0)
 b:∀j,j<c.length->((Iv (c.length-1) c j).natAbs:Int)<=1048576*ov*(Py (c.length-1) j:Int)
theorem AxC.of(h:axB c ov=true):AxC c ov:=by unfold axB at h;simp only [aQ,gY,kH,cT,iI]at h;have g:1<=c.length/\c.length<=6:=⟨h.1.1.1,h.1.1.2⟩;exact⟨g,λf=>by rcases h.1.2 with e|e;exact e f.1;exact e f.2,(Zz9 g).1 h.2⟩
def AxC.to(h:AxC c ov):axB c ov=true:=Yi1 h.l.1 h.l.2 h.t ((Zz9 h.l).2 h.b)
def tzl_nz(e:c.getD (c.length-1) 0≠0):tzl c=c:=Zai (.inr e)
theorem ax_tzl(h:AxC c ov):(tzl c=c)\/c=[0]:=by
 by_cases e:c.getD (c.length-1) 0=0
 .have j:c.length=1:=by
   have l:=h.l;have f:=h.t;by_cases g:1<c.length
   .exact absurd ⟨g,e⟩ f
   .omega
  right
  match c,j with
  | [x],_=>simp at e;rw [e]
 .exact .inl (tzl_nz e)
theorem Zfm(h:AxC c ov){b:Int}{t u:Rat}(f:t*(d:Rat)=(a:Rat)+(b:Rat)*u):Zb (Nn c a b d) u=(d:Rat)^5*Zb c t:=by
 unfold Nn;rw [Zu8];rcases ax_tzl h with e|e
 .have g:=h.l;rw [e,Zj8 a b d f O,Zc9];have:(d:Rat)^5=(d:Rat)^(6-c.length)*(d:Rat)^(c.length-1):=by rw [<-Yak];congr 1;omega
  rw [this];grind
 .subst e;rw [show tzl [0]=[]from by decide,show Ks [] a b d=[]from rfl];show _*(0:Rat)=_*(((0:Int):Rat)+t*0);push_cast;grind
def Zf5 (c:List Int)(a b d:Int):(Nn c a b d).length<=c.length:=aB Kb (aB (Zew _ _ _ _) (Hj c))
theorem Zz8(h:AxC c ov){b:Int}(f:0<=a)(g:0<=b)(e:a+b<=d)(l:0<d):∀j,j<c.length->((Iv (c.length-1) (Nn c a b d) j).natAbs:Int)<=1048576*(ov*d^5)*(Py (c.length-1) j:Int):=λj q=>by have D:=h.l;have z:=Zf5 c a b d;have:=Yny (c:=c) (X:=Nn c a b d) (n:=c.length-1) (m:=5) (B:=1048576*ov) O O f g e l (λt u s=>Zfm h s) (λj q=>h.b j O) j O;rw [eZ]at this;rw [eZ];rw [eZ,<-eZ ov]at this;exact this
theorem cf_cmp(h:AxC c ov){b:Int}(f:0<=a)(g:0<=b)(e:a+b<=d)(l:0<d)(k:Nat):((cf (Nn c a b d) k).natAbs:Int)<=ov*d^5*2146435072:=by have u:=h.l;have q:=Zf5 c a b d;have:=cf_brS (n:=c.length-1) O (c:=Nn c a b d) O (M:=1048576*(ov*d^5)) (λj s=>Zz8 h f g e l j O) k;omega
theorem Yd7{g:Ze}(h:seB g=true):AxC g.2.1.2 g.1.2.2/\AxC g.2.2.1.2 g.1.2.2/\AxC g.2.2.2.2 g.1.2.2:=by have e:Zal g.1.1 g.1.2.1 g.1.2.2 g.2.1.2 g.2.2.1.2 g.2.2.2.2=true:=h;unfold Zal at e;simp only [aQ]at e;exact⟨.of e.1.1.1.2,.of e.1.1.2,.of e.1.2⟩
theorem Yh1{fr e:Int}{g:Ze}(f:SgG g)(h:Lj fr e g=true):0<=cA fr g-g.1.1/\0<cB e g-cA fr g/\(cA fr g-g.1.1)+(cB e g-cA fr g)<=g.1.2.1-g.1.1/\0<g.1.2.1-g.1.1:=by have n:=cD h;have j:=f.t1;have l:=f.t2;unfold cA cB at *;exact⟨O,O,O,O⟩
theorem Yfo{fr B:Int}{g:Ze}(hi:Gin g)(hs:seB g=true)(h:Lj fr B g=true):MdG fr B g:=by
 have f:SgG g:=Ig hi hs;obtain⟨I,M,N⟩:=Yd7 hs;obtain⟨P,Q,R,S⟩:=Yh1 f h;obtain⟨u,z,-,-⟩:=cut_b f h;have a0:=f.t3;have Z:=f.t1;have W:=f.o1;have Y:=f.o2;have j:1<=g.1.2.1-g.1.1/\g.1.2.1-g.1.1<=3600000:=⟨O,O⟩;have D:=Zqa f.hx f.lx u z j;have F:=Zqa f.hy f.ly u z j;have H:=Zqa f.hz f.lz u z j;have s:0<cO g:=gL O (jT O);have q:((cO g).natAbs:Int)=cO g:=O;have n:∀{c:List Int},AxC c g.1.2.2->∀k,(cf (cX fr B g c) k).natAbs<=(cO g).natAbs*2146435072:=λV k=>by
  have:=cf_cmp V P (eK Q) R S k;have e:(((cO g).natAbs*2146435072:Nat):Int)=cO g*2146435072:=by rw [fU,q];rfl
  refine lC.1 ?_;rw [e];exact this
 refine⟨s,?_,λi=>?_,λi=>?_,λi k=>?_⟩
 .have h1:bl g.1.2.2.natAbs<=40:=(Qt 40 _).2 O;have h2:=Zm0 j;have:=Xq g.1.2.2 ((g.1.2.1-g.1.1)^5);show bl (g.1.2.2*(g.1.2.1-g.1.1)^5).natAbs<=1000;omega
 .exact Bm (p:=λl:List Int=>Sz 1000 l) D.2.2.2.2.2.2.1 F.2.2.2.2.2.2.1 H.2.2.2.2.2.2.1
 .exact Bm (p:=λl:List Int=>l.length<=6) D.2.2.2.2.2.2.2 F.2.2.2.2.2.2.2 H.2.2.2.2.2.2.2
 .exact Bm (p:=λl:List Int=>(cf l k).natAbs<=(cO g).natAbs*2146435072) (n I k) (n M k) (n N k)
theorem Yg1{n q s u z B e f g h j l:Value}:Instr.fill (λi=>some (i*6,6)) ((List.range (1*6)).map ((Value.agg #[n,q,s,u,z,B]).cells[· % (Value.agg #[n,q,s,u,z,B]).cells.size]!)).toArray [(0,.agg #[e,f,g,h,j,l])]=some #[e,f,g,h,j,l]:=by
 simp [Instr.fill,Value.cells,List.range,List.range.loop]
 try rfl
def Pq(fr e:Int)(ps:List Ze):Bool:=(ps.filter (Lj fr e)).all (Zgk fr e)
def Bc(fr e:Int)(ps:List Ze):List Zht:=if Pq fr e ps=true then(ps.filter (Lj fr e)).map (Zwe fr e)else []
def Zc4(fr e:Int)(ps:List Ze):Int:=if Pq fr e ps=true then 0 else 7
def Zu3(fr e:Int)(x:Ze)(g:SL×SL×SL):Ze:=((cA fr x,cB e x,mdO (cO x) (cG fr e x)),(g.1,mdL (cO x) (cG fr e x) (cX fr e x x.2.1.2)),(g.2.1,mdL (cO x) (cG fr e x) (cX fr e x x.2.2.1.2)),(g.2.2,mdL (cO x) (cG fr e x) (cX fr e x x.2.2.2.2)))
def Yca(fr e:Int)(ps:List Ze)(k:Nat)(zs:List Ze):Prop:=zs.map Ds=((ps.filter (Lj fr e)).take k).map (Zwe fr e)/\((ps.filter (Lj fr e)).take k).all (Zgk fr e)=true
theorem Zn7{α:Type}{xs:List α}{x:α}(h:xs[k]? = some x):xs.take (k+1)=xs.take k ++ [x]:=by rw [jA,h];rfl
theorem cutI_0(fr e:Int)(ps:List Ze):Yca fr e ps 0 []:=⟨by rw [eX];rfl,by rw [eX];rfl⟩
theorem cutI_s{fr e:Int}{ps:List Ze}{x:Ze}{g:SL×SL×SL}(h:Yca fr e ps k zs)(f:(ps.filter (Lj fr e))[k]? = some x)(n:Zgk fr e x=true):Yca fr e ps (k+1) (zs ++ [Zu3 fr e x g]):=by
 obtain⟨j,l⟩:=h;refine⟨?_,?_⟩
 .rw [Zn7 f,eE,eE,j];rfl
 .rw [Zn7 f,List.all_append,l];simp [n]
theorem cutI_l{fr e:Int}{ps:List Ze}(h:Yca fr e ps k zs)(f:k<=ps.length):zs.length<=ps.length:=by have:=aL List.length h.1;rw [aW,aW,aS]at this;have:=gR (Lj fr e) ps;omega
theorem cut_no{fr e:Int}{ps:List Ze}{x:Ze}(g:(ps.filter (Lj fr e))[k]? = some x)(f:Zgk fr e x=false):Pq fr e ps=false:=by
 unfold Pq;cases hb:(ps.filter (Lj fr e)).all (Zgk fr e)with
 | false=>rfl
 | true=>
  have:=bF.1 hb x (dU g);rw [f]at this;cases this
theorem cutI_e{fr e:Int}{ps:List Ze}(h:Yca fr e ps (ps.filter (Lj fr e)).length zs):zs.map Ds=Bc fr e ps/\Zc4 fr e ps=0:=by obtain⟨g,f⟩:=h;rw [bT]at g f;exact⟨by unfold Bc Pq;rw [aF f];exact g,by unfold Zc4 Pq;rw [aF f]⟩
theorem cut_f{fr e:Int}{ps:List Ze}(h:Pq fr e ps=false):([]:List Ze).map Ds=Bc fr e ps/\Zc4 fr e ps=7:=by unfold Bc Zc4;rw [aD (by rw [h];exact bD),aD (by rw [h];exact bD)];exact⟨rfl,rfl⟩
def spF(ps:List Ze):Int:=(ps.getD 0 G0).1.1
def spL(ps:List Ze):Int:=(ps.getD (ps.length-1) G0).1.2.1
theorem Yl0(h:AxC c ov)(s:c.getD (c.length-1) 0≠0){b:Int}(B:0<b)(F:0<d):(Nn c a b d).length=c.length:=by
 have M:=h.l;have I:=Zf5 c a b d;rcases aX (Nn c a b d).length c.length with q|q
 .exfalso;have D:(b:Rat)≠0:=by
    have:(0:Rat)<(b:Rat):=by exact_mod_cast B
    grind
  have H:(d:Rat)≠0:=by
    have:(0:Rat)<(d:Rat):=by exact_mod_cast F
    grind
  have n:∀t:Rat,t*(d:Rat)=(a:Rat)+(b:Rat)*((t*d-a)/b):=λt=>O4;by_cases j:(Nn c a b d).length=0
  .have z:=aG j;have:∀t:Rat,Zb c t=0:=λt=>by
    have e:=Zfm h (n t);rw [z]at e;have f:(d:Rat)^5*Zb c t=0:=e.symm;have l:(d:Rat)^5≠0:=by rw [show(d:Rat)^5=d*d*d*d*d by rw [dX,dX,dX,dX,dX,eO];grind];grind
    grind
   exact s (Zol this _)
  .have g:∀t:Rat,Zb ((Ks (Nn c a b d) (-a) d b).map λq=>1*q) t=Zb (c.map λq=>b^((Nn c a b d).length-1)*d^5*q) t:=λt=>by rw [Zg,Zg];have e:=Zfm h (n t);have f:=Zj8 (p:=Nn c a b d) (-a) d b (t:=(t*d-a)/b) (u:=t) (by push_cast;grind) j;rw [f,e];push_cast;rw [<-Zc9,<-Zc9];push_cast;grind
   have e:=Mi g (c.length-1);rw [Dx,Dx,Yo (by have:=Zew (Nn c a b d) (-a) d b;omega)]at e;have f:b^((Nn c a b d).length-1)*d^5≠0:=bG (Int.pow_ne_zero O) (Int.pow_ne_zero O);have l:b^((Nn c a b d).length-1)*d^5*cf c (c.length-1)=0:=O;rcases fA.1 l with q|q
   .exact f q
   .exact s q
 .omega
theorem Zwl{X:List Int}(f:0<G)(e:∀x∈X,G∣x)(i:Nat):cf (Ci X G) i*G=cf X i:=by
 unfold Ci;split
 .rename_i h;rw [aG h]
  match i with
  | 0=>show(0:Int)*G=cf [] 0;rw [dC];rfl
  | i+1=>show(0:Int)*G=cf [] (i+1);rw [dC];rfl
 .rw [Zc6 O8];by_cases hi:i<X.length
  .have:cf X i∈X:=Zi hi;exact iE (e _ this)
  .rw [Yo O];simp
theorem Yk0{X:List Int}(e:0<G)(f:∀x∈X,G∣x)(u:Rat):Zb (Ci X G) u*(G:Rat)=Zb X u:=by rw [kE,<-Zg];exact Ng u _ _ λi=>by rw [Dx,dV,Zwl e f]
theorem Zhw(f g:Nat->Int)(a:Int)(h:∀k,f k*a=g k):∀m,Yb f m*a=Yb g m
 | 0=>dC _
 | m+1=>by rw [Yl,Yl,lT,Zhw f g a h m,h]
theorem Ynx{X:List Int}(e:0<G)(f:∀x∈X,G∣x)(n j:Nat):Iv n (Ci X G) j*G=Iv n X j:=by unfold Iv;exact Zhw _ _ _ (λk=>by rw [lN,Zwl e f]) _
theorem Ylz(X:List Int)(G:Int):(Ci X G).length=max X.length 1:=by
 unfold Ci;split
 .rename_i h;rw [h];rfl
 .rw [aW];omega
theorem Zwx(h:AxC c ov){b o:Int}(P:0<=a)(D:0<b)(s:a+b<=d)(F:0<d)(q:0<G)(I:∀x∈Nn c a b d,G∣x)(R:o*G=ov*d^5):AxC (Ci (Nn c a b d) G) o/\(Ci (Nn c a b d) G).length=c.length:=by
 have V:=h.l;have f:(Ci (Nn c a b d) G).length=c.length/\(1<c.length->(Nn c a b d).length=c.length):=by
  rw [Ylz];by_cases M:c.getD (c.length-1) 0=0
  .have:=h.t;have Q:=Zf5 c a b d;have g:c.length=1:=by
    by_cases l:1<c.length
    .exact absurd ⟨l,M⟩ this
    .omega
   exact⟨O,λl=>O⟩
  .have:=Yl0 h M (a:=a) D F;exact⟨O,λ_=>this⟩
 refine⟨⟨O,λ⟨g,u⟩=>?_,λj H=>?_⟩,f.1⟩
 .rw [f.1]at g u;have l:cf (Ci (Nn c a b d) G) (c.length-1)=0:=u;have z:=Zwl q I (c.length-1);rw [l,dC]at z;have n:=f.2 g;have S:Tr (Nn c a b d):=Nq;have B:=S.mem (λe=>by rw [e]at n;simp at n;omega);rw [n]at B;exact B z.symm
 .rw [f.1]at H ⊢;have g:=Zz8 h P (eK D) s F j H;rw [<-Ynx q I,<-R,cH]at g;have N:((G.natAbs:Nat):Int)=G:=O;push_cast at g;rw [N]at g;refine Int.le_of_mul_le_mul_right (a:=G) ?_ q;refine mJ g (oD ?_);grind
theorem Zs3{G:Int}(e:0<G):∀(l:List Int) (o:Int),Ln (G*o) (l.map (G*·))=G*Ln o l
 | [],o=>rfl
 | x::l,o=>by show Ln ((Int.gcd (G*o) (G*x):Nat):Int) (l.map (G*·))=G*Ln ((Int.gcd o x:Nat):Int) l;rw [Int.gcd_mul_left];push_cast;rw [show((G.natAbs:Nat):Int)=G by omega];exact Zs3 e l _
theorem Zk8{X:List Int}{o:Int}(g:0<G)(e:∀x∈X,G∣x)(j:0<=o):Ln o ((Ci X G).map (G*·))=Ln o X:=by
 unfold Ci;split
 .rename_i h;rw [aG h];show((Int.gcd o (G*0):Nat):Int)=o;rw [eC,Int.gcd_zero_right];omega
 .congr 1;rw [iC]
  conv=>rhs;rw [<-nA X]
  refine kX λx f=>?_;show G*(x/G)=x;exact kN (e x f)
theorem Ymj{X Y Z:List Int}{o f:Int}(g:0<o)(e:0<Fl o X Y Z)(q:∀x∈X,Fl o X Y Z∣x)(s:∀x∈Y,Fl o X Y Z∣x)(u:∀x∈Z,Fl o X Y Z∣x)(h:Fl o X Y Z*f=o) :
  Ln f (Ci X (Fl o X Y Z) ++ Ci Y (Fl o X Y Z) ++ Ci Z (Fl o X Y Z))=1:=by
 have j:=Zs3 e (Ci X (Fl o X Y Z) ++ Ci Y (Fl o X Y Z) ++ Ci Z (Fl o X Y Z)) f;rw [h,eE,eE,Ee,Ee,Zk8 e q (eK g),Zk8 e s (Zf7 _ _ (eK g)),Zk8 e u (Zf7 _ _ (Zf7 _ _ (eK g)))]at j;have l:Fl o X Y Z=Ln (Ln (Ln o X) Y) Z:=by show Ln o (X ++ Y ++ Z)=_;rw [Ee,Ee]
 rw [<-l]at j;generalize Ln f _=r at *;have n:Fl o X Y Z*r=Fl o X Y Z*1:=O;exact gU O n
structure Prt (q g:Ze) (G:Int):Prop where
 g0:0<G
 a0:0<=q.1.1-g.1.1
 b0:0<q.1.2.1-q.1.1
 ab:(q.1.1-g.1.1)+(q.1.2.1-q.1.1)<=g.1.2.1-g.1.1
 o:q.1.2.2*G=g.1.2.2*(g.1.2.1-g.1.1)^5
 x:∀i (t u:Rat),t*((g.1.2.1-g.1.1:Int):Rat)=((q.1.1-g.1.1:Int):Rat)+((q.1.2.1-q.1.1:Int):Rat)*u->Zb (Ye i q.2.1.2 q.2.2.1.2 q.2.2.2.2) u*(G:Rat)=((g.1.2.1-g.1.1:Int):Rat)^5*Zb (Ye i g.2.1.2 g.2.2.1.2 g.2.2.2.2) t
theorem Zvt{X:List Int}(h:∀k,(X.getD k 0/G).natAbs<=9223372036854775807):∀a∈Ci X G,Mw a:=λa e=>by
 unfold Ci at e;split at e
 .rw [bZ.1 e];exact⟨O3,O3⟩
 .obtain⟨x,g,rfl⟩:=eV.1 e;obtain⟨k,f⟩:=fI.1 g;have:=h k;rw [aE,f]at this;simp only [fC]at this;exact⟨O,O⟩
theorem Zoo{b:Int}{t u:Rat}(f:AxC c ov)(e:0<G)(g:∀x∈Nn c a b d,G∣x)(h:t*(d:Rat)=(a:Rat)+(b:Rat)*u):Zb (Ci (Nn c a b d) G) u*(G:Rat)=(d:Rat)^5*Zb c t:=by rw [Yk0 e g];exact Zfm f h
theorem Zzt{fr e:Int}{g q:Ze}(hi:Gin g)(hs:seB g=true)(hp:Lj fr e g=true)(hk:Zgk fr e g=true)(hu:Ds q=Zwe fr e g):Gin q/\seB q=true/\Prt q g (cG fr e g):=by
 have hg:SgG g:=Ig hi hs;obtain⟨a1,a2,a3⟩:=Yd7 hs;obtain⟨N,P,Q,S⟩:=Yh1 hg hp;have W:=Yfo hi hs hp;obtain⟨g1,⟨z,a6⟩,V⟩:=W.g;have n:0<cG fr e g:=g1;have D:∀x∈cX fr e g g.2.1.2,cG fr e g∣x:=V 0 O3;have F:∀x∈cX fr e g g.2.2.1.2,cG fr e g∣x:=V 1 O3;have H:∀x∈cX fr e g g.2.2.2.2,cG fr e g∣x:=V 2 O3;have I:cG fr e g*z=cO g:=a6.symm;have B:cO g/cG fr e g=z:=by rw [<-I];exact fK _ O
 have f:cO g/cG fr e g<=4294967296:=cD hk;have a7:0<cO g:=W.o;have b1:0<z:=by
  by_cases h:0<z
  .exact h
  .have:=gP (eK n) (show z<=0 by omega);omega
 have s:z*cG fr e g=g.1.2.2*(g.1.2.1-g.1.1)^5:=by rw [dV];exact I
 obtain⟨x1,x2⟩:=Zwx a1 N P Q S n D s;obtain⟨y1,y2⟩:=Zwx a2 N P Q S n F s;obtain⟨z1,z2⟩:=Zwx a3 N P Q S n H s;obtain⟨⟨qf,qt,qo⟩,⟨sx,qx⟩,⟨sy,qy⟩,⟨sz,qz⟩⟩:=q;unfold Ds Zwe at hu;rw [mdO_t f,Zm8 f,Zm8 f,Zm8 f,B]at hu;injection hu with h1 h2;injection h1 with hf h1;injection h1 with ht R;injection h2 with hx h2;injection h2 with hy hz;dsimp only at hf ht R hx hy hz;subst hf ht hx hy hz;have R:=R.symm;subst R;have j:=λi (hi:i<3) k=>W.fit (i:=i) f hi k;have a9:=cD hp;have b2:=hg.t1;have b3:=hg.t3;have a0:∀a∈Ci (cX fr e g g.2.1.2) (cG fr e g),Mw a:=Zvt (j 0 O3);have a4:∀a∈Ci (cX fr e g g.2.2.1.2) (cG fr e g),Mw a:=Zvt (j 1 O3);have a5:∀a∈Ci (cX fr e g g.2.2.2.2) (cG fr e g),Mw a:=Zvt (j 2 O3);have b0:z<=4294967296:=B▸f;have a8:0<=cA fr g/\cB e g<=3600000:=by unfold cA cB;exact⟨O,O⟩
 have i1:Mw (cA fr g):=⟨O,O⟩;have i2:Mw (cB e g):=⟨O,O⟩;have i3:Mw z:=⟨O,O⟩;refine⟨⟨i1,i2,i3,a0,a4,a5⟩,?_,⟨n,N,P,by show(cA fr g-g.1.1)+(cB e g-cA fr g)<=_;exact Q,s,λi t u M=>?_⟩⟩
 .show Zal (cA fr g) (cB e g) z _ _ _=true;unfold Zal Zut;simp only [aQ,cT];exact⟨⟨⟨⟨⟨⟨⟨⟨O,O⟩,O⟩,O⟩,O⟩,x1.to⟩,y1.to⟩,z1.to⟩,Ymj a7 n D F H I⟩
 .have l:t*((g.1.2.1-g.1.1:Int):Rat)=((cA fr g-g.1.1:Int):Rat)+((cB e g-cA fr g:Int):Rat)*u:=M;clear M;have k0:=Zoo a1 n D l;have k1:=Zoo a2 n F l;have k2:=Zoo a3 n H l;dsimp only;generalize Ci (cX fr e g g.2.1.2) (cG fr e g)=X at *;generalize Ci (cX fr e g g.2.2.1.2) (cG fr e g)=Y at *;generalize Ci (cX fr e g g.2.2.2.2) (cG fr e g)=Z at *;generalize ((cG fr e g:Int):Rat)=GG at *;generalize ((g.1.2.1-g.1.1:Int):Rat)^5=DD at *
  match i with
  | 0=>exact k0
  | 1=>exact k1
  | i+2=>exact k2
def cgb0{M:Int}(f:0<=M)(e:-(M*1)<=(x0*1)/\(x0*1)<=M*1):(-(80*M)<=x0/\x0<=80*M):=O
theorem cgb1{M:Int}(g:0<=M)(e:-(M*1)<=(x0*1)/\(x0*1)<=M*1)(f:-(M*1)<=(x0*1+x1*1)/\(x0*1+x1*1)<=M*1):(-(80*M)<=x0/\x0<=80*M)/\(-(80*M)<=x1/\x1<=80*M):=by refine⟨⟨?_,?_⟩,⟨?_,?_⟩⟩<;>omega
theorem cgb2{M:Int}(h:0<=M)(e:-(M*1)<=(x0*1)/\(x0*1)<=M*1)(f:-(M*2)<=(x0*2+x1*1)/\(x0*2+x1*1)<=M*2)(g:-(M*1)<=(x0*1+x1*1+x2*1)/\(x0*1+x1*1+x2*1)<=M*1):(-(80*M)<=x0/\x0<=80*M)/\(-(80*M)<=x1/\x1<=80*M)/\(-(80*M)<=x2/\x2<=80*M):=by refine⟨⟨?_,?_⟩,⟨?_,?_⟩,⟨?_,?_⟩⟩<;>omega
theorem cgb3{M:Int}(j:0<=M)(e:-(M*1)<=(x0*1)/\(x0*1)<=M*1)(f:-(M*3)<=(x0*3+x1*1)/\(x0*3+x1*1)<=M*3)(g:-(M*3)<=(x0*3+x1*2+x2*1)/\(x0*3+x1*2+x2*1)<=M*3)(h:-(M*1)<=(x0*1+x1*1+x2*1+x3*1)/\(x0*1+x1*1+x2*1+x3*1)<=M*1):(-(80*M)<=x0/\x0<=80*M)/\(-(80*M)<=x1/\x1<=80*M)/\(-(80*M)<=x2/\x2<=80*M)/\(-(80*M)<=x3/\x3<=80*M):=by refine⟨⟨?_,?_⟩,⟨?_,?_⟩,⟨?_,?_⟩,⟨?_,?_⟩⟩<;>omega
theorem cgb4{M:Int}(l:0<=M)(e:-(M*1)<=(x0*1)/\(x0*1)<=M*1)(f:-(M*4)<=(x0*4+x1*1)/\(x0*4+x1*1)<=M*4)(g:-(M*6)<=(x0*6+x1*3+x2*1)/\(x0*6+x1*3+x2*1)<=M*6)(h:-(M*4)<=(x0*4+x1*3+x2*2+x3*1)/\(x0*4+x1*3+x2*2+x3*1)<=M*4)(j:-(M*1)<=(x0*1+x1*1+x2*1+x3*1+x4*1)/\(x0*1+x1*1+x2*1+x3*1+x4*1)<=M*1):(-(80*M)<=x0/\x0<=80*M)/\(-(80*M)<=x1/\x1<=80*M)/\(-(80*M)<=x2/\x2<=80*M)/\(-(80*M)<=x3/\x3<=80*M)/\(-(80*M)<=x4/\x4<=80*M):=by refine⟨⟨?_,?_⟩,⟨?_,?_⟩,⟨?_,?_⟩,⟨?_,?_⟩,⟨?_,?_⟩⟩<;>omega
theorem cgb5{M e:Int}(q:0<=M)(f:-(M*1)<=(x0*1)/\(x0*1)<=M*1)(g:-(M*5)<=(x0*5+x1*1)/\(x0*5+x1*1)<=M*5)(h:-(M*10)<=(x0*10+x1*4+x2*1)/\(x0*10+x1*4+x2*1)<=M*10)(j:-(M*10)<=(x0*10+x1*6+x2*3+x3*1)/\(x0*10+x1*6+x2*3+x3*1)<=M*10)(l:-(M*5)<=(x0*5+x1*4+x2*3+x3*2+x4*1)/\(x0*5+x1*4+x2*3+x3*2+x4*1)<=M*5)(n:-(M*1)<=(x0*1+x1*1+x2*1+x3*1+x4*1+e*1)/\(x0*1+x1*1+x2*1+x3*1+x4*1+e*1)<=M*1):(-(80*M)<=x0/\x0<=80*M)/\(-(80*M)<=x1/\x1<=80*M)/\(-(80*M)<=x2/\x2<=80*M)/\(-(80*M)<=x3/\x3<=80*M)/\(-(80*M)<=x4/\x4<=80*M)/\(-(80*M)<=e/\e<=80*M):=by refine⟨⟨?_,?_⟩,⟨?_,?_⟩,⟨?_,?_⟩,⟨?_,?_⟩,⟨?_,?_⟩,⟨?_,?_⟩⟩<;>omega
theorem cg_brS{n:Nat}(B:n<6)(F:c.length<=n+1){M:Int}(h:∀j,j<n+1->((Iv n c j).natAbs:Int)<=M*(Py n j:Int))(k:Nat):((cf c k).natAbs:Int)<=80*M:=by
 have s:0<=M:=by have f:=h 0 O;rw [Zlt]at f;omega
 by_cases D:k<n+1
 .rw [Xr]
  match n,B with
  | 0,_=>
   have f:=Xr.1 (h 0 O3);rw [bre00,show(Py 0 0:Int)=1 from rfl]at f;have e:=cgb0 s f;obtain rfl:k=0:=O;exact e
  | 1,_=>
   have f:=Xr.1 (h 0 O3);rw [bre10,show(Py 1 0:Int)=1 from rfl]at f;have g:=Xr.1 (h 1 O3);rw [bre11,show(Py 1 1:Int)=1 from rfl]at g;have e:=cgb1 s f g;rcases(show k=0\/k=1 by omega)with rfl|rfl
   .exact e.1
   .exact e.2
  | 2,_=>
   have f:=Xr.1 (h 0 O3);rw [bre20,show(Py 2 0:Int)=1 from rfl]at f;have g:=Xr.1 (h 1 O3);rw [bre21,show(Py 2 1:Int)=2 from rfl]at g;have l:=Xr.1 (h 2 O3);rw [bre22,show(Py 2 2:Int)=1 from rfl]at l;have e:=cgb2 s f g l;rcases(show k=0\/k=1\/k=2 by omega)with rfl|rfl|rfl
   .exact e.1
   .exact e.2.1
   .exact e.2.2
  | 3,_=>
   have f:=Xr.1 (h 0 O3);rw [bre30,show(Py 3 0:Int)=1 from rfl]at f;have g:=Xr.1 (h 1 O3);rw [bre31,show(Py 3 1:Int)=3 from rfl]at g;have l:=Xr.1 (h 2 O3);rw [bre32,show(Py 3 2:Int)=3 from rfl]at l;have q:=Xr.1 (h 3 O3);rw [bre33,show(Py 3 3:Int)=1 from rfl]at q;have e:=cgb3 s f g l q;rcases(show k=0\/k=1\/k=2\/k=3 by omega)with rfl|rfl|rfl|rfl
   .exact e.1
   .exact e.2.1
   .exact e.2.2.1
   .exact e.2.2.2
  | 4,_=>
   have f:=Xr.1 (h 0 O3);rw [bre40,show(Py 4 0:Int)=1 from rfl]at f;have g:=Xr.1 (h 1 O3);rw [bre41,show(Py 4 1:Int)=4 from rfl]at g;have l:=Xr.1 (h 2 O3);rw [bre42,show(Py 4 2:Int)=6 from rfl]at l;have q:=Xr.1 (h 3 O3);rw [bre43,show(Py 4 3:Int)=4 from rfl]at q;have u:=Xr.1 (h 4 O3);rw [bre44,show(Py 4 4:Int)=1 from rfl]at u;have e:=cgb4 s f g l q u;rcases(show k=0\/k=1\/k=2\/k=3\/k=4 by omega)with rfl|rfl|rfl|rfl|rfl
   .exact e.1
   .exact e.2.1
   .exact e.2.2.1
   .exact e.2.2.2.1
   .exact e.2.2.2.2
  | 5,_=>
   have f:=Xr.1 (h 0 O3);rw [bre50,show(Py 5 0:Int)=1 from rfl]at f;have g:=Xr.1 (h 1 O3);rw [bre51,show(Py 5 1:Int)=5 from rfl]at g;have l:=Xr.1 (h 2 O3);rw [bre52,show(Py 5 2:Int)=10 from rfl]at l;have q:=Xr.1 (h 3 O3);rw [bre53,show(Py 5 3:Int)=10 from rfl]at q;have u:=Xr.1 (h 4 O3);rw [bre54,show(Py 5 4:Int)=5 from rfl]at u;have z:=Xr.1 (h 5 O3);rw [bre55,show(Py 5 5:Int)=1 from rfl]at z;have e:=cgb5 s f g l q u z;rcases(show k=0\/k=1\/k=2\/k=3\/k=4\/k=5 by omega)with rfl|rfl|rfl|rfl|rfl|rfl
   .exact e.1
   .exact e.2.1
   .exact e.2.2.1
   .exact e.2.2.2.1
   .exact e.2.2.2.2.1
   .exact e.2.2.2.2.2
 .rw [Yo O];simp;omega
theorem AxC.cg(h:AxC c ov)(k:Nat):((cf c k).natAbs:Int)<=83886080*ov:=by have f:=h.l;have:=cg_brS (n:=c.length-1) O (c:=c) O (M:=1048576*ov) (λj e=>h.b j O) k;omega
open Go.RowKit Below
variable {P:Program} {N:Nat} {sc:Nat->Prop} {env env':Qi} {H H':Hp} {Q Q':Exit->Act->World->Prop} {M:Nat->Prop}
def wcr(l:List Int)(r:List Value):Array Value:=(l.map (Value.int .i64) ++ r).toArray
theorem Zjh(l:List Int)(r:List Value):(wcr l r).size=l.length+r.length:=by simp [wcr]
theorem Yjw{l:List Int}{j:Nat}(h:j<l.length):(wcr l r)[j]? = some (.int .i64 (l.getD j 0)):=by simp [wcr,cW,h,aE]
theorem Yjv{l:List Int}{j:Nat}{v:Int}(h:j<l.length):Gr (wcr l r) j [.int .i64 v]=wcr (l.set j v) r:=by
 unfold Gr wcr;congr 1;rw [jV,aF h,eE,cQ,nJ,List.map_drop];have e:j<=(l.map (Value.int .i64)).length:=by rw [aW];omega
 have f:j+1<=(l.map (Value.int .i64)).length:=by rw [aW];omega
 simp only [dM,mN,bR];rw [fF e,gC f];simp
theorem Zwn(l:List Int):cellsOf Xf l=l.map (Value.int .i64):=by
 induction l with
 | nil=>rfl
 | cons x l e=>rw [show cellsOf Xf (x::l)=(Xf x).cells.toList ++ cellsOf Xf l from rfl,e];rfl
theorem f_obox{e:TypeId}(i:Nat)(hi:lk H i=some (On 1 e Xf v xs))(D:xs≠[]):∀a w,Sat N sc env H a w->∃y:Nat×Nat×List Value,
  v= .slice (some ⟨y.1,0,none⟩) xs.length y.2.1/\xs.length+y.2.2.length=y.2.1/\y.2.1<=maxLen/\w.heap[y.1]? = some (.cells (wcr xs y.2.2) e (0,0)):=λa w hs=>by
 have n:w.ownsRow 0 e 1 v xs.length (cellsOf Xf xs):=hs.hold i _ hi;rcases n.2 with⟨rfl,z⟩|⟨g,j,f,rfl,F,u,B,q,l,h⟩
 .exact absurd (aG z) D
 .rw [jU]at l h;refine⟨(g,j,f.toList.drop xs.length),rfl,?_,q,?_⟩
  .show xs.length+(f.toList.drop xs.length).length=j;have s:f.toList.length=j:=by rw [eA];exact l
   rw [eH,s];omega
  .show w.heap[g]? = some (.cells (wcr xs (f.toList.drop xs.length)) e (0,0));rw [show wcr xs (f.toList.drop xs.length)=f by unfold wcr;rw [<-Zwn,<-h,fH]]
   exact u
theorem s_obox {e:TypeId} {c:Nat}     (i:Nat) (hi:lk H i=some (On 1 e Xf (.slice (some ⟨b,0,none⟩) xs.length c) xs)) (f:Nat.beq i 0=false) (g:lk H 0=some (Zt w0 M0)) (l:∀b,w0.heap.size<=b->sc b)
  {a:Act}  (hs:Sat N sc env H a w) (h:w.heap[b]? = some (.cells (wcr xs r) e (0,0))):Sat N sc env ((i,box b e (wcr xs r))::H) a w:=
 hs.upd hi rfl (λe=>by subst e;simp at f) (Chg.refl _ w) h (λk j=> .inl (by show some b=some k;rw [show k=b from j])) g l
theorem e_obox {g:Code} {e:TypeId}     (i:Nat) (hi:lk H i=some (On 1 e Xf v xs)) (f:Nat.beq i 0=false) (z:xs≠[]) (j:lk H 0=some (Zt w0 M0)) (u:∀b,w0.heap.size<=b->sc b)
  (h:∀(b c:Nat) (r:List Value),v= .slice (some ⟨b,0,none⟩) xs.length c->xs.length+r.length=c->c<=maxLen->E P N sc g Q env ((i,box b e (wcr xs r))::H)):E P N sc g Q env H:=λa w hs=>by
 obtain⟨⟨b,c,r⟩,s,l,n,q⟩:=f_obox i hi z a w hs;subst s;exact h b c r rfl l n a w (s_obox i hi f j u hs q)
theorem Ykw{e:TypeId}{c:Nat}(i:Nat)(hi:lk H i=some (box b e (wcr xs r)))(f:Nat.beq i 0=false)(h:xs.length+r.length=c)(n:c<=maxLen)(g:lk H 0=some (Zt w0 M0))(q:∀b,w0.heap.size<=b->sc b) :
  ∀a w,Sat N sc env H a w->Sat N sc env ((i,On 1 e Xf (.slice (some ⟨b,0,none⟩) xs.length c) xs)::H) a w:=λa w hs=>by
 have j:w.heap[b]? = some (.cells (wcr xs r) e (0,0)):=hs.hold i _ hi;refine hs.upd hi rfl (λe=>by subst e;simp at f) (Chg.refl _ w) ?_ (λk l=> .inl (by cases l;rfl)) g q;refine⟨by rw [Zwn,aW,jU],.inr ⟨b,c,_,rfl,bI _,j,O,n,by rw [Zjh,jU];exact h,?_⟩⟩;rw [Zwn,jU];show((xs.map (Value.int .i64)) ++ r).take xs.length=_;rw [fF (by rw [aW];exact aI _),cC (by rw [aW];exact aI _)]
theorem Zae (i:Nat)   {e:TypeId} {n c:Nat}   (j:o.op= .indexAddr t x y) (q:ev env x=some (.slice (some ⟨b,off,none⟩) n c)) (s:ev env y=some (.int kd m))
  (l:P.underlying t=some (.slice e)) (h:∀w,(sizeOf e).run P w= .ok 1 w) (f:m=(i:Int)) (g:i<n):Ms P N sc o env H (.pointer (some ⟨b,off+i,none⟩)):=λa w hs=>by
 subst f;simp [execOp,j,hs.ev q,hs.ev s,Instr.indexAt,asIntOf,run_underlying l,h,g,Px]
theorem Zp4   {e:TypeId} {f:Option Addr} {n c:Nat} (g:o.op= .call { callee:= .builtin .len,args:=#[x],argTypes:=#[t] })
  (j:ev env x=some (.slice f n c)) (h:P.underlying t=some (.slice e)):Ms P N sc o env H (.int .i64 (n:Int)):=λa w hs=>by
 simp [execOp,g,resolve,hs.ev j,invoke,builtin,Builtin.len_,run_underlying h,goInt]
def Zc1 (i:Nat){j:Nat}{l:List Int}(g:o.op= .load t x)(n:ev env x=some (.pointer (some ⟨b,j,none⟩)))(e:lk H i=some (box b tb (wcr l r)))(h:∀w,(isAgg t).run P w= .ok false w)(f:j<l.length) :
  Ms P N sc o env H (.int .i64 (l.getD j 0)):=Zlo _ g n e h (Yjw f)
theorem Zq8 (i:Nat)    {j:Nat} {l:List Int}  {v:Int}   (z:o.op= .store t x y) (n:o.dst=none)
  (F:ev env x=some (.pointer (some ⟨b,j,none⟩))) (I:ev env y=some (.int .i64 v)) (g:lk H i=some (box b tb (wcr l r))) (e:i≠0) (s:∀w,(sizeOf t).run P w= .ok 1 w) (q:j<l.length)
  (f:lk H 0=some (Zt w0 M0)) (D:∀b,w0.heap.size<=b->sc b) (h:M b) :
  T P N sc M o env H (G:=Unit) (λ_=>True) (λ_=>env) (λ_=>(i,box b tb (wcr (l.set j v) r))::H):=by
 rw [<-Yjv q];exact Zhu [.int .i64 v] z n F I g e rfl s rfl (by rw [Zjh];simp;omega) (λu B=>Zl (by rw [bZ.1 B];rfl)) rfl f D h
theorem Yhv (i:Nat)   {e:TypeId} {n c:Nat}   (s:o.op= .slice t x (some y) none none) (z:ev env x=some (.slice (some ⟨b,off,none⟩) n c)) (B:ev env y=some (.int kd m))
  (u:P.underlying t=some (.slice e)) (j:∀w,(sizeOf e).run P w= .ok 1 w) (f:m=(i:Int)) (l:i<n) (q:n<=c):Ms P N sc o env H (.slice (some ⟨b,off+i,none⟩) (n-i) (c-i)):=λa w hs=>by
 subst f;have g:i<=n:=O;have h:i<c:=O;simp [execOp,s,hs.ev z,hs.ev B,Instr.sliceAt,Instr.slice,Instr.sliceBounds,Instr.sliceBound,asIntOf,run_underlying u,j,g,h,q,Px];intro D;omega
theorem d_prew   {e:TypeId} {n c:Nat}   (l:o.op= .slice t x none (some y) none) (s:ev env x=some (.slice (some ⟨b,0,none⟩) n c)) (u:ev env y=some (.int kd m))
  (q:P.underlying t=some (.slice e)) (j:∀w,(sizeOf e).run P w= .ok 1 w) (f:m=(i:Int)) (g:i<=n) (z:n<=c):Ms P N sc o env H (.slice (some ⟨b,0,none⟩) i c):=λa w hs=>by
 subst f;have h:i<=c:=O;simp [execOp,l,hs.ev s,hs.ev u,Instr.sliceAt,Instr.slice,Instr.sliceBounds,Instr.sliceBound,asIntOf,run_underlying q,j,g,h,Px]
theorem t_clw   {s:TypeId} {lo n F:Nat} {l:List Int}   
  (Y:o.op= .call { callee:= .builtin .clear,args:=#[x],argTypes:=#[t] }) (V:o.dst=none)
  (hx:ev env x=some (.slice (some ⟨b,lo,none⟩) n F))  (z:lk H i=some (box b tb (wcr l r))) (g:i≠0)
  (hn:0<n) (W:lo+n=l.length) (Z:P.underlying t=some (.slice s)) (D:∀w,(sizeOf s).run P w= .ok 1 w)
  (hz:∀w,(zeroValue s).run P w= .ok (.int .i64 0) w)
  (I:lk H 0=some (Zt w0 M0)) (hw:∀b,w0.heap.size<=b->sc b) (S:M b) :
  T P N sc M o env H (G:=Unit) (λ_=>True) (λ_=>env) (λ_=>(i,box b tb (wcr (l.take lo) (List.replicate n (Value.int .i64 0) ++ r)))::H):=λa w hs K Q R=>by
 have B:w.heap[b]? = some (.cells (wcr l r) tb (0,0)):=hs.hold i _ z;have j:(Builtin.zeroCells (Value.int .i64 0).cells n).toList=List.replicate n (Value.int .i64 0):=by
  apply gM
  .simp [Builtin.zeroCells,Value.cells]
  .intro i h2 h3;simp [Builtin.zeroCells,Value.cells,mU]
 have e:=run_storeCells_at P b lo tb (List.replicate n (Value.int .i64 0)) 0 (wcr l r) w B (by rw [Zjh,aT];omega) (λu hu=>by rw [List.eq_of_mem_replicate hu];rfl);simp only [fR,aT]at e;have f:((wcr l r).toList.take lo ++ List.replicate n (Value.int .i64 0) ++ (wcr l r).toList.drop (lo+n)).toArray=wcr (l.take lo) (List.replicate n (Value.int .i64 0) ++ r):=by unfold wcr;congr 1;show((l.map (Value.int .i64) ++ r).take lo ++ _) ++ (l.map (Value.int .i64) ++ r).drop (lo+n)=_;rw [fF (by rw [aW];omega),gC (by rw [aW];omega),kD (by rw [aW];omega),nJ,iS,dW]
 rw [f]at e;obtain⟨m,rfl⟩:∃m,n=m+1:=⟨n-1,O⟩;have h:(execOp a.eval o).run P w= .ok (.value (.tuple #[])) (w.setRow b (wcr (l.take lo) (List.replicate (m+1) (Value.int .i64 0) ++ r))):=by simp only [execOp,Y,resolve,invoke,builtin];simp [hs.ev hx,Builtin.clear_,run_underlying Z,hz,j,e]
 unfold Oper.wp;rw [h];show K (a.put o.dst _) _;rw [V];exact R () _ _ aA ((hs.upd z rfl g (q:=box b tb (wcr (l.take lo) (List.replicate (m+1) (Value.int .i64 0) ++ r))) (Hm (M:=λk=>k=b) rfl) (setRow_heap w b _ _ tb _ B) (λk D=> .inl D) I hw).put_none _) (Hm S)
theorem Yk5{a:Act}{fn:Func}(hs:Sat N sc env H a w)(e:fn.results=#[]):(results fn a.tmps).run P w= .ok (.tuple #[]) w:=by simp [results,e]
end Go.Sky
namespace Go.Sky
variable{i k:Nat}{m xs:List Int}{G a':Int}{q:Ze}{r:List Ze}
def Srt(l:List Int)(n:Nat):Prop:=∀p q,p<q->q<n->l.getD p 0<=l.getD q 0
def Sst(l:List Int)(n:Nat):Prop:=∀p q,p<q->q<n->l.getD p 0<l.getD q 0
def Yjg(l:List Int)(i j:Nat):Prop:=∀p q,p<q->q<=i->q≠j->l.getD p 0<=l.getD q 0
def Sam(l m:List Int):Prop:=m.length=l.length/\∀x,x∈m↔x∈l
def Sam.rfl'(l:List Int):Sam l l:=⟨rfl,λ_=>oP⟩
def Cy{l:List Int}{j:Nat}{v:Int}(hi:i<l.length):(l.set i v).getD j 0=if j=i then v else l.getD j 0:=Zhh hi
def swp(l:List Int)(j:Nat):List Int:=(l.set j (l.getD (j-1) 0)).set (j-1) (l.getD j 0)
theorem Zyv(l:List Int)(j:Nat):(swp l j).length=l.length:=by simp [swp]
theorem Za3{l:List Int}{j:Nat}(a:j<l.length)(b:1<=j)(k:Nat):(swp l j).getD k 0=if k=j-1 then l.getD j 0 else if k=j then l.getD (j-1) 0 else l.getD k 0:=by unfold swp;rw [Cy (by rw [bX];omega),Cy a]
theorem Eb{l:List Int}{x:Int} : x∈l↔∃k,k<l.length/\l.getD k 0=x:=by
 constructor
 .intro h;obtain⟨k,a,e⟩:=eD.1 h;exact⟨k,a,by rw [aE,aM a];exact e⟩
 .rintro⟨k,a,rfl⟩;exact Zi a
theorem Zxs{l:List Int}{j:Nat}(c:j<l.length)(d:1<=j):Sam l (swp l j):=⟨Zyv l j,λx=>by
 rw [Eb,Eb,Zyv];constructor
 .rintro⟨k,f,e⟩;rw [Za3 c d]at e;by_cases a:k=j-1
  .rw [aF a]at e;exact⟨j,c,e⟩
  .rw [aD a]at e;by_cases b:k=j
   .rw [aF b]at e;exact⟨j-1,O,e⟩
   .rw [aD b]at e;exact⟨k,f,e⟩
 .rintro⟨k,f,e⟩;by_cases a:k=j-1
  .exact⟨j,c,by rw [Za3 c d,aD O,aF rfl,<-a];exact e⟩
  .by_cases b:k=j
   .exact⟨j-1,O,by rw [Za3 c d,aF rfl,<-b];exact e⟩
   .exact⟨k,f,by rw [Za3 c d,aD a,aD b];exact e⟩⟩
def Sam.trans{l n:List Int}(h:Sam l m)(a:Sam m n):Sam l n:=⟨a.1.trans h.1,λx=>(a.2 x).trans (h.2 x)⟩
def srtx_0{l:List Int}(h:Srt l i):Yjg l i i:=λp q a b c=>h p q a O
theorem Zre{l:List Int}{j:Nat}(h:Yjg l i j)(f:j<l.length)(e:1<=j)(o:j<=i)(s:l.getD j 0<l.getD (j-1) 0):Yjg (swp l j) i (j-1):=λp q g d n=>by
 rw [Za3 f e,Za3 f e,aD n];by_cases a:q=j
 .rw [aF a];by_cases b:p=j-1
  .rw [aF b];omega
  .rw [aD b,aD O];exact h p (j-1) O O O
 .rw [aD a];by_cases b:p=j-1
  .rw [aF b];exact h j q O d a
  .rw [aD b];by_cases c:p=j
   .rw [aF c];exact h (j-1) q O d a
   .rw [aD c];exact h p q g d a
theorem Ydh{l:List Int}{j:Nat}(h:Yjg l i j)(n:j<=i)(f:j=0\/(1<=j/\¬l.getD j 0<l.getD (j-1) 0)):Srt l (i+1):=λp q e g=>by
 by_cases a:q=j
 .rcases f with b|⟨b,c⟩
  .omega
  .subst a;by_cases d:p=q-1
   .subst d;omega
   .have:=h p (q-1) O O O;omega
 .exact h p q e O a
def srt_1(l:List Int):Srt l 1:=λp q a b=>O
structure Cmp (xs zs:List Int):Prop where
 s:Sst zs zs.length
 m:∀x,x∈zs↔x∈xs
theorem Ydg{l:List Int}{n:Nat}(h:Srt l n)(c:∀q,1<=q->q<n->l.getD q 0≠l.getD (q-1) 0):Sst l n:=λp q d b=>by
 have e:=c q O b;have f:=h (q-1) q O b;rcases nP (show p<=q-1 by omega)with a|a
 .have:=h p (q-1) a O;omega
 .subst a;omega
def Ynj{l:List Int}(h:Srt l l.length)(a:∀q,1<=q->q<l.length->l.getD q 0≠l.getD (q-1) 0):Cmp l l:=⟨Ydg h a,λx=>oP⟩
structure Cml (xs l:List Int) (m k:Nat):Prop where
 k1:1<=k
 km:k<m
 ml:m<=xs.length
 ll:l.length=xs.length
 r:∀q,m<=q+1->l.getD q 0=xs.getD q 0
 s:Sst l k
 e:∀x,(∃p,p<k/\l.getD p 0=x)↔∃p,p<m/\xs.getD p 0=x
 z:l.getD (k-1) 0=xs.getD (m-1) 0
theorem cml_0(hs:Srt xs xs.length)(e:∀q,1<=q->q<k->xs.getD q 0≠xs.getD (q-1) 0)(f:1<=k)(g:k<xs.length)(d:xs.getD k 0=xs.getD (k-1) 0):Cml xs xs (k+1) k:=
 ⟨f,O,O,rfl,λq _=>rfl,Ydg (λp q c b=>hs p q c O) e,λx=>by
  constructor
  .rintro⟨p,c,b⟩;exact⟨p,O,b⟩
  .rintro⟨p,c,b⟩;by_cases a:p=k
   .subst a;exact⟨p-1,O,by rw [<-d];exact b⟩
   .exact⟨p,O,b⟩,by rw [show k+1-1=k by omega];exact d.symm⟩
theorem cml_eq{l:List Int}{m:Nat}(h:Cml xs l m k)(n:m<xs.length)(e:l.getD m 0=l.getD (m-1) 0):Cml xs l (m+1) k:=by
 have c:=h.r m O;have d:=h.r (m-1) (by have:=h.k1;have:=h.km;omega);have g:=h.k1;have j:=h.km;refine⟨h.k1,O,n,h.ll,λq o=>h.r q O,h.s,λx=>(h.e x).trans ⟨?_,?_⟩,?_⟩
 .rintro⟨p,f,b⟩;exact⟨p,O,b⟩
 .rintro⟨p,f,b⟩;by_cases a:p=m
  .subst a;exact⟨p-1,O,by rw [<-b,<-c,<-d];exact e.symm⟩
  .exact⟨p,O,b⟩
 .rw [h.z,show m+1-1=m by omega,<-c,<-d];exact e.symm
theorem cml_ne{l:List Int}{m:Nat}(hs:Srt xs xs.length)(h:Cml xs l m k)(j:m<xs.length)(v:l.getD m 0≠l.getD (m-1) 0):Cml xs (l.set k (l.getD m 0)) (m+1) (k+1):=by
 have e:=h.r m O;have n:=h.k1;have o:=h.km;have u:=h.r (m-1) O;have s:=h.ll;have b:k<l.length:=O;have t:xs.getD (m-1) 0<xs.getD m 0:=by have:=hs (m-1) m O j;omega
 refine⟨O,O,j,by rw [bX];exact h.ll,λq w=>?_,λp q f c=>?_,λx=>?_,?_⟩
 .rw [Cy b,aD O];exact h.r q O
 .rw [Cy b,Cy b,aD (show p≠k by omega)];by_cases a:q=k
  .rw [aF a,e];have y:=h.z;rcases nP (show p<=k-1 by omega)with d|d
   .have:=h.s p (k-1) d O;omega
   .subst d;omega
  .rw [aD a];exact h.s p q f O
 .constructor
  .rintro⟨p,f,c⟩;rw [Cy b]at c;by_cases a:p=k
   .rw [aF a,e]at c;exact⟨m,O,c⟩
   .rw [aD a]at c;obtain⟨q,d,g⟩:=(h.e x).1 ⟨p,O,c⟩;exact⟨q,O,g⟩
  .rintro⟨p,f,c⟩;by_cases a:p=m
   .exact⟨k,O,by rw [Cy b,aF rfl,e,<-a];exact c⟩
   .obtain⟨q,d,g⟩:=(h.e x).2 ⟨p,O,c⟩;exact⟨q,O,by rw [Cy b,aD O];exact g⟩
 .rw [show k+1-1=k by omega,Cy b,aF rfl,show m+1-1=m by omega];exact e
theorem Ziz{l:List Int}{p:Nat}(h:p<k):(l.take k).getD p 0=l.getD p 0:=by rw [aE,aE,lZ h]
theorem cml_e{l:List Int}(h:Cml xs l xs.length k):Cmp xs (l.take k):=by
 have e:=h.km;have d:=h.ll;have c:(l.take k).length=k:=by rw [aS];omega
 refine⟨λp q b a=>?_,λx=>?_⟩
 .rw [c]at a;rw [Ziz O,Ziz a];exact h.s p q b a
 .rw [Eb,Eb,<-h.e x,c];constructor
  .rintro⟨p,b,a⟩;rw [Ziz b]at a;exact⟨p,b,a⟩
  .rintro⟨p,b,a⟩;exact⟨p,b,by rw [Ziz b];exact a⟩
def Zk3(x:Int):List Int->List Int
 | []=>[x]
 | y::l=>if x<y then x::y::l else if x=y then y::l else y::Zk3 x l
def Inc:List Int->Prop
 | []=>True
 | x::l=>(∀y∈l,x<y)/\Inc l
theorem Zku{x z:Int} : ∀{l:List Int},z∈Zk3 x l↔z=x\/z∈l
 | []=>by simp [Zk3]
 | y::l=>by
  unfold Zk3;split
  .simp
  .split
   .rename_i h;subst h;simp
   .rw [aZ,Zku,aZ];constructor
    .rintro(h|h|h)
     .exact .inr (.inl h)
     .exact .inl h
     .exact .inr (.inr h)
    .rintro(h|h|h)
     .exact .inr (.inl h)
     .exact .inl h
     .exact .inr (.inr h)
theorem Zsx{x:Int} : ∀{l:List Int},Inc l->Inc (Zk3 x l)
 | [],_=>⟨λy h=>(nomatch h),aA⟩
 | y::l,h=>by
  unfold Zk3;split
  .rename_i b;exact⟨λz a=>by
    rcases aZ.1 a with rfl|a
    .exact b
    .have:=h.1 z a;omega,h⟩
  .split
   .exact h
   .refine⟨λz a=>?_,Zsx h.2⟩;rcases Zku.1 a with rfl|a
    .omega
    .exact h.1 z a
def Zrf(l:List Int):List Int:=l.foldr Zk3 []
def Zk5:∀(l:List Int),Inc (Zrf l)
 | []=>trivial
 | x::l=>Zsx (Zk5 l)
theorem Zkt{z:Int} : ∀{l:List Int},z∈Zrf l↔z∈l
 | []=>oP
 | x::l=>by show z∈Zk3 x (Zrf l)↔_;rw [Zku,Zkt,aZ]
theorem Yf5:∀{l m:List Int},Inc l->Inc m->(∀x,x∈l↔x∈m)->l=m
 | [],[],_,_,_=>rfl
 | [],y::m,_,_,h=>absurd ((h y).2 (cE ..)) (λh=>nomatch h)
 | x::l,[],_,_,h=>absurd ((h x).1 (cE ..)) (λh=>nomatch h)
 | x::l,y::m,hl,hm,h=>by
  have e:x=y:=by
   have c:=(h x).1 (cE ..);have b:=(h y).2 (cE ..);rcases aZ.1 c with a|a
   .exact a
   .rcases aZ.1 b with d|d
    .exact d.symm
    .have:=hm.1 x a;have:=hl.1 y d;omega
  subst e;rw [Yf5 hl.2 hm.2 λz=>by
   have c:=h z;rw [aZ,aZ]at c;constructor
   .intro b;rcases c.1 (.inr b)with a|a
    .subst a;have:=hl.1 z b;omega
    .exact a
   .intro b;rcases c.2 (.inr b)with a|a
    .subst a;have:=hm.1 z b;omega
    .exact a]
theorem Zy0:∀{l:List Int},Sst l l.length->Inc l
 | [],_=>trivial
 | x::l,h=>⟨λy a=>by obtain⟨k,d,rfl⟩:=Eb.1 a;exact h 0 (k+1) O O9,Zy0 λp q b c=>h (p+1) (q+1) O O9⟩
theorem Yh9{ys zs:List Int}(b:Sam xs ys)(a:Cmp ys zs):zs=Zrf xs:=
 Yf5 (Zy0 a.s) (Zk5 xs) λx=>by rw [a.m,b.2,Zkt]
theorem Zxf:∀{l:List Int},Inc l->Sst l l.length
 | [],_=>λp q _ h=>absurd h (cK _)
 | x::l,h=>λp q a b=>by
  match p,q,a with
  | 0,q+1,_=>
   show x<l.getD q 0;exact h.1 _ (Zi (by simp at b;omega))
  | p+1,q+1,a=>exact Zxf h.2 p q O (by simp at b;omega)
def Yl9(j:Nat):j=0\/1<=j:=O
theorem hd_s(h:∀q,1<=q->q<k->xs.getD q 0≠xs.getD (q-1) 0)(b:¬xs.getD k 0=xs.getD (k-1) 0):∀q,1<=q->q<k+1->xs.getD q 0≠xs.getD (q-1) 0:=λq c d=>by
 rcases aC.1 d with a|a
 .exact h q c a
 .subst a;exact b
theorem Zx3(c:List Int)(a:Int):∀k,plS c a 1 k=Yb (λk=>cf c k*a^k) k
 | 0=>rfl
 | k+1=>by show plS c a 1 k+plT c a 1 k=_;rw [Yl,Zx3 c a k];congr 1;show c.getD k 0*(a^k*1^_)=cf c k*a^k;rw [oN,iD];rfl
theorem Zmz(f:Nat->Int):∀n,((Yb f n:Int):Rat)=Hr (λi=>(f i:Rat)) n
 | 0=>rfl
 | n+1=>by rw [Yl,Nr,<-Zmz f n];push_cast;rfl
theorem Yex(c:List Int)(a:Int):((pl c a 1:Int):Rat)=Zb c (a:Rat):=by
 unfold pl;rw [Zx3,Zmz]
 conv=>rhs;rw [<-Zix c]
 rw [Zit];exact Mo _ λi hi=>by rw [<-Zc9];push_cast;rfl
theorem Ymi{p c g a D:Int}(s:0<G)(o:0<D)(j:a*G=g*D)(l:c*G=p*D):((Int.gcd a c:Nat):Int)*G=((Int.gcd g p:Nat):Int)*D:=by have d:=oE a G c;have e:=oE g D p;rw [j,l,e]at d;have f:((G.natAbs:Nat):Int)=G:=O;have h:((D.natAbs:Nat):Int)=D:=O;have b:=aL (λn:Nat=>(n:Int)) d;push_cast at b;rw [f,h]at b;exact b.symm
theorem Zzo{p b g a D:Int}(s:0<G)(l:0<D)(n:0<g)(d:b*G=p*D)(c:a*G=g*D)(o:g∣p):b/a=p/g:=by
 obtain⟨t,rfl⟩:=o;have f:b*G=(a*t)*G:=by rw [d,lN g t D,<-c,lN]
 have h:b=a*t:=lI O f;have j:a≠0:=λe=>by rw [e,dC]at c;have:=gL n l;omega
 rw [h,fK _ j,fK _ O]
theorem Zpk(o a:Int)(x y z:List Int):∀i j,j<=i->gS o a 1 x y z i∣gS o a 1 x y z j/\∀k,k<j->gS o a 1 x y z i∣pl (Ye k x y z) a 1
 | 0,j,h=>by obtain rfl:j=0:=O;exact⟨mI _,λk b=>O⟩
 | i+1,j,h=>by
  have c:gS o a 1 x y z (i+1)∣gS o a 1 x y z i:=iJ ..;have f:gS o a 1 x y z (i+1)∣pl (Ye i x y z) a 1:=gE ..;by_cases g:j=i+1
  .subst g;obtain⟨e,d⟩:=Zpk o a x y z i i (aI _);exact⟨mI _,λk b=>by
    rcases aC.1 b with q|q
    .exact fQ c (d k q)
    .subst q;exact f⟩
  .obtain⟨e,d⟩:=Zpk o a x y z i j O;exact⟨fQ c e,λk b=>fQ c (d k b)⟩
theorem Prt.pl{g:Ze}(h:Prt q g G){a:Int}(d:a*(g.1.2.1-g.1.1)=(q.1.1-g.1.1)+(q.1.2.1-q.1.1)*a')(i:Nat) :
  Sky.pl (Ye i q.2.1.2 q.2.2.1.2 q.2.2.2.2) a' 1*G=Sky.pl (Ye i g.2.1.2 g.2.2.1.2 g.2.2.2.2) a 1*(g.1.2.1-g.1.1)^5:=by
 have b:=h.x i (a:Rat) (a':Rat) (by exact_mod_cast d);rw [<-Yex,<-Yex,<-Zc9]at b;have c:((Sky.pl (Ye i q.2.1.2 q.2.2.1.2 q.2.2.2.2) a' 1*G:Int):Rat)=((Sky.pl (Ye i g.2.1.2 g.2.2.1.2 g.2.2.2.2) a 1*(g.1.2.1-g.1.1)^5:Int):Rat):=by rw [Rat.intCast_mul,Rat.intCast_mul,b,kE]
 exact_mod_cast c
theorem Zyq{g:Ze}(h:Prt q g G)(o:SgG g){a:Int}(l:0<=a/\a<=1)(p:a*(g.1.2.1-g.1.1)=(q.1.1-g.1.1)+(q.1.2.1-q.1.1)*a') :
  (∀i,i<3->pl (Ye i q.2.1.2 q.2.2.1.2 q.2.2.2.2) a' 1/gS q.1.2.2 a' 1 q.2.1.2 q.2.2.1.2 q.2.2.2.2 3=pl (Ye i g.2.1.2 g.2.2.1.2 g.2.2.2.2) a 1/gS g.1.2.2 a 1 g.2.1.2 g.2.2.1.2 g.2.2.2.2 3)/\
  q.1.2.2*1^5/gS q.1.2.2 a' 1 q.2.1.2 q.2.2.1.2 q.2.2.2.2 3=g.1.2.2*1^5/gS g.1.2.2 a 1 g.2.1.2 g.2.2.1.2 g.2.2.2.2 3:=by
 have n:0<g.1.2.1-g.1.1:=by have:=h.a0;have:=h.b0;have:=h.ab;omega
 have e:0<(g.1.2.1-g.1.1)^5:=jT n;have b:=(Zy5 o (a:=a) (d:=1) ⟨l.1,O⟩ ⟨O3,O3⟩ 3).1;have c:=λi=>h.pl p i;have hs:∀i,gS q.1.2.2 a' 1 q.2.1.2 q.2.2.1.2 q.2.2.2.2 i*G=gS g.1.2.2 a 1 g.2.1.2 g.2.2.1.2 g.2.2.2.2 i*(g.1.2.1-g.1.1)^5:=by
  intro i
  induction i with
  | zero=>
   show q.1.2.2*1^5*G=g.1.2.2*1^5*_;rw [oN,iD,iD];exact h.o
  | succ i s=>
   show((Int.gcd (gS q.1.2.2 a' 1 q.2.1.2 q.2.2.1.2 q.2.2.2.2 i) (pl (Ye i q.2.1.2 q.2.2.1.2 q.2.2.2.2) a' 1):Nat):Int)*G=((Int.gcd (gS g.1.2.2 a 1 g.2.1.2 g.2.2.1.2 g.2.2.2.2 i) (pl (Ye i g.2.1.2 g.2.2.1.2 g.2.2.2.2) a 1):Nat):Int)*_;exact Ymi h.g0 e s (c i)
 obtain⟨t,f⟩:=Zpk g.1.2.2 a g.2.1.2 g.2.2.1.2 g.2.2.2.2 3 3 (aI _);obtain⟨j,-⟩:=Zpk g.1.2.2 a g.2.1.2 g.2.2.1.2 g.2.2.2.2 3 0 O3;refine⟨λi hi=>Zzo h.g0 e b (c i) (hs 3) (f i hi),Zzo h.g0 e b ?_ (hs 3) j⟩;rw [oN,iD,iD];exact h.o
theorem me_prt{g h r:Ze}{K:Int}(o:SgG g)(p:SgG h)(t:Prt q g G)(u:Prt r h K)(d:q.1.2.1=g.1.2.1)(c:r.1.1=h.1.1)(s:meG g h=true):meG q r=true:=by
 obtain⟨b,v⟩:=Zyq t o (a:=1) (a':=1) ⟨O3,O3⟩ (by rw [d];omega);obtain⟨r1,r2⟩:=Zyq u p (a:=0) (a':=0) ⟨O3,O3⟩ (by rw [c];omega);unfold meG Zkv sameP at *;rw [aQ,eW,eW]at *;obtain⟨e,f,j,l,n⟩:=s;refine⟨by rw [d,c];exact e,?_,?_,?_,?_⟩
 .exact(b 0 O3).trans (f.trans (r1 0 O3).symm)
 .exact(b 1 O3).trans (j.trans (r1 1 O3).symm)
 .exact(b 2 O3).trans (l.trans (r1 2 O3).symm)
 .exact v.trans (n.trans r2.symm)
structure Chn (ps:List Ze):Prop where
 lt:∀g∈ps,g.1.1<g.1.2.1
 eq:∀(i:Nat) (g h:Ze),ps[i]? = some g->ps[i+1]? = some h->g.1.2.1=h.1.1
def Chn.tail{g:Ze}(h:Chn (g::r)):Chn r:=⟨λx a=>h.lt x (bM _ a),λi x y a b=>h.eq (i+1) x y a b⟩
theorem Chn.ge:∀{r:List Ze} {g:Ze},Chn (g::r)->∀x∈r,g.1.2.1<=x.1.1
 | [],_,_,_,a=>nomatch a
 | h::r,g,hc,x,a=>by
  have b:=hc.eq 0 g h rfl rfl;rcases aZ.1 a with rfl|a
  .omega
  .have:=Chn.ge hc.tail x a;have:=hc.lt h O8;omega
theorem Zi2{fr l:Int} : ∀{ps:List Ze},Chn ps->∀(j:Nat) (f d:Ze),(ps.filter (Lj fr l))[j]? = some f->(ps.filter (Lj fr l))[j+1]? = some d->∃i:Nat,ps[i]? = some f/\ps[i+1]? = some d
 | [],_,j,f,d,h,_=>by simp at h
 | g::r,hc,j,f,d,h1,c=>by
  cases hp:Lj fr l g with
  | false=>
   rw [gF (by rw [hp];exact bD)]at h1 c;obtain⟨i,a,b⟩:=Zi2 hc.tail j f d h1 c;exact⟨i+1,a,b⟩
  | true=>
   rw [eR hp]at h1 c
   match j with
   | j+1=>
    obtain⟨i,a,b⟩:=Zi2 hc.tail j f d h1 c;exact⟨i+1,a,b⟩
   | 0=>
    obtain rfl:g=f:=by simpa using h1
    have c:(r.filter (Lj fr l))[0]? = some d:=c;have s:d∈r.filter (Lj fr l):=dU c;obtain⟨e,n⟩:=fL.1 s
    match r,hc,c,e with
    | h::r,hc,c,e=>
     have u:=hc.eq 0 g h rfl rfl;have v:=hc.lt h O8;have t:=cD hp;have o:=cD n;have p:Lj fr l h=true:=by
      refine aJ ?_;unfold cA cB at *;rcases aZ.1 e with rfl|q
      .exact o
      .have:=Chn.ge hc.tail d q;omega
     rw [eR p]at c;obtain rfl:h=d:=by simpa using c
     exact⟨0,rfl,rfl⟩
end Go.Sky

