/- Rules, arithmetic and contracts: part 9. No conditions but those that each theorem names. -/
import Derived.Test.YthennaflbbajkaaGreatAd07
set_option linter.all false
namespace Go.Sky
variable{xs p c z y q l1 l2:List Int}{i:Nat}{a b d x ov:Int}{u v:Value}{zs:List (SL×List Int)}{s:SL}{f:Nat->Value}{d0:SL×List Int}{M M0:Nat->Prop}
def lessx(xs:List Int)(m:Int):List Int:=Zbh xs (tzl [m])
def Zuu(xs:List Int)(m:Int):Prop:=∃x:Rat,0<=x/\x<=1/\Zc xs x<(m:Rat)
theorem Ybu{m n:Int}(h:Zuu xs m)(e:m<=n):Zuu xs n:=by
 obtain⟨x,a,b,c⟩:=h;have:(m:Rat)<=(n):=by exact_mod_cast e
 exact⟨x,a,b,O4⟩
def lws:List Int->Int
 | []=>0
 | c::p=>-(c.natAbs:Int)+lws p
theorem Yf2{n:Nat} : ∀p:List Int,(∀c∈p,c.natAbs<=n)->-((p.length*n:Nat):Int)<=lws p/\lws p<=0
 | [],_=>by show -((0*n):Int)<=0/\(0)<=0;simp
 | c::p,h=>by have g:=Yf2 p λd e=>h d (bN _ e);show -(((p.length+1)*n))<=-(c.natAbs)+lws p/\-(c.natAbs)+lws p<=0;grind
theorem Zyx{x:Rat}(e:0<=x)(g:x<=1):∀p:List Int,((lws p:Int):Rat)<=Zc p x
 | []=>by rfl
 | c::p=>by
  have r:=Zyx e g p;have h:=(Yf2 (n:=p.foldl (λm c=>max m c.natAbs) 0) p (λc k=>by
   have:∀(l:List Int) (a:Nat),(a<=l.foldl (λm c=>max m c.natAbs) a)/\∀c∈l,c.natAbs<=l.foldl (λm c=>max m c.natAbs) a:=λl=>by
    induction l with
    | nil=>simp
    | cons d l r=>
     grind
   grind)).2
  have j:((lws p):Rat)<=0:=by exact_mod_cast h
  have k:((-(c.natAbs:Int)))<=(c:Rat):=by exact_mod_cast (show -(c.natAbs)<=c by omega)
  have t:=aG (show 0<=1-x by grind) (show 0<=-((lws p):Rat) by grind);have o:=aG e (show 0<=Zc p x-((lws p)) by grind);show((-(c.natAbs)+lws p:Int))<=(c)+x*Zc p x;grind
theorem Yf5(xs:List Int):¬Zuu xs (lws xs):=by rintro⟨x,a,b,c⟩;grind [Zyx]
theorem Yk9(xs:List Int):Zc xs 0=((cf xs 0:Int):Rat):=by
 cases xs with
 | nil=>rfl
 | cons c p=>show(c)+0*Zc p 0=(c);grind
theorem Ybv(xs:List Int):Zuu xs (cf xs 0+1):=by refine⟨0,by rfl,by rfl,?_⟩;grind [Yk9]
theorem Yly{l h:Int}(e:¬Zuu xs l)(g:Zuu xs h):l<h:=by grind [Int.lt_or_le,Ybu]
def Zrf(hs:Sz 40 xs)(i:Nat):(cf xs i).natAbs<1099511627776:=(Qs 40 _).1 (hs i)
theorem Yf1(hs:Sz 40 xs)(o:xs.length<=9)(i:Nat):-9895604649984<=lws (xs.take i)/\lws (xs.take i)<=0:=by
 obtain⟨h,j⟩:=Yf2 (n:=1099511627776) _ λc g=>by
  obtain⟨k,m,rfl⟩:=dG.1 g;have l:=Zrf hs k;have e:(xs.take i)[k]=cf xs k:=by unfold cf;grind
  omega
 grind
structure FlI (xs:List Int) (lo hi:Int):Prop where
 l:¬Zuu xs lo
 h:Zuu xs hi
 b1:-17592186044416<=lo
 b2:hi<=17592186044416
def FlI.lt{e hi:Int}(h:FlI xs e hi):e<hi:=Yly h.l h.h
theorem FlI.start(hs:Sz 40 xs)(e:xs.length<=9)(hi:xs.length<=i):FlI xs (lws (xs.take i)) (cf xs 0+1):=by have g:=Yf1 hs e i;have h:=Zrf hs 0;refine⟨by grind [List.take_of_length_le,Yf5],Ybv xs,O,O⟩
structure Ef (a:R2):Prop where
 p:0<a.2
 b1:bl a.1.natAbs<=512
 b2:bl a.2.natAbs<=512
def E32.ef{a:R2}(h:E32 a):Ef a:=⟨h.p,aB h.b1 O3,aB h.b2 O3⟩
def plx(a b:R2):Int:=a.1*b.2
def ply(a b:R2):Int:=b.1*a.2
def pld(a b:R2):Int:=a.2*b.2
def plc(xs:List Int)(a b:R2):List Int:=Km xs (plx a b) (ply a b-plx a b) (pld a b)
def psum(c:List Int)(d j:Nat)(i:Nat):Int:=Ye (λi=>cf c i*(Py (d-i) (j-i):Int)) i
def plainB(xs:List Int)(a b:R2):Bool:=if xs.length=0 then true else(List.range xs.length).all λj=>decide (0<=psum (plc xs a b) (xs.length-1) j (min (j+1) (plc xs a b).length))
abbrev PTs:=Int×R2×R2
abbrev P0:PTs:=(0,(0,0),(0,0))
abbrev encP9 (z:PTs):Value:= .agg #[.int .i64 z.1,.bool (decide (z.2.1.1<0)),.string (Xn z.2.1.1.natAbs),.bool (decide (z.2.1.2<0)),.string (Xn z.2.1.2.natAbs),.bool (decide (z.2.2.1<0)),.string (Xn z.2.2.1.natAbs),.bool (decide (z.2.2.2<0)),.string (Xn z.2.2.2.natAbs)]
def shw(xs:List Int)(z:PTs):Bool:=if z.1=1 then plainB xs z.2.1 z.2.2 else if xs.length=0\/cmp z.2.1 z.2.2=0 then decide (0<=vlu (Nd xs) z.2.1)else decide (0<aft (Nd xs) z.2.1) && !crb (chx xs) z.2.1 z.2.2
def okpB(xs:List Int)(l:R2)(z:PTs):Bool:=decide (cmp l z.2.1=0) && decide (¬0<cmp z.2.1 z.2.2) && shw xs z
def lst(a:R2)(ps:List PTs)(i:Nat):R2:=if i=0 then a else(ps.getD (i-1) P0).2.2
def chkP(xs:List Int)(ps:List PTs)(a b:R2):Bool:=decide (0<ps.length) && (List.range ps.length).all (λk=>okpB xs (lst a ps k) (ps.getD k P0)) && decide (cmp (lst a ps ps.length) b=0)
def ValP(ps:List PTs):Prop:=∀z∈ps,(z.1=1\/z.1=2)/\Ef z.2.1/\Ef z.2.2
theorem Ef.efit{a:R2}(h:Ef a):Go.Sky.efit a=true:=by have:=h.b1;have:=h.b2;unfold Go.Sky.efit;exact aE O
theorem Xx{b:Bool}(h:(!b)=true):b=false:=by cases b<;>simp_all
theorem Qj{b:Bool}(h:(!b)=false):b=true:=by cases b<;>simp_all
def Hm(f:Nat->Rat):Nat->Rat
 | 0=>0
 | n+1=>Hm f n+f n
def Np(f:Nat->Rat)(n:Nat):Hm f (n+1)=Hm f n+f n:=rfl
theorem Mp{f g:Nat->Rat} : ∀n,(∀i,i<n->f i=g i)->Hm f n=Hm g n
 | 0,_=>rfl
 | n+1,h=>by rw [Np,Np,Mp n λi hi=>h i O,h n O]
theorem Da(f:Nat->Rat):∀n,Hm f (n+1)=f 0+Hm (λi=>f (i+1)) n
 | 0=>by show 0+f 0=f 0+0;grind
 | n+1=>by rw [Np,Da f n,Np];grind
theorem Zj7(f g:Nat->Rat):∀n,Hm (λi=>f i+g i) n=Hm f n+Hm g n
 | 0=>by show(0:Rat)=0+0;grind
 | n+1=>by rw [Np,Np,Np,Zj7 f g n];grind
theorem Fv(c:Rat)(f:Nat->Rat):∀n,Hm (λi=>c*f i) n=c*Hm f n
 | 0=>by show(0:Rat)=c*0;grind
 | n+1=>by rw [Np,Np,Fv c f n];grind
theorem Zlp(n:Nat):Py n 0=1:=by cases n<;>rfl
def chz_s(n k:Nat):Py (n+1) (k+1)=Py n k+Py n (k+1):=rfl
theorem Yi0{u w:Rat}(h:u+w=1):∀n,Hm (λj=>(Py n j:Rat)*(u^j*w^(n-j))) (n+1)=1
 | 0=>by rw [Da];show((Py 0 0:Nat):Rat)*(u^0*w^0)+0=1;rw [Zlp,dM,dM];push_cast;grind
 | n+1=>by
  have e:=Yi0 h n;rw [Da];have g:Hm (λi=>(Py (n+1) (i+1):Rat)*(u^(i+1)*w^(n+1-(i+1)))) (n+1)=Hm (λi=>u*((Py n i:Rat)*(u^i*w^(n-i)))) (n+1)+Hm (λi=>(Py n (i+1):Rat)*(u^(i+1)*w^(n-i))) (n+1):=by rw [<-Zj7];refine Mp _ λi hi=>?_;rw [chz_s,show n+1-(i+1)=n-i by omega,cZ];push_cast;grind
  have k:Hm (λi=>(Py n (i+1):Rat)*(u^(i+1)*w^(n-i))) (n+1)=Hm (λi=>(Py n (i+1):Rat)*(u^(i+1)*w^(n-i))) n:=by rw [Np,Zlo n (n+1) O];push_cast;grind
  have l:w*Hm (λj=>(Py n j:Rat)*(u^j*w^(n-j))) (n+1)=w^(n+1)+Hm (λi=>(Py n (i+1):Rat)*(u^(i+1)*w^(n-i))) n:=by
   rw [<-Fv,Da,Zlp];congr 1
   .rw [iP,dM,cZ];push_cast;grind
   .refine Mp _ λi hi=>?_;rw [show n-i=(n-(i+1))+1 by omega,cZ w];grind
  rw [g,k,Fv,e];rw [e]at l;rw [Zlp,dM,iP];push_cast;grind
def Iu(d:Nat)(c:List Int)(j:Nat):Int:=Ye (λi=>cf c i*(Py (d-i) (j-i):Int)) (j+1)
theorem brS_0(d:Nat)(a:Int)(c:List Int):Iu d (a::c) 0=a:=by unfold Iu;rw [Yr,Fc];show 0+a*((Py (d-0) (0-0):Nat):Int)=a;rw [show 0-0=0 from rfl,Zlp];omega
theorem brS_s(d:Nat)(a:Int)(c:List Int)(j:Nat):Iu (d+1) (a::c) (j+1)=a*(Py (d+1) (j+1):Int)+Iu d c j:=by unfold Iu;rw [Mz];congr 1;refine Xj λi hi=>?_;rw [show d+1-(i+1)=d-i by omega,show j+1-(i+1)=j-i by omega];rfl
theorem Yn0(d j:Nat):Iu d [] j=0:=by unfold Iu;exact(Zgv (m:=0) (bH _) λi _ _=>by rw [show cf [] i=0 from rfl,cN]).trans (Fc _)
theorem bern{u w:Rat}(h:u+w=1):∀(d:Nat) (c:List Int),c.length<=d+1->Hm (λj=>(Iu d c j:Rat)*(u^j*w^(d-j))) (d+1)=Zc c u
 | d,[],_=>by
  rw [Mp (g:=λ_=>0) (d+1) λi hi=>by rw [Yn0];push_cast;grind];show Hm (λ_=>0) (d+1)=0;have:∀n,Hm (λ_=>0) n=0:=λn=>by
   induction n with
   | zero=>rfl
   | succ n k=>rw [Np,k];grind
  exact this _
 | 0,[a],_=>by rw [Np,brS_0];show 0+(a:Rat)*(u^0*w^0)=(a:Rat)+u*0;rw [dM,dM];grind
 | 0,a::b::c,hl=>by simp at hl
 | d+1,a::c,hl=>by
  have k:=bern h d c (by simpa using hl);have e:=Yi0 h (d+1);rw [Da]at e;rw [Da,brS_0];have l:Hm (λi=>(Iu (d+1) (a::c) (i+1):Rat)*(u^(i+1)*w^(d+1-(i+1)))) (d+1)=(a:Rat)*Hm (λi=>(Py (d+1) (i+1):Rat)*(u^(i+1)*w^(d+1-(i+1)))) (d+1)+u*Hm (λj=>(Iu d c j:Rat)*(u^j*w^(d-j))) (d+1):=by rw [<-Fv,<-Fv,<-Zj7];refine Mp _ λi hi=>?_;rw [brS_s,show d+1-(i+1)=d-i by omega,cZ];push_cast;grind
  rw [l,k];show _=(a:Rat)+u*Zc c u;rw [Zlp]at e;push_cast at e ⊢;grind
theorem Du(a:Int):∀(c:List Int) (i:Nat),cf (c.map λx=>a*x) i=a*cf c i
 | [],i=>by rw [iL,show cf [] i=0 from rfl,dY]
 | x::c,0=>rfl
 | x::c,i+1=>Du a c i
theorem Zvf(c:List Int)(a b e:Int)(u:Rat):Zc (mk (c.length+1) λt=>cf c t*a+(if t=0 then e else cf c (t-1)*b)) u=Zc c u*((a:Rat)+(b:Rat)*u)+(e:Rat):=by
 have h:Zc (mk (c.length+1) λt=>cf c t*a+(if t=0 then e else cf c (t-1)*b)) u=Zc (Nz (c.map λx=>a*x) (e::c.map λx=>b*x)) u:=Ng u _ _ λi=>by
  rw [My,Du,Ks]
  match i with
  | 0=>rw [aO O,aO rfl];show cf c 0*a+e=a*cf c 0+e;rw [iQ]
  | i+1=>
   show _=a*cf c (i+1)+cf (c.map λx=>b*x) i;rw [Du];by_cases hi:i<c.length
   .rw [aO O,aJ O,lM,iQ,iQ (cf c i)]
   .rw [aJ O,Yw (p:=c) (i:=i+1) O,Yw (p:=c) (i:=i) O];omega
 rw [h,Xg,Zi];show _+((e:Rat)+u*Zc (c.map λx=>b*x) u)=_;rw [Zi];grind
theorem Zr3(p:List Int)(a b d:Int){t u:Rat}(g:t*(d:Rat)=(a:Rat)+(b:Rat)*u):∀j,j+1<=p.length->Zc (Ke p a b d j) u=(d:Rat)^j*Zc (p.drop (p.length-1-j)) t
 | 0,h=>by
  have e:p.drop (p.length-1-0)=[cf p (p.length-1)]:=by rw [iP,eK O,List.drop_of_length_le O];congr 1;unfold cf;rw [aN,aM O];rfl
  rw [Dj,e,dM,Ps,Ps];grind
 | j+1,h=>by
  have k:=Zr3 p a b d g j O;have e:p.drop (p.length-1-(j+1))=cf p (p.length-2-j)::p.drop (p.length-1-j):=by rw [eK O,show p.length-1-(j+1)+1=p.length-1-j by omega];congr 1;unfold cf;rw [aN,aM O];show p[p.length-1-(j+1)]=p[p.length-2-j];congr 1;omega
  rw [Yck,Zvf,k,e,<-g];show _=(d:Rat)^(j+1)*((cf p (p.length-2-j):Rat)+t*Zc (p.drop (p.length-1-j)) t);rw [cZ];push_cast;rw [cZ];generalize (d:Rat)^j=D;grind
theorem Zj5(a b d:Int){t u:Rat}(g:t*(d:Rat)=(a:Rat)+(b:Rat)*u)(e:p.length≠0):Zc (Km p a b d) u=(d:Rat)^(p.length-1)*Zc p t:=by unfold Km;rw [aJ e,Ng u (tzl _) _ (λi=>Ha _ i),Zr3 p a b d g (p.length-1) O,jE,jP]
def Nl(c:List Int)(a b d:Int):List Int:=Yx (Km (tzl c) a b d) (d^(6-c.length))
def Zlu(h:a.natAbs<=3600000):bl a.natAbs<=22:=(Qs 22 _).2 (aY h O3)
theorem Znt(h:bl d.natAbs<=22):∀k,k<=5->bl (d^k).natAbs<=132
 | 0,_=>by rw [eI];decide
 | k+1,g=>by
  have e:∀k,bl (d^k).natAbs<=22*k+1:=λk=>by
   induction k with
   | zero=>rw [eI];decide
   | succ k j=>rw [eA];have:=Xv (d^k) d;omega
  have:=e (k+1);omega
theorem Zqe(h:∀a∈c,Mw a)(D:1<=c.length/\c.length<=6)(w:a.natAbs<=3600000)(B:b.natAbs<=3600000)(P:1<=d/\d<=3600000) :
  Vp (tzl c)/\¬Zll (tzl c) a b d/\Vp (Km (tzl c) a b d)/\bl (d^(6-c.length)).natAbs<=132/\(∀i,bl (cf (Km (tzl c) a b d) i*d^(6-c.length)).natAbs<=65536)/\Vp (Nl c a b d)/\Sz 1000 (Nl c a b d)/\(Nl c a b d).length<=6:=by
 have H:(tzl c).length<=6:=aB (Hj c) D.2;have n:Sz 64 (tzl c):=(ab_in h).sz O3;have o:=Zlu w;have r:=Zlu B;have g:bl d.natAbs<=22:=Zlu O;have l:=cp_not (cp_nf n o r g O O);have hs:Sz 300 (Km (tzl c) a b d):=by
  have h:=Zii (x:=a) (y:=b) (z:=d) (m:=22) n o r g ((tzl c).length-1);unfold Km;split
  .exact Sz.nil _
  .refine(Sz.tzl h).mono ?_;have:((tzl c).length-1)*(22+1)<=5*23:=aS O O;omega
 have G:Tr (Km (tzl c) a b d):=by
  unfold Km;split
  .exact .inl rfl
  .exact Qp _
 have j:(Km (tzl c) a b d).length<=6:=aB (Zeo _ _ _ _) H;have F:=Znt g (6-c.length) O;have t:∀i,bl (cf (Km (tzl c) a b d) i*d^(6-c.length)).natAbs<=500:=λi=>by have I:=hs i;have N:=Xv (cf (Km (tzl c) a b d) i) (d^(6-c.length));omega
 have e:Sz 1000 (Nl c a b d):=λi=>by unfold Nl;rw [Qm];have:=t i;omega
 have k:(Nl c a b d).length<=6:=aB Lt j;exact⟨⟨n.mono O,Qp _,O⟩,l,⟨hs.mono O,G,O⟩,F,λi=>by have:=t i;omega,⟨e.mono O,Nn _ _,O⟩,e,k⟩
def Zsg(zs:List (SL×List Int)):List (SL×List Int):=zs ++ List.replicate (3-zs.length) ((none,0,0),[])
theorem Yf8(h:zs.length<=3):(Zsg zs).length=3:=by unfold Zsg;rw [cF,aT];omega
theorem Ye9{z:SL×List Int}(hi:i<3)(h:zs.length=i):(Zsg zs).set i z=Zsg (zs ++ [z]):=by subst h;unfold Zsg;rw [List.set_append_right _ _ (aI _),jE,cF,fQ];congr 1;obtain⟨k,e⟩:∃k,3-zs.length=k+1:=⟨2-zs.length,O⟩;rw [e,iB,lH,show 3-(zs.length+[z].length)=k by simp;omega];rfl
theorem Zub{t:Nat}{f:Nat->List Int}(g:zs.length=i)(h:∀t,t<i->(zs.getD t d0).2=f t)(j:t<i+1):((zs ++ [(s,f i)]).getD t d0).2=f t:=by
 subst g;rw [aN];rcases aC.1 j with e|e
 .rw [eX e,<-aN];exact h t e
 .subst e;simp
theorem Yda{x:List Int}(k:zs.length=3)(h:∀t,t<3->(zs.getD t d0).2=Nl (Yg t x y z) a b d):∃l m n:SL,zs=[(l,Nl x a b d),(m,Nl y a b d),(n,Nl z a b d)]:=by
 match zs,k with
 | [o,r,w],_=>
  have e:=h 0 O3;have g:=h 1 O3;have j:=h 2 O3;simp [Yg]at e g j;exact⟨o.1,r.1,w.1,by rw [<-e,<-g,<-j]⟩
def Yh0:List Int->List Int
 | []=>[]
 | a::p=>a::0::Yh0 p
theorem Zom(x:Rat):∀p:List Int,Zc (Yh0 p) x=Zc p (x*x)
 | []=>rfl
 | a::p=>by show(a:Rat)+x*(((0:Int):Rat)+x*Zc (Yh0 p) x)=(a:Rat)+x*x*Zc p (x*x);rw [Zom x p];push_cast;grind
theorem Zwv:∀(p:List Int) (i:Nat),cf (Yh0 p) (2*i)=cf p i
 | [],i=>rfl
 | a::p,0=>rfl
 | a::p,i+1=>by show cf (0::Yh0 p) (2*i+1)=cf p i;exact Zwv p i
theorem sq_nn(x:Rat):0<=x*x:=by
 rcases(show 0<=x\/x<=0 by grind)with h|h
 .exact aG h h
 .have:=aG (show 0<=-x by grind) (show 0<=-x by grind);grind
theorem Zr2(h:∀x:Rat,0<=x->Zc p x=Zc q x)(i:Nat):cf p i=cf q i:=by rw [<-Zwv p,<-Zwv q];exact Mi (λx=>by rw [Zom,Zom];exact h _ (sq_nn x)) _
theorem Zip(f:Nat->Int)(x:Rat):∀n,Zc (mk n f) x=Hm (λj=>(f j:Rat)*x^j) n
 | 0=>rfl
 | n+1=>by rw [Ylx,Zr1,Zip f x n,Yy,Np]
def NN(p:List Int):Prop:=∀i,0<=cf p i
theorem NN.smul{c:Int}(e:0<=c)(h:NN p):NN (p.map λa=>c*a):=λi=>by rw [Du];exact cY e (h i)
theorem NN.add(e:NN p)(g:NN q):NN (Nz p q):=λi=>by rw [My];exact Int.add_nonneg (e i) (g i)
theorem NN.lmul{q:List Int}(e:NN q):∀{p:List Int},NN p->NN (lmul p q)
 | [],_=>λi=>by show 0<=cf [] i;rw [show cf [] i=0 from rfl];exact eV _
 | c::p,h=>NN.add (NN.smul (h 0) e) λi=>by
  match i with
  | 0=>exact eV _
  | i+1=>exact NN.lmul e (p:=p) (λj=>h (j+1)) i
def lpw(l:List Int):Nat->List Int
 | 0=>[1]
 | k+1=>lmul l (lpw l k)
theorem Zoj(l:List Int)(x:Rat):∀k,Zc (lpw l k) x=Zc l x^k
 | 0=>by rw [dM];show((1:Int):Rat)+x*0=1;push_cast;grind
 | k+1=>by rw [show lpw l (k+1)=lmul l (lpw l k)from rfl,Zy,Zoj l x k,cZ,kF]
theorem NN.lpw{l:List Int}(h:NN l):∀k,NN (lpw l k)
 | 0=>λi=>by
  show 0<=cf [1] i
  match i with
  | 0=>exact Int.one_nonneg
  | i+1=>exact eV _
 | k+1=>NN.lmul (NN.lpw h k) h
theorem NN.two(e:0<=a)(g:0<=b):NN [a,b]:=λi=>by
 match i with
 | 0=>exact e
 | 1=>exact g
 | i+2=>exact eV _
def sQ(f:Nat->Int)(W:Nat->List Int):Nat->List Int
 | 0=>[]
 | k+1=>Nz (sQ f W k) ((W k).map λa=>f k*a)
theorem Zvd(f:Nat->Int)(W:Nat->List Int)(x:Rat):∀k,Zc (sQ f W k) x=Hm (λi=>(f i:Rat)*Zc (W i) x) k
 | 0=>rfl
 | k+1=>by rw [show sQ f W (k+1)=Nz (sQ f W k) ((W k).map λa=>f k*a)from rfl,Xg,Zvd f W x k,Zi,Np]
theorem sQ_le{f g:Nat->Int}{W:Nat->List Int}{B:Int}(l:∀i,NN (W i)):∀k,(∀i,i<k->((f i).natAbs:Int)<=B*g i)->∀j,((cf (sQ f W k) j).natAbs:Int)<=B*cf (sQ g W k) j
 | 0,_,j=>by show((cf [] j).natAbs:Int)<=B*cf [] j;rw [show cf [] j=0 from rfl];simp
 | k+1,h,j=>by
  have w:=sQ_le l k (λi hi=>h i O) j;have m:=h k O;show((cf (Nz (sQ f W k) ((W k).map λa=>f k*a)) j).natAbs:Int)<=B*cf (Nz (sQ g W k) ((W k).map λa=>g k*a)) j;rw [My,My,Du,Du,jW,<-fR];have n:=l k j;have o:((f k*cf (W k) j).natAbs:Int)<=B*g k*cf (W k) j:=by rw [bQ];push_cast;have e:((cf (W k) j).natAbs:Int)=cf (W k) j:=O;rw [e];exact eJ m n
  generalize B*g k*cf (W k) j=t at *;generalize f k*cf (W k) j=s at *;generalize B*cf (sQ g W k) j=r at *;omega
theorem Zkn(a b:Rat):∀n:Nat,(a*b)^n=a^n*b^n
 | 0=>by rw [dM,dM,dM];grind
 | n+1=>by rw [cZ,cZ,cZ,Zkn a b n];grind
theorem Yat(a:Rat)(m:Nat):∀n:Nat,a^(m+n)=a^m*a^n
 | 0=>by rw [fY,dM];grind
 | n+1=>by rw [<-iD,cZ,cZ,Yat a m n];grind
theorem Yi1{U V S:Rat}(h:U+V=S)(m:S≠0){d:Nat}(l:c.length<=d+1):Hm (λj=>(Iu d c j:Rat)*(U^j*V^(d-j))) (d+1)=S^d*Zc c (U/S):=by
 rw [<-bern (u:=U/S) (w:=V/S) (by rw [<-h];grind) d c l,<-Fv];refine Mp _ λj n=>?_;have e:U^j=S^j*(U/S)^j:=by rw [<-Zkn];congr 1;grind
 have g:V^(d-j)=S^(d-j)*(V/S)^(d-j):=by rw [<-Zkn];congr 1;grind
 have k:S^d=S^j*S^(d-j):=by rw [<-Yat];congr 1;omega
 rw [e,g,k];grind
theorem Yao{U V S:Rat}(h:U+V=S)(l:S≠0)(d:Nat):Hm (λj=>(Py d j:Rat)*(U^j*V^(d-j))) (d+1)=S^d:=by
 have:=Yi0 (u:=U/S) (w:=V/S) (by rw [<-h];grind) d;rw [<-Rat.mul_one (S^d),<-this,<-Fv];refine Mp _ λj m=>?_;have e:U^j=S^j*(U/S)^j:=by rw [<-Zkn];congr 1;grind
 have g:V^(d-j)=S^(d-j)*(V/S)^(d-j):=by rw [<-Zkn];congr 1;grind
 have k:S^d=S^j*S^(d-j):=by rw [<-Yat];congr 1;omega
 rw [e,g,k];grind
theorem Zx5(a b:Int)(x:Rat):Zc [a,b] x=(a:Rat)+(b:Rat)*x:=by show(a:Rat)+x*((b:Rat)+x*0)=_;grind
theorem onepw(n:Nat):(1:Rat)^n=1:=by
 induction n with
 | zero=>rw [dM]
 | succ n e=>rw [cZ,e];grind
theorem Zc0(d:Int)(n:Nat):((d^n:Int):Rat)=(d:Rat)^n:=by
 induction n with
 | zero=>rw [eI,dM];rfl
 | succ n e=>rw [eA,cZ,<-e];push_cast;rfl
def Wij(a e d:Int)(n i:Nat):List Int:=lmul (lpw [a,e] i) (lpw [d-a,d-e] (n-i))
def Wij_nn{e:Int}(g:0<=a)(h:0<=e)(j:a<=d)(k:e<=d)(n i:Nat):NN (Wij a e d n i):=NN.lmul (NN.lpw (NN.two O O) _) (NN.lpw (NN.two g h) _)
theorem Zx6(a e d:Int)(n i:Nat)(x:Rat):Zc (Wij a e d n i) x=((a:Rat)+(e:Rat)*x)^i*(((d-a:Int):Rat)+((d-e:Int):Rat)*x)^(n-i):=by unfold Wij;rw [Zy,Zoj,Zoj,Zx5,Zx5]
theorem Yn2 {X:List Int} {n m:Nat} (hl:c.length<=n+1) (hX:X.length<=n+1) {B:Int} (ha:0<=a) (hb:0<=b) (N:a+b<=d) (R:0<d) (hr:∀t u:Rat,t*(d:Rat)=(a:Rat)+(b:Rat)*u->Zc X u=(d:Rat)^m*Zc c t)
  (hB:∀j,j<n+1->((Iu n c j).natAbs:Int)<=B*(Py n j:Int)):∀j,j<n+1->((Iu n X j).natAbs:Int)<=B*d^m*(Py n j:Int):=by
 have a0:(0:Rat)<(d:Rat):=by exact_mod_cast R
 have k:∀x:Rat,0<=x->(x+1)≠0:=λx e h=>O4;have o:∀x:Rat,((a:Rat)+((a+b:Int):Rat)*x)+(((d-a:Int):Rat)+((d-(a+b):Int):Rat)*x)=(d:Rat)*(x+1):=λx=>by push_cast;grind
 have l:∀x:Rat,0<=x->(d:Rat)*(x+1)≠0:=λx e h=>by have:=aV a0 (show(0:Rat)<x+1 by grind);grind
 have a1:∀x:Rat,0<=x->Zc (sQ (λi=>(Py n i:Int)) (Wij a (a+b) d n) (n+1)) x=Zc (mk (n+1) λj=>d^n*(Py n j:Int)) x:=λx e=>by
  rw [Zvd,Zip];have F:=Yao (o x) (l x e) n;have G:=Yao (U:=x) (V:=1) (S:=x+1) rfl (k x e) n;have H:Hm (λi=>(((Py n i:Nat):Int):Rat)*Zc (Wij a (a+b) d n i) x) (n+1)=((d:Rat)*(x+1))^n:=by rw [<-F];exact Mp _ λj w=>by rw [Zx6];push_cast;rfl
  rw [H,Zkn,<-G,<-Fv];refine Mp _ λj w=>?_;rw [onepw];push_cast;rw [<-Zc0];push_cast;grind
 have a2:∀x:Rat,0<=x->Zc (mk (n+1) λj=>d^n*Iu n X j) x=Zc ((sQ (Iu n c) (Wij a (a+b) d n) (n+1)).map λq=>d^m*q) x:=λx e=>by
  rw [Zi,Zvd,Zip];have F:=Yi1 (o x) (l x e) hl;have G:=Yi1 (U:=x) (V:=1) (S:=x+1) rfl (k x e) hX;have H:Hm (λi=>((Iu n c i:Int):Rat)*Zc (Wij a (a+b) d n i) x) (n+1)=((d:Rat)*(x+1))^n*Zc c (((a:Rat)+((a+b:Int):Rat)*x)/((d:Rat)*(x+1))):=by rw [<-F];exact Mp _ λj w=>by rw [Zx6]
  have e4:Hm (λj=>((d^n*Iu n X j:Int):Rat)*x^j) (n+1)=(d:Rat)^n*Hm (λj=>(Iu n X j:Rat)*(x^j*1^(n-j))) (n+1):=by rw [<-Fv];refine Mp _ λj w=>?_;rw [onepw,<-Zc0];push_cast;grind
  rw [H,e4,G,hr (((a:Rat)+((a+b:Int):Rat)*x)/((d:Rat)*(x+1))) (x/(x+1)) ?_,Zkn,Zc0]
  .grind
  .have I:=k x e;have D:(d:Rat)≠0:=O4;push_cast;grind
 have P:=Zr2 a1;have Q:=Zr2 a2;intro j w;have I:=P j;have D:=Q j;rw [Ks,aO w]at I D;rw [Du]at D;have h3:=sQ_le (f:=Iu n c) (g:=λi=>(Py n i:Int)) (W:=Wij a (a+b) d n) (B:=B) (Wij_nn ha O O N n) (n+1) hB j;rw [I]at h3;have Z:0<d^n:=iI R;have Y:0<=d^m:=dZ (iI R);have h4:((d^n*Iu n X j).natAbs:Int)=d^n*((Iu n X j).natAbs:Int):=by rw [bQ];push_cast;rw [show((d^n).natAbs:Int)=d^n by omega]
 have h5:((d^m*cf (sQ (Iu n c) (Wij a (a+b) d n) (n+1)) j).natAbs:Int)=d^m*((cf (sQ (Iu n c) (Wij a (a+b) d n) (n+1)) j).natAbs:Int):=by rw [bQ];push_cast;rw [show((d^m).natAbs:Int)=d^m by omega]
 have h6:=fW h3 Y;rw [<-h5,<-D,h4]at h6;refine jT (a:=d^n) ?_ Z;refine kG h6 (Int.le_of_eq ?_);generalize d^n=p;generalize d^m=q;generalize (Py n j:Int)=r;grind
theorem Yb2{s:Bool}(j:x.natAbs<=9223372036854775807)(h:sg s x):(x=0/\dg U x.natAbs=[])\/(s=true/\x<0/\dg U x.natAbs=[x.natAbs])\/(s=false/\0<x/\dg U x.natAbs=[x.natAbs]):=by
 have g:x.natAbs≠0->dg U x.natAbs=[x.natAbs]:=λk=>by have e:x.natAbs<U:=aY j O3;rw [Zcr O3 O,bG e,dS e];rfl
 rcases lY x 0 with q|q|q
 .right;left;refine⟨?_,q,g O⟩;cases s
  .have:=h.2 rfl;omega
  .rfl
 .subst q;exact .inl ⟨rfl,rfl⟩
 .right;right;refine⟨?_,q,g O⟩;cases s
  .rfl
  .have:=h.1 rfl;omega
theorem int_wn(e:x.natAbs<=9223372036854775807)(h:x<0):IntKind.i64.wrap (18446744073709551616-(x.natAbs:Int))=x:=by simp only [IntKind.wrap,IntKind.bits,IntKind.signed];simp;omega
theorem int_wp(e:x.natAbs<=9223372036854775807)(h:0<x):IntKind.i64.wrap ((([x.natAbs]:List Nat).getD 0 0:Nat):Int)=x:=by show IntKind.i64.wrap (x.natAbs:Int)=x;rw [Zec ⟨O,O⟩];omega
theorem int_d0(e:x.natAbs<=9223372036854775807):¬((([x.natAbs]:List Nat).getD 0 0:Nat):Int)>=9223372036854775808:=by show ¬(x.natAbs:Int)>=_;omega
theorem Ygc(e:x.natAbs<=9223372036854775807):¬((([x.natAbs]:List Nat).getD 0 0:Nat):Int)>9223372036854775808:=by show ¬(x.natAbs:Int)>_;omega
theorem int_m(h:x<0)(e:x.natAbs<=9223372036854775807):(-((([x.natAbs]:List Nat).getD 0 0:Nat):Int))%18446744073709551616=18446744073709551616-(x.natAbs:Int):=by show(-(x.natAbs:Int))%_=_;omega
abbrev Ygz (o:Nat) (m:Int) (g:Ze):List Int:=formP o m g.1.2.2 (g.1.2.1-g.1.1) g.2.1.2 g.2.2.1.2 g.2.2.2.2
def Yga(o:Nat)(ps:List Ze)(m:Int):Bool:=ps.all λg=>!Zen (Ygz o m g)
def Ykn(p:Nat->Bool):Nat->Nat->Nat->Nat
 | 0,i,_=>i
 | f+1,i,j=>if i<j then(if p ((i+j)/2)then Ykn p f i ((i+j)/2)else Ykn p f ((i+j)/2+1) j)else i
def Ykf(o:Nat)(ps:List Ze):Nat:=Ykn (λn=>Yga o ps (n:Int)) 14 0 10001
def joG(g h:Ze):Bool:=joinB g.1.1 g.1.2.1 g.1.2.2 g.2.1.2 g.2.2.1.2 g.2.2.2.2 h.1.1 h.1.2.1 h.1.2.2 h.2.1.2 h.2.2.1.2 h.2.2.2.2
def joAll(ps:List Ze):Bool:=(List.range ps.length).all λi=>decide (i=0) || joG (ps.getD (i-1) G0) (ps.getD i G0)
def topV(ps:List Ze):Int×Int×Int:=
 if 10000<Ykf 1 ps\/10000<Ykf 2 ps then(0,0,3)else if joAll ps then((Ykf 1 ps:Int),(Ykf 2 ps:Int),0)else(0,0,10)
theorem Zyf{ps:List Ze}(l:∀g∈ps,Gin g)(k:Xb ps=true):∀g∈ps,SgG g:=λg j=>by obtain⟨i,hi,e⟩:=dG.1 j;have h:=Cu ((Oi k).1 i hi);rw [aN,aM hi,eY,e]at h;exact Ib (l g j) h
def g8(g:Ze):Bool:=decide (g.2.1.2.length<=8) && decide (g.2.2.1.2.length<=8) && decide (g.2.2.2.2.length<=8)
def fewB(ps:List Ze)(m:Nat):Bool:=(List.range ps.length).all (λi=>decide (m<i) || g8 (ps.getD i G0)) && decide (ps.length<=m)
def axc(c:List Int):Bool:=!(decide (1<=c.length) && decide (c.length<=6) && !(decide (1<c.length) && decide (c.getD (c.length-1) 0=0)))
variable {P:Program} {N:Nat} {sc:Nat->Prop} {env env':Qi} {H H':Hp}
def Ch(c:List Int)(g:Int):List Int:=if c.length=0 then [0]else c.map (· / g)
def mdO(ov g:Int):Int:=if ov/g<=4294967296 then ov/g else 0
def mdL(ov g:Int)(c:List Int):List Int:=if ov/g<=4294967296 then Ch c g else []
def Fk(ov:Int)(x y z:List Int):Int:=Lk ov (Ii 3 x y z)
structure Mdh (ov:Int) (x y z:List Int):Prop where
 o:0<ov
 b:bl ov.natAbs<=1000
 s:∀i,Sz 1000 (Yg i x y z)
 l:∀i,(Yg i x y z).length<=6
 c:∀i k,(cf (Yg i x y z) k).natAbs<=ov.natAbs*2146435072
def Zf2:∀(l:List Int) (g:Int),0<=g->0<=Lk g l
 | [],_,h=>h
 | x::l,g,h=>Zf2 l _ (jQ _)
theorem Zze:∀(l:List Int) (g:Int),Lk g l∣g/\∀x∈l,Lk g l∣x
 | [],g=>⟨kE _,λx h=>nomatch h⟩
 | x::l,g=>by
  obtain⟨j,k⟩:=Zze l _;exact⟨fB j (Int.gcd_dvd_left ..),λy e=>by
   rcases aU.1 e with rfl|e
   .exact fB j (iN ..)
   .exact k y e⟩
theorem Zvq{x:List Int}(hi:i<3)(h:a∈Yg i x y z):a∈Ii 3 x y z:=by
 match i,hi with
 | 0,_=>exact cT.2 (.inl (cT.2 (.inl h)))
 | 1,_=>exact cT.2 (.inl (cT.2 (.inr h)))
 | 2,_=>exact cT.2 (.inr h)
theorem Mdh.g{x:List Int}(h:Mdh ov x y z):0<Fk ov x y z/\Fk ov x y z∣ov/\∀i,i<3->∀a∈Yg i x y z,Fk ov x y z∣a:=by
 obtain⟨e,g⟩:=Zze _ ov;have j:=Zf2 (Ii 3 x y z) ov (dZ h.o);have l:=h.o;refine⟨?_,e,λi hi a k=>g a (Zvq hi k)⟩;rcases Int.lt_or_eq_of_le j with q|q
 .exact q
 .exact absurd (Int.zero_dvd.1 (q▸e)) O
theorem Mdh.fc{x:List Int}(h:Mdh ov x y z)(i k:Nat):bl (Lk (Lk ov (Ii i x y z)) ((Yg i x y z).take k)).natAbs<=1000:=by
 have g:∀i,∀a∈Yg i x y z,bl a.natAbs<=1000:=λi a e=>by obtain⟨j,r⟩:=eN.1 e;have:=h.s i j;unfold cf at this;grind
 have o:∀a∈Ii i x y z,bl a.natAbs<=1000:=λa e=>by unfold Ii at e;have l:=g 0;have m:=g 1;have n:=g 2;simp only [Yg]at l m n;grind
 exact Zgi (λa e=>g i a (fP e)) (Zgi o h.b)
theorem Mdh.fit{x:List Int}(h:Mdh ov x y z)(hs:ov/Fk ov x y z<=4294967296)(hi:i<3)(k:Nat):((Yg i x y z).getD k 0/Fk ov x y z).natAbs<=9223372036854775807:=by
 obtain⟨m,⟨s,e⟩,n⟩:=h.g;have o:Fk ov x y z∣(Yg i x y z).getD k 0:=by
  rcases aW k _ with q|q
  .exact n i hi _ (Zj q)
  .rw [aN,cP q];exact jF _
 obtain⟨t,l⟩:=o;have j:((Yg i x y z).getD k 0).natAbs<=ov.natAbs*2146435072:=h.c i k;generalize Fk ov x y z=g at *;rw [l,fA _ O];rw [e,fA _ O]at hs;rw [l,e,bQ,bQ,eQ]at j;have w:=Nat.le_of_mul_le_mul_left j O;have B:=h.o;have r:0<s:=by
  by_cases q:0<s
  .omega
  .have:=fG (dZ m) (show s<=0 by omega);omega
 omega
def mdO_t{g:Int}(h:ov/g<=4294967296):mdO ov g=ov/g:=aO h
def Zm6{g:Int}(h:ov/g<=4294967296):mdL ov g c=Ch c g:=aO h
def mdO_f{g:Int}(h:¬ov/g<=4294967296):mdO ov g=0:=aJ h
def Yfx{g:Int}(h:¬ov/g<=4294967296):mdL ov g c=[]:=aJ h
def dvL_0{g:Int}(h:c.length=0):Ch c g=[0]:=aO h
def dvL_n{g:Int}(h:c.length≠0):Ch c g=c.map (· / g):=aJ h
theorem Yfz{g:Int}{k:Nat}(h:k<c.length):(c.take k).map (· / g) ++ [c.getD k 0/g]=(c.take (k+1)).map (· / g):=by rw [Pp 0 _ _ h,dV];rfl
abbrev C6 (a b c:Value) (f:Nat->Value):Array Value:=#[a,b,c,f 0,f 1,f 2]
def upd(f:Nat->Value)(i:Nat)(v:Value)(j:Nat):Value:=if j=i then v else f j
theorem c6_get{a b c:Value}(h:i<3):(C6 a b c f)[3+i]? = some (f i):=by
 match i,h with
 | 0,_=>rfl
 | 1,_=>rfl
 | 2,_=>rfl
theorem Yis{a b c:Value}(h:i<3):(C6 a b c (upd f i v))[3+i]? = some v:=by rw [c6_get h];unfold upd;simp
theorem c6_lay{a b c:Value}(h:i<3):Gq (C6 a b c (upd f i u)) (3+i) [v]=C6 a b c (upd f i v):=by
 match i,h with
 | 0,_=>rfl
 | 1,_=>rfl
 | 2,_=>rfl
theorem Zwx{a b c:Value}{g:Nat->Value}(h:∀j,j<3->f j=g j):C6 a b c f=C6 a b c g:=by grind
theorem p3_sel{b:Nat}(h:i<3):Yg i (Value.pointer (some ⟨b,3,none⟩)) (Value.pointer (some ⟨b,4,none⟩)) (Value.pointer (some ⟨b,5,none⟩))= .pointer (some ⟨b,3+i,none⟩):=by
 match i,h with
 | 0,_=>rfl
 | 1,_=>rfl
 | 2,_=>rfl
theorem c3_get{a b c:Value}(h:i<3):(#[a,b,c]:Array Value)[0+i*1]? = some (Yg i a b c):=by
 match i,h with
 | 0,_=>rfl
 | 1,_=>rfl
 | 2,_=>rfl
def fz(zs:List (SL×List Int))(j:Nat):Value:=Yz (zs.getD j ((none,0,0),[])).1
theorem fz_upd(h:zs.length=i)(j:Nat):fz zs j=upd (fz zs) i (.slice none 0 0) j:=by
 unfold upd;split
 .rename_i e;subst e;subst h;unfold fz;simp
 rfl
theorem Zzg(h:zs.length=i)(j:Nat):upd (fz zs) i (Yz s) j=fz (zs ++ [(s,c)]) j:=by unfold upd fz;grind
def Zsr{t:Nat}{f:Nat->List Int}(g:zs.length=i)(h:∀t,t<i->(zs.getD t d0).2=f t)(e:c=f i)(j:t<i+1):((zs ++ [(s,c)]).getD t d0).2=f t:=e▸Zub g h j
theorem mds_of{x:List Int}{g:Int}(l:zs.length=3)(h:∀t,t<3->(zs.getD t d0).2=Ch (Yg t x y z) g):∃m n o:SL,zs=[(m,Ch x g),(n,Ch y g),(o,Ch z g)]:=by
 match zs,l with
 | [r,w,B],_=>
  have e:=h 0 O;have j:=h 1 O;have k:=h 2 O;simp [Yg]at e j k;grind
def Yd8 : 0<(a-b).sign↔¬a<=b:=O6
theorem t_st6 (i:Nat)(n:Nat)  {o:Oper} {x y:Operand} {t k:TypeId} {b:Nat} {g h j:Value}   {w0:World}  (I:o.op= .store t x y) (D:o.dst=none)
  (R:ev env x=some (.pointer (some ⟨b,3+n,none⟩))) (S:ev env y=some v) (r:lk H i=some (box b k (C6 g h j (upd f n u)))) (e:i≠0) (F:∀w,(sizeOf t).run P w= .ok 1 w) (V:n<3) (m:One N sc env H v)
  (l:lk H 0=some (Zt w0 M0)) (Q:∀b,w0.heap.size<=b->sc b) (B:M b) :
  T P N sc M o env H (G:=Unit) (λ_=>True) (λ_=>env) (λ_=>(i,box b k (C6 g h j (upd f n v)))::H):=by
 have:=t_stp1 I D R S r e F (by simp<;>omega) m l Q B;grind [c6_lay]
theorem bl_dlq{n:Nat}(h:bl a.natAbs<=n)(j:0<b)(e:0<=a):bl (a/b).natAbs<=n:=(Qs n _).2 (aY (by have g:=jZ b e;grind [Int.ediv_nonneg,Int.le_of_lt]) ((Qs n _).1 h))
theorem Ygx{n:Nat}(h:∀z∈zs,∀b,(Yz z.1).ownBlock=some b->n<=b)(e:∀b,(Yz s).ownBlock=some b->n<=b):∀z∈zs ++ [(s,c)],∀b,(Yz z.1).ownBlock=some b->n<=b:=λz g=>by grind
theorem fr3{n:Nat}{g j k:SL}{l m o l3:List Int}(h:∀z∈[(g,l),(j,m),(k,o)],∀b,(Yz z.1).ownBlock=some b->n<=b):∀p∈[Yn 1 Xh (Yz g) l1,Yn 1 Xh (Yz j) l2,Yn 1 Xh (Yz k) l3],∀b,p.fp b->n<=b:=λp r b e=>by
 simp only [aU,cS,fF]at r;rcases r with rfl|rfl|rfl
 .exact h (g,l) O6 b e.2
 .exact h (j,m) O6 b e.2
 .exact h (k,o) O6 b e.2
theorem fr0{n:Nat}{l3:List Int} : ∀p∈[Yn 1 Xh (Yz (none,0,0)) l1,Yn 1 Xh (Yz (none,0,0)) l2,Yn 1 Xh (Yz (none,0,0)) l3],∀b,p.fp b->n<=b:=λp e b g=>by simp only [aU,cS,fF]at e;rcases e with rfl|rfl|rfl<;>cases g.2
end Go.Sky
namespace Go.Sky
variable{p:Ze->Bool}{i b k off:Nat}{d ov a G m:Int}{c xs:List Int}{x y:Operand}{t tb:TypeId}{zs:List Ze}{o:Oper}{r:List Value}{v:Value}{w0 w:World}{M0:Nat->Prop}{kd:IntKind}
abbrev Zhs:=(Int×Int×Int)×List Int×List Int×List Int
def Dq(g:Ze):Zhs:=(g.1,g.2.1.2,g.2.2.1.2,g.2.2.2.2)
abbrev cA (fr:Int) (g:Ze):Int:=max fr g.1.1
abbrev cB (e:Int) (g:Ze):Int:=min e g.1.2.1
abbrev cX (fr e:Int) (g:Ze) (c:List Int):List Int:=Nl c (cA fr g-g.1.1) (cB e g-cA fr g) (g.1.2.1-g.1.1)
abbrev cO (g:Ze):Int:=g.1.2.2*(g.1.2.1-g.1.1)^5
def cG(fr e:Int)(g:Ze):Int:=Fk (cO g) (cX fr e g g.2.1.2) (cX fr e g g.2.2.1.2) (cX fr e g g.2.2.2.2)
def Ln(fr e:Int)(g:Ze):Bool:=decide (cA fr g<cB e g)
def Zgf(fr e:Int)(g:Ze):Bool:=decide (cO g/cG fr e g<=4294967296)
def Zwn(fr e:Int)(g:Ze):Zhs:=((cA fr g,cB e g,mdO (cO g) (cG fr e g)),mdL (cO g) (cG fr e g) (cX fr e g g.2.1.2),mdL (cO g) (cG fr e g) (cX fr e g g.2.2.1.2),mdL (cO g) (cG fr e g) (cX fr e g g.2.2.2.2))
def MdG(fr e:Int)(g:Ze):Prop:=Mdh (cO g) (cX fr e g g.2.1.2) (cX fr e g g.2.2.1.2) (cX fr e g g.2.2.2.2)
theorem fl_get{ps:List Ze}{d:Ze}(hi:i<ps.length)(f:p (ps.getD i d)=true):(ps.filter p)[((ps.take i).filter p).length]? = some (ps.getD i d):=by
 have h:=fJ i ps;have e:ps.drop i=ps.getD i d::ps.drop (i+1):=by rw [aN,aM hi,eY];exact eK hi
 conv=>lhs;arg 1;rw [<-h,e]
 rw [fI,eE f];simp
theorem fl_t{ps:List Ze}{d:Ze}(hi:i<ps.length)(e:p (ps.getD i d)=true):((ps.take (i+1)).filter p).length=((ps.take i).filter p).length+1:=by rw [Pp d _ _ hi,fI,eE e,cF];rfl
theorem fl_f{ps:List Ze}{d:Ze}(hi:i<ps.length)(e:p (ps.getD i d)=false):((ps.take (i+1)).filter p).length=((ps.take i).filter p).length:=by rw [Pp d _ _ hi,fI,fV (by rw [e];exact bF),cF];rfl
def Zmy(h:1<=d/\d<=3600000):bl (d^5).natAbs<=132:=Znt (Zlu O) 5 (aI _)
theorem Yh9{W:Nat}{H:Hp}{l n q:SL}{g j l3:List Int}(h:∀p∈[Yn 1 Xh (Yz l) g,Yn 1 Xh (Yz n) j,Yn 1 Xh (Yz q) l3],∀b,p.fp b->W<=b)(i:Nat)(u:lk H i=some (Yn 1 Xh (Yz l) g))(z:lk H (i+1)=some (Yn 1 Xh (Yz n) j))(B:lk H (i+2)=some (Yn 1 Xh (Yz q) l3)) :
  ∀p∈[Yn 1 Xh (Yz l) g,Yn 1 Xh (Yz n) j,Yn 1 Xh (Yz q) l3],p.own=false/\(∀b,p.fp b->W<=b)/\∃i s,lk H i=some s/\∀w,s.holds w->p.holds w:=λp f=>by
 have e:=h p f;simp only [aU,cS,fF]at f;rcases f with rfl|rfl|rfl
 .exact⟨rfl,e,_,_,u,λ_ h=>h⟩
 .exact⟨rfl,e,_,_,z,λ_ h=>h⟩
 .exact⟨rfl,e,_,_,B,λ_ h=>h⟩
theorem cut_b{fr f:Int}{g:Ze}(e:SgG g)(h:Ln fr f g=true):(cA fr g-g.1.1).natAbs<=3600000/\(cB f g-cA fr g).natAbs<=3600000/\Mw (cA fr g-g.1.1)/\Mw (cB f g-cA fr g):=by have q:=cH h;have j:=e.t1;have l:=e.t2;have n:=e.t3;unfold cA cB at *;exact⟨O,O,⟨O,O⟩,⟨O,O⟩⟩
def Yj4:∀n,n<6->∀j,j<n+1->∀k,k<j+1->(Py n j:Int)*w60 n j k=60*(Py (n-k) (j-k):Int):=O3
theorem Zef(f:Nat->Int)(a:Int):∀m,Ye (λk=>a*f k) m=a*Ye f m
 | 0=>by show(0)=a*0;simp
 | m+1=>by rw [Yr,Yr,Zef f a m,jW]
theorem Ync(g:1<=c.length/\c.length<=6){j:Nat}(e:j<c.length):(Py (c.length-1) j:Int)*ctl c j (j+1)=60*Iu (c.length-1) c j:=by unfold ctl Iu;rw [<-Zef,<-Zef];refine Xj λk f=>?_;have:=Yj4 (c.length-1) O j O k O;show(Py _ j)*(cf c k*w60 _ j k)=60*(cf c k*_);grind
theorem Yil{n j:Nat}(h:j<n+1):(0:Int)<(Py n j:Int):=by grind [Zqf]
theorem Yak(z:1<=c.length/\c.length<=6) : Zhm c ov=true↔∀j,j<c.length->((Iu (c.length-1) c j).natAbs:Int)<=1048576*ov*(Py (c.length-1) j:Int):=by
 have B:∀j,j<c.length->((((ctl c j _).natAbs)<=62914560*ov)↔((Iu _ c j).natAbs)<=1048576*ov*(Py _ j)):=λj g=>by
  have l:=Ync z g;have f:=Yil (n:=c.length-1) (j:=j) O;have s:=aD Int.natAbs l;rw [bQ,bQ]at s;generalize (ctl c j _).natAbs=x at *;generalize (Iu _ c j).natAbs=y at *;generalize Py _ j=q at *;have u:(q:Int)*(x)=60*(y):=O4;constructor
  .intro h;have e:=fW h (dZ f);grind
  .intro h;have e:60*(y)<=(q)*(62914560*ov):=by grind
   rw [<-u]at e;exact jT e f
 constructor
 .intro h j g;unfold Zhm at h;grind
 grind [Zqn]
def Xo{x b:Int} : ((x.natAbs:Int)<=b)↔(-b<=x/\x<=b):=O
def bre00(c:List Int):Iu 0 c 0=cf c 0*1:=O12
def bre10(c:List Int):Iu 1 c 0=cf c 0*1:=O12
def bre11(c:List Int):Iu 1 c 1=cf c 0*1+cf c 1*1:=O12
def bre20(c:List Int):Iu 2 c 0=cf c 0*1:=O12
def bre21(c:List Int):Iu 2 c 1=cf c 0*2+cf c 1*1:=O12
def bre22(c:List Int):Iu 2 c 2=cf c 0*1+cf c 1*1+cf c 2*1:=O12
def bre30(c:List Int):Iu 3 c 0=cf c 0*1:=O12
def bre31(c:List Int):Iu 3 c 1=cf c 0*3+cf c 1*1:=O12
def bre32(c:List Int):Iu 3 c 2=cf c 0*3+cf c 1*2+cf c 2*1:=O12
def bre33(c:List Int):Iu 3 c 3=cf c 0*1+cf c 1*1+cf c 2*1+cf c 3*1:=O12
def bre40(c:List Int):Iu 4 c 0=cf c 0*1:=O12
def bre41(c:List Int):Iu 4 c 1=cf c 0*4+cf c 1*1:=O12
def bre42(c:List Int):Iu 4 c 2=cf c 0*6+cf c 1*3+cf c 2*1:=O12
def bre43(c:List Int):Iu 4 c 3=cf c 0*4+cf c 1*3+cf c 2*2+cf c 3*1:=O12
def bre44(c:List Int):Iu 4 c 4=cf c 0*1+cf c 1*1+cf c 2*1+cf c 3*1+cf c 4*1:=O12
def bre50(c:List Int):Iu 5 c 0=cf c 0*1:=O12
def bre51(c:List Int):Iu 5 c 1=cf c 0*5+cf c 1*1:=O12
def bre52(c:List Int):Iu 5 c 2=cf c 0*10+cf c 1*4+cf c 2*1:=O12
def bre53(c:List Int):Iu 5 c 3=cf c 0*10+cf c 1*6+cf c 2*3+cf c 3*1:=O12
def bre54(c:List Int):Iu 5 c 4=cf c 0*5+cf c 1*4+cf c 2*3+cf c 3*2+cf c 4*1:=O12
def bre55(c:List Int):Iu 5 c 5=cf c 0*1+cf c 1*1+cf c 2*1+cf c 3*1+cf c 4*1+cf c 5*1:=O12
theorem cf_brS{n:Nat}(u:n<6)(D:c.length<=n+1){M:Int}(h:∀j,j<n+1->((Iu n c j).natAbs:Int)<=M*(Py n j:Int))(k:Nat):((cf c k).natAbs:Int)<=2047*M:=by
 have z:0<=M:=by have e:=h 0 O6;grind [Zlp]
 by_cases B:k<n+1
 .rw [Xo]
  match n,u with
  | 0,_=>
   have e:=Xo.1 (h 0 O);rw [bre00,show(Py 0 0:Int)=1 from rfl]at e;grind
  | 1,_=>
   have e:=Xo.1 (h 0 O);rw [bre10,show(Py 1 0:Int)=1 from rfl]at e;have f:=Xo.1 (h 1 O);rw [bre11,show(Py 1 1:Int)=1 from rfl]at f;grind
  | 2,_=>
   have e:=Xo.1 (h 0 O);rw [bre20,show(Py 2 0:Int)=1 from rfl]at e;have f:=Xo.1 (h 1 O);rw [bre21,show(Py 2 1:Int)=2 from rfl]at f;have g:=Xo.1 (h 2 O);rw [bre22,show(Py 2 2:Int)=1 from rfl]at g;grind
  | 3,_=>
   have e:=Xo.1 (h 0 O);rw [bre30,show(Py 3 0:Int)=1 from rfl]at e;have f:=Xo.1 (h 1 O);rw [bre31,show(Py 3 1:Int)=3 from rfl]at f;have g:=Xo.1 (h 2 O);rw [bre32,show(Py 3 2:Int)=3 from rfl]at g;have l:=Xo.1 (h 3 O);rw [bre33,show(Py 3 3:Int)=1 from rfl]at l;grind
  | 4,_=>
   have e:=Xo.1 (h 0 O);rw [bre40,show(Py 4 0:Int)=1 from rfl]at e;have f:=Xo.1 (h 1 O);rw [bre41,show(Py 4 1:Int)=4 from rfl]at f;have g:=Xo.1 (h 2 O);rw [bre42,show(Py 4 2:Int)=6 from rfl]at g;have l:=Xo.1 (h 3 O);rw [bre43,show(Py 4 3:Int)=4 from rfl]at l;have q:=Xo.1 (h 4 O);rw [bre44,show(Py 4 4:Int)=1 from rfl]at q;grind
  | 5,_=>
   have e:=Xo.1 (h 0 O);rw [bre50,show(Py 5 0:Int)=1 from rfl]at e;have f:=Xo.1 (h 1 O);rw [bre51,show(Py 5 1:Int)=5 from rfl]at f;have g:=Xo.1 (h 2 O);rw [bre52,show(Py 5 2:Int)=10 from rfl]at g;have l:=Xo.1 (h 3 O);rw [bre53,show(Py 5 3:Int)=10 from rfl]at l;have q:=Xo.1 (h 4 O);rw [bre54,show(Py 5 4:Int)=5 from rfl]at q;have s:=Xo.1 (h 5 O);rw [bre55,show(Py 5 5:Int)=1 from rfl]at s;grind
 grind [Yw]
structure AxC (c:List Int) (ov:Int):Prop where
 l:1<=c.length/\c.length<=6
 t:¬(1<c.length/\c.getD (c.length-1) 0=0)
 b:∀j,j<c.length->((Iu (c.length-1) c j).natAbs:Int)<=1048576*ov*(Py (c.length-1) j:Int)
theorem AxC.of(h:axB c ov=true):AxC c ov:=by unfold axB at h;simp only [aQ,fN,iS,cQ,fU]at h;have e:1<=c.length/\c.length<=6:=⟨h.1.1.1,h.1.1.2⟩;exact⟨e,λf=>O,(Yak e).1 h.2⟩
def AxC.to(h:AxC c ov):axB c ov=true:=Yi9 h.l.1 h.l.2 h.t ((Yak h.l).2 h.b)
def tzl_nz(e:c.getD (c.length-1) 0≠0):tzl c=c:=Zai (.inr e)
theorem ax_tzl(h:AxC c ov):(tzl c=c)\/c=[0]:=by
 by_cases e:c.getD (c.length-1) 0=0
 .have j:c.length=1:=by
   have l:=h.l;have f:=h.t;by_cases g:1<c.length
   .exact absurd ⟨g,e⟩ f
   .omega
  right
  match c,j with
  | [x],_=>simp at e;rw [e]
 .exact .inl (tzl_nz e)
theorem Zfg(h:AxC c ov){b:Int}{t u:Rat}(f:t*(d:Rat)=(a:Rat)+(b:Rat)*u):Zc (Nl c a b d) u=(d:Rat)^5*Zc c t:=by
 unfold Nl;rw [Zve];rcases ax_tzl h with e|e
 .have g:=h.l;rw [e,Zj5 a b d f O,Zc0];have:(d:Rat)^5=(d:Rat)^(6-c.length)*(d:Rat)^(c.length-1):=by rw [<-Yat];congr 1;omega
  rw [this];grind
 .subst e;rw [show tzl [0]=[]from by decide,show Km [] a b d=[]from rfl];show _*(0:Rat)=_*(((0:Int):Rat)+t*0);push_cast;grind
def Zf0 (c:List Int)(a b d:Int):(Nl c a b d).length<=c.length:=aB Lt (aB (Zeo _ _ _ _) (Hj c))
theorem Yaj(h:AxC c ov){b:Int}(f:0<=a)(g:0<=b)(e:a+b<=d)(l:0<d):∀j,j<c.length->((Iu (c.length-1) (Nl c a b d) j).natAbs:Int)<=1048576*(ov*d^5)*(Py (c.length-1) j:Int):=λj q=>by have D:=h.l;have z:=Zf0 c a b d;have:=Yn2 (c:=c) (X:=Nl c a b d) (n:=c.length-1) (m:=5) (B:=1048576*ov) O O f g e l (λt u s=>Zfg h s) (λj q=>h.b j O) j O;rw [fR]at this;rw [fR];rw [fR,<-fR ov]at this;exact this
theorem cf_cmp(h:AxC c ov){b:Int}(f:0<=a)(g:0<=b)(e:a+b<=d)(l:0<d)(k:Nat):((cf (Nl c a b d) k).natAbs:Int)<=ov*d^5*2146435072:=by have u:=h.l;have q:=Zf0 c a b d;have:=cf_brS (n:=c.length-1) O (c:=Nl c a b d) O (M:=1048576*(ov*d^5)) (λj s=>Yaj h f g e l j O) k;omega
theorem Yef{g:Ze}(h:seB g=true):AxC g.2.1.2 g.1.2.2/\AxC g.2.2.1.2 g.1.2.2/\AxC g.2.2.2.2 g.1.2.2:=by have e:Zal g.1.1 g.1.2.1 g.1.2.2 g.2.1.2 g.2.2.1.2 g.2.2.2.2=true:=h;unfold Zal at e;simp only [aQ]at e;exact⟨.of e.1.1.1.2,.of e.1.1.2,.of e.1.2⟩
theorem Yh8{fr e:Int}{g:Ze}(f:SgG g)(h:Ln fr e g=true):0<=cA fr g-g.1.1/\0<cB e g-cA fr g/\(cA fr g-g.1.1)+(cB e g-cA fr g)<=g.1.2.1-g.1.1/\0<g.1.2.1-g.1.1:=by have n:=cH h;have j:=f.t1;have l:=f.t2;unfold cA cB at *;exact⟨O,O,O,O⟩
theorem Yfy{fr B:Int}{g:Ze}(hi:Gin g)(hs:seB g=true)(h:Ln fr B g=true):MdG fr B g:=by
 have f:SgG g:=Ib hi hs;obtain⟨I,M,N⟩:=Yef hs;obtain⟨P,Q,R,S⟩:=Yh8 f h;obtain⟨u,z,-,-⟩:=cut_b f h;have a0:=f.t3;have Z:=f.t1;have W:=f.o1;have Y:=f.o2;have j:1<=g.1.2.1-g.1.1/\g.1.2.1-g.1.1<=3600000:=⟨O,O⟩;have D:=Zqe f.hx f.lx u z j;have F:=Zqe f.hy f.ly u z j;have H:=Zqe f.hz f.lz u z j;have s:0<cO g:=fC O (iI O);have q:((cO g).natAbs:Int)=cO g:=O;have n:∀{c:List Int},AxC c g.1.2.2->∀k,(cf (cX fr B g c) k).natAbs<=(cO g).natAbs*2146435072:=λV k=>by
  have:=cf_cmp V P (dZ Q) R S k;have e:(((cO g).natAbs*2146435072:Nat):Int)=cO g*2146435072:=by rw [gD,q];rfl
  refine Int.ofNat_le.1 ?_;rw [e];exact this
 refine⟨s,?_,λi=>?_,λi=>?_,λi k=>?_⟩
 .have h1:bl g.1.2.2.natAbs<=40:=(Qs 40 _).2 O;have h2:=Zmy j;have:=Xv g.1.2.2 ((g.1.2.1-g.1.1)^5);show bl (g.1.2.2*(g.1.2.1-g.1.1)^5).natAbs<=1000;omega
 .exact Bj (p:=λl:List Int=>Sz 1000 l) D.2.2.2.2.2.2.1 F.2.2.2.2.2.2.1 H.2.2.2.2.2.2.1
 .exact Bj (p:=λl:List Int=>l.length<=6) D.2.2.2.2.2.2.2 F.2.2.2.2.2.2.2 H.2.2.2.2.2.2.2
 .exact Bj (p:=λl:List Int=>(cf l k).natAbs<=(cO g).natAbs*2146435072) (n I k) (n M k) (n N k)
theorem Yg9{n q s u z B e f g h j l:Value}:Instr.fill (λi=>some (i*6,6)) ((List.range (1*6)).map ((Value.agg #[n,q,s,u,z,B]).cells[· % (Value.agg #[n,q,s,u,z,B]).cells.size]!)).toArray [(0,.agg #[e,f,g,h,j,l])]=some #[e,f,g,h,j,l]:=by
 simp [Instr.fill,Value.cells,List.range,List.range.loop]
 try rfl
def Pn(fr e:Int)(ps:List Ze):Bool:=(ps.filter (Ln fr e)).all (Zgf fr e)
def Cz(fr e:Int)(ps:List Ze):List Zhs:=if Pn fr e ps=true then(ps.filter (Ln fr e)).map (Zwn fr e)else []
def Zcv(fr e:Int)(ps:List Ze):Int:=if Pn fr e ps=true then 0 else 7
def Zu9(fr e:Int)(x:Ze)(g:SL×SL×SL):Ze:=((cA fr x,cB e x,mdO (cO x) (cG fr e x)),(g.1,mdL (cO x) (cG fr e x) (cX fr e x x.2.1.2)),(g.2.1,mdL (cO x) (cG fr e x) (cX fr e x x.2.2.1.2)),(g.2.2,mdL (cO x) (cG fr e x) (cX fr e x x.2.2.2.2)))
def Yci(fr e:Int)(ps:List Ze)(k:Nat)(zs:List Ze):Prop:=zs.map Dq=((ps.filter (Ln fr e)).take k).map (Zwn fr e)/\((ps.filter (Ln fr e)).take k).all (Zgf fr e)=true
theorem Zn8{α:Type}{xs:List α}{x:α}(h:xs[k]? = some x):xs.take (k+1)=xs.take k ++ [x]:=by rw [gK,h];rfl
theorem cutI_0(fr e:Int)(ps:List Ze):Yci fr e ps 0 []:=⟨by rw [fT];rfl,by rw [fT];rfl⟩
theorem cutI_s{fr e:Int}{ps:List Ze}{x:Ze}{g:SL×SL×SL}(h:Yci fr e ps k zs)(f:(ps.filter (Ln fr e))[k]? = some x)(n:Zgf fr e x=true):Yci fr e ps (k+1) (zs ++ [Zu9 fr e x g]):=by
 obtain⟨j,l⟩:=h;refine⟨?_,?_⟩
 .rw [Zn8 f,dV,dV,j];rfl
 .rw [Zn8 f,List.all_append,l];simp [n]
theorem cutI_l{fr e:Int}{ps:List Ze}(h:Yci fr e ps k zs)(f:k<=ps.length):zs.length<=ps.length:=by have:=aD List.length h.1;rw [bJ,bJ,dO]at this;have:=gF (Ln fr e) ps;omega
theorem cut_no{fr e:Int}{ps:List Ze}{x:Ze}(g:(ps.filter (Ln fr e))[k]? = some x)(f:Zgf fr e x=false):Pn fr e ps=false:=by
 unfold Pn;cases hb:(ps.filter (Ln fr e)).all (Zgf fr e)with
 | false=>rfl
 | true=>
  have:=bA.1 hb x (dH g);rw [f]at this;cases this
theorem cutI_e{fr e:Int}{ps:List Ze}(h:Yci fr e ps (ps.filter (Ln fr e)).length zs):zs.map Dq=Cz fr e ps/\Zcv fr e ps=0:=by obtain⟨g,f⟩:=h;rw [cE]at g f;exact⟨by unfold Cz Pn;rw [aO f];exact g,by unfold Zcv Pn;rw [aO f]⟩
theorem cut_f{fr e:Int}{ps:List Ze}(h:Pn fr e ps=false):([]:List Ze).map Dq=Cz fr e ps/\Zcv fr e ps=7:=by unfold Cz Zcv;rw [aJ (by rw [h];exact bF),aJ (by rw [h];exact bF)];exact⟨rfl,rfl⟩
def spF(ps:List Ze):Int:=(ps.getD 0 G0).1.1
def spL(ps:List Ze):Int:=(ps.getD (ps.length-1) G0).1.2.1
theorem Yl5(h:AxC c ov)(s:c.getD (c.length-1) 0≠0){b:Int}(B:0<b)(F:0<d):(Nl c a b d).length=c.length:=by
 have M:=h.l;have I:=Zf0 c a b d;rcases aW (Nl c a b d).length c.length with q|q
 .exfalso;have D:(b:Rat)≠0:=by
    have:(0:Rat)<(b:Rat):=by exact_mod_cast B
    grind
  have H:(d:Rat)≠0:=by
    have:(0:Rat)<(d:Rat):=by exact_mod_cast F
    grind
  have n:∀t:Rat,t*(d:Rat)=(a:Rat)+(b:Rat)*((t*d-a)/b):=λt=>O4;by_cases j:(Nl c a b d).length=0
  .have z:=aH j;have:∀t:Rat,Zc c t=0:=λt=>by
    have e:=Zfg h (n t);rw [z]at e;have f:(d:Rat)^5*Zc c t=0:=e.symm;have l:(d:Rat)^5≠0:=by rw [show(d:Rat)^5=d*d*d*d*d by rw [cZ,cZ,cZ,cZ,cZ,dM];grind];grind
    grind
   exact s (Zon this _)
  .have g:∀t:Rat,Zc ((Km (Nl c a b d) (-a) d b).map λq=>1*q) t=Zc (c.map λq=>b^((Nl c a b d).length-1)*d^5*q) t:=λt=>by rw [Zi,Zi];have e:=Zfg h (n t);have f:=Zj5 (p:=Nl c a b d) (-a) d b (t:=(t*d-a)/b) (u:=t) (by push_cast;grind) j;rw [f,e];push_cast;rw [<-Zc0,<-Zc0];push_cast;grind
   have e:=Mi g (c.length-1);rw [Du,Du,Yw (by have:=Zeo (Nl c a b d) (-a) d b;omega)]at e;have f:b^((Nl c a b d).length-1)*d^5≠0:=bD (Int.pow_ne_zero O) (Int.pow_ne_zero O);have l:b^((Nl c a b d).length-1)*d^5*cf c (c.length-1)=0:=O;rcases Int.mul_eq_zero.1 l with q|q
   .exact f q
   .exact s q
 .omega
theorem Zwu{X:List Int}(f:0<G)(e:∀x∈X,G∣x)(i:Nat):cf (Ch X G) i*G=cf X i:=by
 unfold Ch;split
 .rename_i h;rw [aH h]
  match i with
  | 0=>show(0:Int)*G=cf [] 0;rw [cN];rfl
  | i+1=>show(0:Int)*G=cf [] (i+1);rw [cN];rfl
 .rw [Zey _ _ O6];by_cases hi:i<X.length
  .have:cf X i∈X:=Zj hi;exact lC (e _ this)
  .rw [Yw O];simp
theorem Yk7{X:List Int}(e:0<G)(f:∀x∈X,G∣x)(u:Rat):Zc (Ch X G) u*(G:Rat)=Zc X u:=by rw [kF,<-Zi];exact Ng u _ _ λi=>by rw [Du,iQ,Zwu e f]
theorem Zhv(f g:Nat->Int)(a:Int)(h:∀k,f k*a=g k):∀m,Ye f m*a=Ye g m
 | 0=>cN _
 | m+1=>by rw [Yr,Yr,kX,Zhv f g a h m,h]
theorem Yn1{X:List Int}(e:0<G)(f:∀x∈X,G∣x)(n j:Nat):Iu n (Ch X G) j*G=Iu n X j:=by unfold Iu;exact Zhv _ _ _ (λk=>by rw [jR,Zwu e f]) _
theorem Yl4(X:List Int)(G:Int):(Ch X G).length=max X.length 1:=by
 unfold Ch;split
 .rename_i h;rw [h];rfl
 .rw [bJ];omega
theorem Zw7(h:AxC c ov){b o:Int}(P:0<=a)(D:0<b)(s:a+b<=d)(F:0<d)(q:0<G)(I:∀x∈Nl c a b d,G∣x)(R:o*G=ov*d^5):AxC (Ch (Nl c a b d) G) o/\(Ch (Nl c a b d) G).length=c.length:=by
 have V:=h.l;have f:(Ch (Nl c a b d) G).length=c.length/\(1<c.length->(Nl c a b d).length=c.length):=by
  rw [Yl4];by_cases M:c.getD (c.length-1) 0=0
  .have:=h.t;have Q:=Zf0 c a b d;have g:c.length=1:=by
    by_cases l:1<c.length
    .exact absurd ⟨l,M⟩ this
    .omega
   exact⟨O,λl=>O⟩
  .have:=Yl5 h M (a:=a) D F;exact⟨O,λ_=>this⟩
 refine⟨⟨O,λ⟨g,u⟩=>?_,λj H=>?_⟩,f.1⟩
 .rw [f.1]at g u;have l:cf (Ch (Nl c a b d) G) (c.length-1)=0:=u;have z:=Zwu q I (c.length-1);rw [l,cN]at z;have n:=f.2 g;have S:Tr (Nl c a b d):=Nn _ _;have B:=S.mem (λe=>by rw [e]at n;simp at n;omega);rw [n]at B;exact B z.symm
 .rw [f.1]at H ⊢;have g:=Yaj h P (dZ D) s F j H;rw [<-Yn1 q I,<-R,bQ]at g;have N:((G.natAbs:Nat):Int)=G:=O;push_cast at g;rw [N]at g;refine Int.le_of_mul_le_mul_right (a:=G) ?_ q;refine kG g (Int.le_of_eq ?_);grind
theorem Ztd{G:Int}(e:0<G):∀(l:List Int) (o:Int),Lk (G*o) (l.map (G*·))=G*Lk o l
 | [],o=>rfl
 | x::l,o=>by show Lk ((Int.gcd _ _)) _=G*Lk _ l;rw [Int.gcd_mul_left];push_cast;rw [show((G.natAbs))=G by omega];exact Ztd e l _
theorem Zk5{X:List Int}{o:Int}(e:0<G)(f:∀x∈X,G∣x)(g:0<=o):Lk o ((Ch X G).map (G*·))=Lk o X:=by
 unfold Ch;split
 .rename_i h;rw [aH h];show((Int.gcd o (G*0)))=o;rw [dY,Int.gcd_zero_right];omega
 .conv=>rhs;rw [<-kV X]
  grind [List.map_congr_left,Int.mul_ediv_cancel']
theorem Ymn{X Y Z:List Int}{o f:Int}(g:0<o)(e:0<Fk o X Y Z)(n:∀x∈X,Fk o X Y Z∣x)(q:∀x∈Y,Fk o X Y Z∣x)(s:∀x∈Z,Fk o X Y Z∣x)(h:Fk o X Y Z*f=o) :
  Lk f (Ch X (Fk o X Y Z) ++ Ch Y (Fk o X Y Z) ++ Ch Z (Fk o X Y Z))=1:=by
 have j:=Ztd e (Ch X (Fk o X Y Z) ++ Ch Y (Fk o X Y Z) ++ Ch Z (Fk o X Y Z)) f;rw [h,dV,dV,Cf,Cf,Zk5 e n (dZ g),Zk5 e q (Zf2 _ _ (dZ g)),Zk5 e s (Zf2 _ _ (Zf2 _ _ (dZ g)))]at j;have u:Fk o X Y Z=Lk (Lk (Lk o X) Y) Z:=by show Lk o (X ++ Y ++ Z)=_;grind [Cf]
 generalize Lk f _=r at *;have l:Fk o X Y Z*r=Fk o X Y Z*1:=O;exact iA O l
structure Prt (q g:Ze) (G:Int):Prop where
 g0:0<G
 a0:0<=q.1.1-g.1.1
 b0:0<q.1.2.1-q.1.1
 ab:(q.1.1-g.1.1)+(q.1.2.1-q.1.1)<=g.1.2.1-g.1.1
 o:q.1.2.2*G=g.1.2.2*(g.1.2.1-g.1.1)^5
 x:∀i (t u:Rat),t*((g.1.2.1-g.1.1:Int):Rat)=((q.1.1-g.1.1:Int):Rat)+((q.1.2.1-q.1.1:Int):Rat)*u->Zc (Yg i q.2.1.2 q.2.2.1.2 q.2.2.2.2) u*(G:Rat)=((g.1.2.1-g.1.1:Int):Rat)^5*Zc (Yg i g.2.1.2 g.2.2.1.2 g.2.2.2.2) t
theorem Zv1{X:List Int}(h:∀k,(X.getD k 0/G).natAbs<=9223372036854775807):∀a∈Ch X G,Mw a:=λa e=>by
 unfold Ch at e;split at e
 .rw [bX.1 e];exact⟨O,O⟩
 .obtain⟨x,g,rfl⟩:=eH.1 e;obtain⟨k,f⟩:=eN.1 g;have:=h k;rw [aN,f]at this;simp only [eY]at this;exact⟨O,O⟩
theorem Zoq{b:Int}{t u:Rat}(f:AxC c ov)(e:0<G)(g:∀x∈Nl c a b d,G∣x)(h:t*(d:Rat)=(a:Rat)+(b:Rat)*u):Zc (Ch (Nl c a b d) G) u*(G:Rat)=(d:Rat)^5*Zc c t:=by grind [Yk7,Zfg]
theorem Zz3{fr e:Int}{g q:Ze}(hi:Gin g)(hs:seB g=true)(hp:Ln fr e g=true)(hk:Zgf fr e g=true)(hu:Dq q=Zwn fr e g):Gin q/\seB q=true/\Prt q g (cG fr e g):=by
 have W:SgG g:=Ib hi hs;obtain⟨a1,a2,a3⟩:=Yef hs;obtain⟨M,N,Q,R⟩:=Yh8 W hp;have V:=Yfy hi hs hp;obtain⟨g1,⟨z,a6⟩,S⟩:=V.g;have n:0<cG fr e g:=g1;have D:∀x∈cX fr e g g.2.1.2,cG fr e g∣x:=S 0 O;have F:∀x∈cX fr e g g.2.2.1.2,cG fr e g∣x:=S 1 O;have H:∀x∈cX fr e g g.2.2.2.2,cG fr e g∣x:=S 2 O;have a8:cG fr e g*z=cO g:=a6.symm;have B:cO g/cG fr e g=z:=by grind [Int.mul_ediv_cancel_left]
 have f:cO g/cG fr e g<=4294967296:=cH hk;have a7:0<cO g:=V.o;have b2:0<z:=by
  by_cases h:0<z
  .omega
  .have:=fG (dZ n) (show z<=0 by omega);omega
 have s:z*cG fr e g=g.1.2.2*(g.1.2.1-g.1.1)^5:=O4;obtain⟨x1,x2⟩:=Zw7 a1 M N Q R n D s;obtain⟨y1,y2⟩:=Zw7 a2 M N Q R n F s;obtain⟨z1,z2⟩:=Zw7 a3 M N Q R n H s;obtain⟨⟨qf,qt,qo⟩,⟨sx,qx⟩,⟨sy,qy⟩,⟨sz,qz⟩⟩:=q;unfold Dq Zwn at hu;rw [mdO_t f,Zm6 f,Zm6 f,Zm6 f,B]at hu;injection hu with h1 h2;injection h1 with hf h1;injection h1 with ht P;injection h2 with hx h2;injection h2 with hy hz;dsimp only at hf ht P hx hy hz;subst hf ht hx hy hz;have P:=P.symm;subst P;have j:=λi (hi:i<3) k=>V.fit (i:=i) f hi k;have b0:=cH hp;have b3:=W.t1;have b4:=W.t3;have a0:∀a∈Ch (cX fr e g g.2.1.2) (cG fr e g),Mw a:=Zv1 (j 0 O);have a4:∀a∈Ch (cX fr e g g.2.2.1.2) (cG fr e g),Mw a:=Zv1 (j 1 O);have a5:∀a∈Ch (cX fr e g g.2.2.2.2) (cG fr e g),Mw a:=Zv1 (j 2 O);have b1:z<=4294967296:=B▸f;have a9:0<=cA fr g/\cB e g<=3600000:=O;have i1:Mw (cA fr g):=⟨O,O⟩;have i2:Mw (cB e g):=⟨O,O⟩;have i3:Mw z:=⟨O,O⟩;refine⟨⟨i1,i2,i3,a0,a4,a5⟩,?_,⟨n,M,N,O,s,λi t u I=>?_⟩⟩
 .show Zal (cA fr g) (cB e g) z _ _ _=true;unfold Zal Zuz;simp only [aQ,cQ];exact⟨⟨⟨⟨⟨⟨⟨⟨O,O⟩,O⟩,O⟩,O⟩,x1.to⟩,y1.to⟩,z1.to⟩,Ymn a7 n D F H a8⟩
 .have l:t*((g.1.2.1-g.1.1:Int):Rat)=((cA fr g-g.1.1:Int):Rat)+((cB e g-cA fr g:Int):Rat)*u:=I;clear I;have k0:=Zoq a1 n D l;have k1:=Zoq a2 n F l;have k2:=Zoq a3 n H l;dsimp only;generalize Ch (cX fr e g g.2.1.2) (cG fr e g)=X at *;generalize Ch (cX fr e g g.2.2.1.2) (cG fr e g)=Y at *;generalize Ch (cX fr e g g.2.2.2.2) (cG fr e g)=Z at *;generalize ((cG fr e g:Int):Rat)=GG at *;generalize ((g.1.2.1-g.1.1:Int):Rat)^5=DD at *
  match i with
  | 0=>exact k0
  | 1=>exact k1
  | i+2=>exact k2
theorem cg_brS{n:Nat}(u:n<6)(D:c.length<=n+1){M:Int}(h:∀j,j<n+1->((Iu n c j).natAbs:Int)<=M*(Py n j:Int))(k:Nat):((cf c k).natAbs:Int)<=80*M:=by
 have z:0<=M:=by have e:=h 0 O6;grind [Zlp]
 by_cases B:k<n+1
 .rw [Xo]
  match n,u with
  | 0,_=>
   have e:=Xo.1 (h 0 O);rw [bre00,show(Py 0 0:Int)=1 from rfl]at e;grind
  | 1,_=>
   have e:=Xo.1 (h 0 O);rw [bre10,show(Py 1 0:Int)=1 from rfl]at e;have f:=Xo.1 (h 1 O);rw [bre11,show(Py 1 1:Int)=1 from rfl]at f;grind
  | 2,_=>
   have e:=Xo.1 (h 0 O);rw [bre20,show(Py 2 0:Int)=1 from rfl]at e;have f:=Xo.1 (h 1 O);rw [bre21,show(Py 2 1:Int)=2 from rfl]at f;have g:=Xo.1 (h 2 O);rw [bre22,show(Py 2 2:Int)=1 from rfl]at g;grind
  | 3,_=>
   have e:=Xo.1 (h 0 O);rw [bre30,show(Py 3 0:Int)=1 from rfl]at e;have f:=Xo.1 (h 1 O);rw [bre31,show(Py 3 1:Int)=3 from rfl]at f;have g:=Xo.1 (h 2 O);rw [bre32,show(Py 3 2:Int)=3 from rfl]at g;have l:=Xo.1 (h 3 O);rw [bre33,show(Py 3 3:Int)=1 from rfl]at l;grind
  | 4,_=>
   have e:=Xo.1 (h 0 O);rw [bre40,show(Py 4 0:Int)=1 from rfl]at e;have f:=Xo.1 (h 1 O);rw [bre41,show(Py 4 1:Int)=4 from rfl]at f;have g:=Xo.1 (h 2 O);rw [bre42,show(Py 4 2:Int)=6 from rfl]at g;have l:=Xo.1 (h 3 O);rw [bre43,show(Py 4 3:Int)=4 from rfl]at l;have q:=Xo.1 (h 4 O);rw [bre44,show(Py 4 4:Int)=1 from rfl]at q;grind
  | 5,_=>
   have e:=Xo.1 (h 0 O);rw [bre50,show(Py 5 0:Int)=1 from rfl]at e;have f:=Xo.1 (h 1 O);rw [bre51,show(Py 5 1:Int)=5 from rfl]at f;have g:=Xo.1 (h 2 O);rw [bre52,show(Py 5 2:Int)=10 from rfl]at g;have l:=Xo.1 (h 3 O);rw [bre53,show(Py 5 3:Int)=10 from rfl]at l;have q:=Xo.1 (h 4 O);rw [bre54,show(Py 5 4:Int)=5 from rfl]at q;have s:=Xo.1 (h 5 O);rw [bre55,show(Py 5 5:Int)=1 from rfl]at s;grind
 grind [Yw]
theorem AxC.cg(h:AxC c ov)(k:Nat):((cf c k).natAbs:Int)<=83886080*ov:=by have f:=h.l;have:=cg_brS O O (λj e=>h.b j O) k;omega
open Go.RowKit Below
variable {P:Program} {N:Nat} {sc:Nat->Prop} {env env':Qi} {H H':Hp} {Q Q':Exit->Act->World->Prop} {M:Nat->Prop}
def wcr(l:List Int)(r:List Value):Array Value:=(l.map (Value.int .i64) ++ r).toArray
theorem Zje(l:List Int)(r:List Value):(wcr l r).size=l.length+r.length:=by simp [wcr]
theorem Yj3{l:List Int}{j:Nat}(h:j<l.length):(wcr l r)[j]? = some (.int .i64 (l.getD j 0)):=by simp [wcr,eX,h,aN]
theorem Yj2{l:List Int}{j:Nat}{v:Int}(h:j<l.length):Gq (wcr l r) j [.int .i64 v]=wcr (l.set j v) r:=by unfold Gq wcr;congr 1;rw [List.set_eq_take_append_cons_drop,aO h,dV,cI,List.map_take,List.map_drop];grind
theorem Zww(l:List Int):cellsOf Xh l=l.map (Value.int .i64):=by
 induction l with
 | nil=>rfl
 | cons x l e=>rw [show cellsOf _ _=(Xh x).cells.toList ++ cellsOf _ l from rfl,e];rfl
theorem f_obox{e:TypeId}(i:Nat)(hi:lk H i=some (Nc 1 e Xh v xs))(D:xs≠[]):∀a w,Sat N sc env H a w->∃y:Nat×Nat×List Value,
  v= .slice (some ⟨y.1,0,none⟩) xs.length y.2.1/\xs.length+y.2.2.length=y.2.1/\y.2.1<=maxLen/\w.heap[y.1]? = some (.cells (wcr xs y.2.2) e (0,0)):=λa w hs=>by
 have h:=hs.hold i _ hi;rcases h.2 with⟨rfl,B⟩|⟨g,j,f,rfl,u,z,s,l,q,n⟩
 .grind
 .refine⟨(g,j,f.toList.drop xs.length),rfl,?_,l,?_⟩
  .grind
  .rw [show wcr xs _=f by unfold wcr;grind [Zww,List.take_append_drop]]
   omega
theorem s_obox {e:TypeId} {c:Nat}     (i:Nat) (hi:lk H i=some (Nc 1 e Xh (.slice (some ⟨b,0,none⟩) xs.length c) xs)) (h:Nat.beq i 0=false) (f:lk H 0=some (Zt w0 M0)) (l:∀b,w0.heap.size<=b->sc b)
  {a:Act}  (hs:Sat N sc env H a w) (g:w.heap[b]? = some (.cells (wcr xs r) e (0,0))):Sat N sc env ((i,box b e (wcr xs r))::H) a w:=
 hs.upd hi rfl (λe=>O10) (Chg.refl _ w) g (λk j=> .inl (by show some b=some k;rw [show k=b from j])) f l
theorem e_obox {g:Code} {e:TypeId}     (i:Nat) (hi:lk H i=some (Nc 1 e Xh v xs)) (f:Nat.beq i 0=false) (z:xs≠[]) (j:lk H 0=some (Zt w0 M0)) (u:∀b,w0.heap.size<=b->sc b)
  (h:∀(b c:Nat) (r:List Value),v= .slice (some ⟨b,0,none⟩) xs.length c->xs.length+r.length=c->c<=maxLen->E P N sc g Q env ((i,box b e (wcr xs r))::H)):E P N sc g Q env H:=λa w hs=>by
 obtain⟨⟨b,c,r⟩,s,l,n,q⟩:=f_obox i hi z a w hs;subst s;exact h b c r rfl l n a w (s_obox i hi f j u hs q)
theorem Yk3{e:TypeId}{c:Nat}(i:Nat)(hi:lk H i=some (box b e (wcr xs r)))(h:Nat.beq i 0=false)(q:xs.length+r.length=c)(l:c<=maxLen)(f:lk H 0=some (Zt w0 M0))(n:∀b,w0.heap.size<=b->sc b) :
  ∀a w,Sat N sc env H a w->Sat N sc env ((i,Nc 1 e Xh (.slice (some ⟨b,0,none⟩) xs.length c) xs)::H) a w:=λa w hs=>by
 have g:=hs.hold i _ hi;refine hs.upd hi rfl (λe=>O10) (Chg.refl _ w) ?_ (λk j=> .inl (by cases j;rfl)) f n;refine⟨by rw [Zww,bJ,kZ],.inr ⟨b,c,_,rfl,bH _,g,O,l,by simp_all [Zje,kZ],?_⟩⟩;rw [Zww];show((xs.map _) ++ r).take _=_;simp
theorem Zac (i:Nat)   {e:TypeId} {n c:Nat}   (j:o.op= .indexAddr t x y) (q:ev env x=some (.slice (some ⟨b,off,none⟩) n c)) (s:ev env y=some (.int kd m))
  (l:P.underlying t=some (.slice e)) (h:∀w,(sizeOf e).run P w= .ok 1 w) (f:m=(i:Int)) (g:i<n):Mt P N sc o env H (.pointer (some ⟨b,off+i,none⟩)):=λa w hs=>by
 subst f;simp [execOp,j,hs.ev q,hs.ev s,Instr.indexAt,asIntOf,run_underlying l,h,g,Px]
theorem Zp8   {e:TypeId} {f:Option Addr} {n c:Nat} (g:o.op= .call { callee:= .builtin .len,args:=#[x],argTypes:=#[t] })
  (j:ev env x=some (.slice f n c)) (h:P.underlying t=some (.slice e)):Mt P N sc o env H (.int .i64 (n:Int)):=λa w hs=>by
 simp [execOp,g,resolve,hs.ev j,invoke,builtin,Builtin.len_,run_underlying h,goInt]
def Zcs (i:Nat){j:Nat}{l:List Int}(g:o.op= .load t x)(n:ev env x=some (.pointer (some ⟨b,j,none⟩)))(e:lk H i=some (box b tb (wcr l r)))(h:∀w,(isAgg t).run P w= .ok false w)(f:j<l.length) :
  Mt P N sc o env H (.int .i64 (l.getD j 0)):=Zlk _ g n e h (Yj3 f)
theorem Zrc (i:Nat)    {j:Nat} {l:List Int}  {v:Int}   (z:o.op= .store t x y) (n:o.dst=none)
  (F:ev env x=some (.pointer (some ⟨b,j,none⟩))) (I:ev env y=some (.int .i64 v)) (g:lk H i=some (box b tb (wcr l r))) (e:i≠0) (s:∀w,(sizeOf t).run P w= .ok 1 w) (q:j<l.length)
  (f:lk H 0=some (Zt w0 M0)) (D:∀b,w0.heap.size<=b->sc b) (h:M b) :
  T P N sc M o env H (G:=Unit) (λ_=>True) (λ_=>env) (λ_=>(i,box b tb (wcr (l.set j v) r))::H):=by
 rw [<-Yj2 q];exact Zht z n F I g e rfl s rfl (by grind [Zje]) (λu B=>Zl (by rw [List.mem_singleton.1 B];rfl)) rfl f D h
theorem Yh1 (i:Nat)   {e:TypeId} {n c:Nat}   (s:o.op= .slice t x (some y) none none) (z:ev env x=some (.slice (some ⟨b,off,none⟩) n c)) (B:ev env y=some (.int kd m))
  (u:P.underlying t=some (.slice e)) (j:∀w,(sizeOf e).run P w= .ok 1 w) (f:m=(i:Int)) (l:i<n) (q:n<=c):Mt P N sc o env H (.slice (some ⟨b,off+i,none⟩) (n-i) (c-i)):=λa w hs=>by
 subst f;have g:i<=n:=O;have h:=O;simp [execOp,s,hs.ev z,hs.ev B,Instr.sliceAt,Instr.slice,Instr.sliceBounds,Instr.sliceBound,asIntOf,run_underlying u,j,g,h,q,Px];omega
theorem d_prew   {e:TypeId} {n c:Nat}   (l:o.op= .slice t x none (some y) none) (s:ev env x=some (.slice (some ⟨b,0,none⟩) n c)) (u:ev env y=some (.int kd m))
  (q:P.underlying t=some (.slice e)) (j:∀w,(sizeOf e).run P w= .ok 1 w) (f:m=(i:Int)) (g:i<=n) (z:n<=c):Mt P N sc o env H (.slice (some ⟨b,0,none⟩) i c):=λa w hs=>by
 subst f;have h:i<=c:=O;simp [execOp,l,hs.ev s,hs.ev u,Instr.sliceAt,Instr.slice,Instr.sliceBounds,Instr.sliceBound,asIntOf,run_underlying q,j,g,h,Px]
theorem t_clw   {z:TypeId} {e n I:Nat} {l:List Int}   
  (Z:o.op= .call { callee:= .builtin .clear,args:=#[x],argTypes:=#[t] }) (W:o.dst=none)
  (hx:ev env x=some (.slice (some ⟨b,e,none⟩) n I))  (B:lk H i=some (box b tb (wcr l r))) (h:i≠0)
  (hn:0<n) (Y:e+n=l.length) (ht:P.underlying t=some (.slice z)) (F:∀w,(sizeOf z).run P w= .ok 1 w)
  (hz:∀w,(zeroValue z).run P w= .ok (.int .i64 0) w)
  (R:lk H 0=some (Zt w0 M0)) (hw:∀b,w0.heap.size<=b->sc b) (V:M b) :
  T P N sc M o env H (G:=Unit) (λ_=>True) (λ_=>env) (λ_=>(i,box b tb (wcr (l.take e) (List.replicate n (Value.int .i64 0) ++ r)))::H):=λa w hs K Q S=>by
 have D:=hs.hold i _ B;have s:(Builtin.zeroCells (Value.int .i64 0).cells n).toList=List.replicate n (Value.int .i64 0):=by
  apply gU
  .simp [Builtin.zeroCells,Value.cells]
  .intro i h2 h3;simp [Builtin.zeroCells,Value.cells,kR]
 have f:=run_storeCells_at P b e tb (List.replicate n (Value.int .i64 0)) 0 (wcr l r) w D (by grind [Zje,List.length_replicate]) (λu hu=>by rw [List.eq_of_mem_replicate hu];rfl);simp only [fY,aT]at f;have g:((wcr l r).toList.take e ++ List.replicate n (Value.int .i64 0) ++ (wcr l r).toList.drop (e+n)).toArray=wcr (l.take e) (List.replicate n (Value.int .i64 0) ++ r):=by unfold wcr;grind
 rw [g]at f;obtain⟨m,rfl⟩:∃m,n=m+1:=⟨n-1,O⟩;have j:(execOp a.eval o).run P w= .ok (.value (.tuple #[])) (w.setRow b (wcr (l.take e) (List.replicate (m+1) (Value.int .i64 0) ++ r))):=by simp only [execOp,Z,resolve,invoke,builtin];simp [hs.ev hx,Builtin.clear_,run_underlying ht,hz,s,f]
 unfold Oper.wp;rw [j];show K (a.put o.dst _) _;rw [W];exact S () _ _ aA ((hs.upd B rfl h (q:=box b tb (wcr (l.take e) _)) (Hk (M:=λk=>k=b) rfl) (setRow_heap w b _ _ tb _ D) (λk F=> .inl F) R hw).put_none _) (Hk V)
theorem Ylc{a:Act}{fn:Func}(hs:Sat N sc env H a w)(e:fn.results=#[]):(results fn a.tmps).run P w= .ok (.tuple #[]) w:=by simp [results,e]
end Go.Sky
namespace Go.Sky
variable{i k:Nat}{m xs:List Int}{G a':Int}{q:Ze}{r qs:List Ze}
def Srt(l:List Int)(n:Nat):Prop:=∀p q,p<q->q<n->l.getD p 0<=l.getD q 0
def Sst(l:List Int)(n:Nat):Prop:=∀p q,p<q->q<n->l.getD p 0<l.getD q 0
def Yjm(l:List Int)(i j:Nat):Prop:=∀p q,p<q->q<=i->q≠j->l.getD p 0<=l.getD q 0
def Sam(l m:List Int):Prop:=m.length=l.length/\∀x,x∈m↔x∈l
def Sam.rfl'(l:List Int):Sam l l:=⟨rfl,λ_=>mP⟩
def Ziw{l:List Int}{j:Nat}{v:Int}(hi:i<l.length):(l.set i v).getD j 0=if j=i then v else l.getD j 0:=Zhi hi
def swp(l:List Int)(j:Nat):List Int:=(l.set j (l.getD (j-1) 0)).set (j-1) (l.getD j 0)
theorem Zy3(l:List Int)(j:Nat):(swp l j).length=l.length:=by simp [swp]
theorem Zaw{l:List Int}{j:Nat}(b:j<l.length)(a:1<=j)(k:Nat):(swp l j).getD k 0=if k=j-1 then l.getD j 0 else if k=j then l.getD (j-1) 0 else l.getD k 0:=by unfold swp;grind
theorem Fz{l:List Int}{x:Int} : x∈l↔∃k,k<l.length/\l.getD k 0=x:=by
 constructor
 .intro h;obtain⟨k,a,e⟩:=dG.1 h;exact⟨k,a,O4⟩
 grind
theorem Zx0{l:List Int}{j:Nat}(c:j<l.length)(d:1<=j):Sam l (swp l j):=⟨Zy3 l j,λx=>by
 rw [Fz,Fz,Zy3];constructor
 .rintro⟨k,f,e⟩;rw [Zaw c d]at e;grind
 .rintro⟨k,f,e⟩;by_cases a:k=j-1
  .exact⟨j,c,by rw [Zaw c d,<-a];omega⟩
  .by_cases b:k=j
   .exact⟨j-1,O,by rw [Zaw c d,<-b];omega⟩
   .exact⟨k,f,by rw [Zaw c d];omega⟩⟩
def Sam.trans{l n:List Int}(h:Sam l m)(a:Sam m n):Sam l n:=⟨a.1.trans h.1,λx=>(a.2 x).trans (h.2 x)⟩
def srtx_0{l:List Int}(h:Srt l i):Yjm l i i:=λp q a b c=>h p q a O
theorem Zri{l:List Int}{j:Nat}(h:Yjm l i j)(f:j<l.length)(e:1<=j)(o:j<=i)(s:l.getD j 0<l.getD (j-1) 0):Yjm (swp l j) i (j-1):=λp q g d n=>by
 rw [Zaw f e,Zaw f e,aJ n];by_cases a:q=j
 .rw [aO a];by_cases b:p=j-1
  .omega
  .rw [aJ b,aJ O];exact h p _ O O O
 .rw [aJ a];by_cases b:p=j-1
  .rw [aO b];exact h j q O d a
  .rw [aJ b];by_cases c:p=j
   .rw [aO c];exact h _ q O d a
   .rw [aJ c];exact h p q g d a
theorem Ydo{l:List Int}{j:Nat}(h:Yjm l i j)(n:j<=i)(f:j=0\/(1<=j/\¬l.getD j 0<l.getD (j-1) 0)):Srt l (i+1):=λp q e g=>by
 by_cases a:q=j
 .rcases f with b|⟨b,c⟩
  .omega
  .subst a;by_cases d:p=q-1
   .grind
   .have:=h p (q-1) O O O;omega
 .exact h p q e O a
def srt_1(l:List Int):Srt l 1:=λp q a b=>O
structure Cmp (xs zs:List Int):Prop where
 s:Sst zs zs.length
 m:∀x,x∈zs↔x∈xs
theorem Ydn{l:List Int}{n:Nat}(h:Srt l n)(c:∀q,1<=q->q<n->l.getD q 0≠l.getD (q-1) 0):Sst l n:=λp q d a=>by
 have e:=c q O a;have f:=h (q-1) q O a;rcases lN (show p<=q-1 by omega)with b|b
 .have:=h p _ b O;omega
 grind
def Ynn{l:List Int}(h:Srt l l.length)(a:∀q,1<=q->q<l.length->l.getD q 0≠l.getD (q-1) 0):Cmp l l:=⟨Ydn h a,λx=>mP⟩
structure Cml (xs l:List Int) (m k:Nat):Prop where
 k1:1<=k
 km:k<m
 ml:m<=xs.length
 ll:l.length=xs.length
 r:∀q,m<=q+1->l.getD q 0=xs.getD q 0
 s:Sst l k
 e:∀x,(∃p,p<k/\l.getD p 0=x)↔∃p,p<m/\xs.getD p 0=x
 z:l.getD (k-1) 0=xs.getD (m-1) 0
theorem cml_0(hs:Srt xs xs.length)(b:∀q,1<=q->q<k->xs.getD q 0≠xs.getD (q-1) 0)(c:1<=k)(f:k<xs.length)(e:xs.getD k 0=xs.getD (k-1) 0):Cml xs xs (k+1) k:=
 ⟨c,O6,O,rfl,λq _=>rfl,Ydn (λp q a d=>hs p q a O) b,λx=>by grind,O4⟩
theorem cml_eq{l:List Int}{m:Nat}(h:Cml xs l m k)(b:m<xs.length)(e:l.getD m 0=l.getD (m-1) 0):Cml xs l (m+1) k:=by
 have c:=h.r m O6;have d:=h.r (m-1) O;have a:=h.km;refine⟨h.k1,O,b,h.ll,λq f=>h.r q O,h.s,λx=>(h.e x).trans ⟨?_,?_⟩,?_⟩
 .grind
 .grind
 .rw [h.z,show m+1-1=m by rfl];omega
theorem cml_ne{l:List Int}{m:Nat}(hs:Srt xs xs.length)(h:Cml xs l m k)(f:m<xs.length)(u:l.getD m 0≠l.getD (m-1) 0):Cml xs (l.set k (l.getD m 0)) (m+1) (k+1):=by
 have s:=h.r m O6;have j:=h.km;have t:=h.r (m-1) O;have n:=h.ll;have b:k<l.length:=O;have o:=by have:=hs (m-1) m O f;omega
 refine⟨O6,O,f,O4,λq v=>?_,λp q e c=>?_,λx=>?_,?_⟩
 .rw [Ziw b,aJ O];exact h.r q O
 .rw [Ziw b,Ziw b,aJ (show p≠k by omega)];by_cases a:q=k
  .have w:=h.z;rcases lN (show p<=k-1 by omega)with d|d
   .have:=h.s p (k-1) d O;omega
   grind
  .rw [aJ a];exact h.s p q e O
 .constructor
  .rintro⟨p,e,c⟩;rw [Ziw b]at c;by_cases a:p=k
   .grind
   .rw [aJ a]at c;obtain⟨q,d,g⟩:=(h.e x).1 ⟨p,O,c⟩;grind
  .rintro⟨p,e,c⟩;by_cases a:p=m
   .exact⟨k,O6,O4⟩
   .obtain⟨q,d,g⟩:=(h.e x).2 ⟨p,O,c⟩;exact⟨q,O,O4⟩
 grind
theorem Zzd{l:List Int}{p:Nat}(h:p<k):(l.take k).getD p 0=l.getD p 0:=by grind
theorem cml_e{l:List Int}(h:Cml xs l xs.length k):Cmp xs (l.take k):=by
 have e:=h.km;have d:=h.ll;have c:(l.take k).length=k:=O4;refine⟨λp q b a=>?_,λx=>?_⟩
 .rw [c]at a;rw [Zzd O,Zzd a];exact h.s p q b a
 .rw [Fz,Fz,<-h.e x];grind
def Zk1(x:Int):List Int->List Int
 | []=>[x]
 | y::l=>if x<y then x::y::l else if x=y then y::l else y::Zk1 x l
def Inc:List Int->Prop
 | []=>True
 | x::l=>(∀y∈l,x<y)/\Inc l
theorem Zkt{x z:Int} : ∀{l:List Int},z∈Zk1 x l↔z=x\/z∈l
 | []=>by simp [Zk1]
 | y::l=>by
  unfold Zk1;split
  .simp
  .split
   .rename_i h;subst h;simp
   .rw [aU,Zkt,aU];constructor
    .rintro(h|h|h)
     .exact .inr (.inl h)
     .exact .inl h
     .exact .inr (.inr h)
    .rintro(h|h|h)
     .exact .inr (.inl h)
     .exact .inl h
     .exact .inr (.inr h)
theorem Zs7{x:Int} : ∀{l:List Int},Inc l->Inc (Zk1 x l)
 | [],_=>⟨λy h=>(nomatch h),aA⟩
 | y::l,h=>by
  unfold Zk1;split
  .rename_i b;exact⟨λz a=>by
    rcases aU.1 a with rfl|a
    .exact b
    .have:=h.1 z a;omega,h⟩
  .split
   .exact h
   .refine⟨λz a=>?_,Zs7 h.2⟩;rcases Zkt.1 a with rfl|a
    .omega
    .exact h.1 z a
def Zrj(l:List Int):List Int:=l.foldr Zk1 []
def Zk2:∀(l:List Int),Inc (Zrj l)
 | []=>trivial
 | x::l=>Zs7 (Zk2 l)
theorem Zks{z:Int} : ∀{l:List Int},z∈Zrj l↔z∈l
 | []=>mP
 | x::l=>by show z∈Zk1 x (Zrj l)↔_;rw [Zkt,Zks,aU]
theorem Ygf:∀{l m:List Int},Inc l->Inc m->(∀x,x∈l↔x∈m)->l=m
 | [],[],_,_,_=>rfl
 | [],y::m,_,_,h=>absurd ((h y).2 (bW ..)) (λh=>nomatch h)
 | x::l,[],_,_,h=>absurd ((h x).1 (bW ..)) (λh=>nomatch h)
 | x::l,y::m,hl,hm,h=>by
  have e:x=y:=by
   have c:=(h x).1 (bW ..);have b:=(h y).2 (bW ..);rcases aU.1 c with a|a
   .exact a
   .rcases aU.1 b with d|d
    .exact d.symm
    .have:=hm.1 x a;have:=hl.1 y d;omega
  subst e;rw [Ygf hl.2 hm.2 λz=>by
   have c:=h z;rw [aU,aU]at c;constructor
   .intro b;rcases c.1 (.inr b)with a|a
    .have:=hl.1 z b;omega
    .exact a
   .intro b;rcases c.2 (.inr b)with a|a
    .have:=hm.1 z b;omega
    .exact a]
theorem Zy8:∀{l:List Int},Sst l l.length->Inc l
 | [],_=>trivial
 | x::l,h=>⟨λy a=>by obtain⟨k,d,rfl⟩:=Fz.1 a;exact h 0 (k+1) O6 O4,Zy8 λp q b c=>h (p+1) (q+1) O O4⟩
theorem Yih{ys zs:List Int}(b:Sam xs ys)(a:Cmp ys zs):zs=Zrj xs:=
 Ygf (Zy8 a.s) (Zk2 xs) λx=>by rw [a.m,b.2,Zks]
theorem Zxn:∀{l:List Int},Inc l->Sst l l.length
 | [],_=>λp q _ h=>absurd h (bM _)
 | x::l,h=>λp q a b=>by
  match p,q,a with
  | 0,q+1,_=>
   exact h.1 _ (Zj O4)
  | p+1,q+1,a=>exact Zxn h.2 p q O O4
def Yme(j:Nat):j=0\/1<=j:=O
theorem hd_s(h:∀q,1<=q->q<k->xs.getD q 0≠xs.getD (q-1) 0)(a:¬xs.getD k 0=xs.getD (k-1) 0):∀q,1<=q->q<k+1->xs.getD q 0≠xs.getD (q-1) 0:=λq b c=>by grind
theorem Zyb(c:List Int)(a:Int):∀k,plS c a 1 k=Ye (λk=>cf c k*a^k) k
 | 0=>rfl
 | k+1=>by show plS c a 1 k+plT c a 1 k=_;rw [Yr,Zyb c a k];congr 1;show c.getD k 0*(a^k*1^_)=cf c k*a^k;rw [mM,iH];rfl
theorem Zmx(f:Nat->Int):∀n,((Ye f n:Int):Rat)=Hm (λi=>(f i:Rat)) n
 | 0=>rfl
 | n+1=>by rw [Yr,Np,<-Zmx f n];push_cast;rfl
theorem Ye5(c:List Int)(a:Int):((pl c a 1:Int):Rat)=Zc c (a:Rat):=by
 unfold pl;rw [Zyb,Zmx]
 conv=>rhs;rw [<-Zit c]
 rw [Zip];exact Mp _ λi hi=>by rw [<-Zc0];push_cast;rfl
theorem Ymm{p c g a D:Int}(s:0<G)(o:0<D)(j:a*G=g*D)(l:c*G=p*D):((Int.gcd a c:Nat):Int)*G=((Int.gcd g p:Nat):Int)*D:=by have d:=mD a G c;have e:=mD g D p;rw [j,l,e]at d;have f:((G.natAbs:Nat):Int)=G:=O;have h:((D.natAbs:Nat):Int)=D:=O;have b:=aD (λn:Nat=>(n:Int)) d;push_cast at b;rw [f,h]at b;exact b.symm
theorem Zzy{p b g a D:Int}(s:0<G)(l:0<D)(n:0<g)(d:b*G=p*D)(c:a*G=g*D)(o:g∣p):b/a=p/g:=by
 obtain⟨t,rfl⟩:=o;have f:b*G=(a*t)*G:=by rw [d,jR g t D,<-c,jR]
 have h:b=a*t:=jM O f;have j:a≠0:=λe=>by rw [e,cN]at c;have:=fC n l;omega
 rw [h,fA _ j,fA _ O]
theorem Zpm(o a:Int)(x y z:List Int):∀i j,j<=i->gS o a 1 x y z i∣gS o a 1 x y z j/\∀k,k<j->gS o a 1 x y z i∣pl (Yg k x y z) a 1
 | 0,j,h=>by obtain rfl:j=0:=O;exact⟨kE _,λk b=>O⟩
 | i+1,j,h=>by
  have c:gS o a 1 x y z (i+1)∣gS o a 1 x y z i:=Int.gcd_dvd_left ..;have f:gS o a 1 x y z (i+1)∣pl (Yg i x y z) a 1:=iN ..;by_cases g:j=i+1
  .subst g;obtain⟨e,d⟩:=Zpm o a x y z i i (aI _);exact⟨kE _,λk b=>by
    rcases aC.1 b with q|q
    .exact fB c (d k q)
    .subst q;exact f⟩
  .obtain⟨e,d⟩:=Zpm o a x y z i j O;exact⟨fB c e,λk b=>fB c (d k b)⟩
theorem Prt.pl{g:Ze}(h:Prt q g G){a:Int}(d:a*(g.1.2.1-g.1.1)=(q.1.1-g.1.1)+(q.1.2.1-q.1.1)*a')(i:Nat) :
  Sky.pl (Yg i q.2.1.2 q.2.2.1.2 q.2.2.2.2) a' 1*G=Sky.pl (Yg i g.2.1.2 g.2.2.1.2 g.2.2.2.2) a 1*(g.1.2.1-g.1.1)^5:=by
 have b:=h.x i (a:Rat) (a':Rat) (by exact_mod_cast d);rw [<-Ye5,<-Ye5,<-Zc0]at b;have c:((Sky.pl (Yg i q.2.1.2 q.2.2.1.2 q.2.2.2.2) a' 1*G:Int):Rat)=((Sky.pl (Yg i g.2.1.2 g.2.2.1.2 g.2.2.2.2) a 1*(g.1.2.1-g.1.1)^5:Int):Rat):=by rw [Rat.intCast_mul,Rat.intCast_mul,b,kF]
 exact_mod_cast c
theorem Zyy{g:Ze}(h:Prt q g G)(o:SgG g){a:Int}(l:0<=a/\a<=1)(p:a*(g.1.2.1-g.1.1)=(q.1.1-g.1.1)+(q.1.2.1-q.1.1)*a') :
  (∀i,i<3->pl (Yg i q.2.1.2 q.2.2.1.2 q.2.2.2.2) a' 1/gS q.1.2.2 a' 1 q.2.1.2 q.2.2.1.2 q.2.2.2.2 3=pl (Yg i g.2.1.2 g.2.2.1.2 g.2.2.2.2) a 1/gS g.1.2.2 a 1 g.2.1.2 g.2.2.1.2 g.2.2.2.2 3)/\
  q.1.2.2*1^5/gS q.1.2.2 a' 1 q.2.1.2 q.2.2.1.2 q.2.2.2.2 3=g.1.2.2*1^5/gS g.1.2.2 a 1 g.2.1.2 g.2.2.1.2 g.2.2.2.2 3:=by
 have n:0<g.1.2.1-g.1.1:=by have:=h.a0;have:=h.b0;have:=h.ab;omega
 have e:0<(g.1.2.1-g.1.1)^5:=iI n;have b:=(Zzf o (a:=a) (d:=1) ⟨l.1,O⟩ ⟨O3,O3⟩ 3).1;have c:=λi=>h.pl p i;have hs:∀i,gS q.1.2.2 a' 1 q.2.1.2 q.2.2.1.2 q.2.2.2.2 i*G=gS g.1.2.2 a 1 g.2.1.2 g.2.2.1.2 g.2.2.2.2 i*(g.1.2.1-g.1.1)^5:=by
  intro i
  induction i with
  | zero=>
   show q.1.2.2*1^5*G=g.1.2.2*1^5*_;rw [mM,iH,iH];exact h.o
  | succ i s=>
   show((Int.gcd (gS q.1.2.2 a' 1 q.2.1.2 q.2.2.1.2 q.2.2.2.2 i) (pl (Yg i q.2.1.2 q.2.2.1.2 q.2.2.2.2) a' 1):Nat):Int)*G=((Int.gcd (gS g.1.2.2 a 1 g.2.1.2 g.2.2.1.2 g.2.2.2.2 i) (pl (Yg i g.2.1.2 g.2.2.1.2 g.2.2.2.2) a 1):Nat):Int)*_;exact Ymm h.g0 e s (c i)
 obtain⟨t,f⟩:=Zpm g.1.2.2 a g.2.1.2 g.2.2.1.2 g.2.2.2.2 3 3 (aI _);obtain⟨j,-⟩:=Zpm g.1.2.2 a g.2.1.2 g.2.2.1.2 g.2.2.2.2 3 0 O3;refine⟨λi hi=>Zzy h.g0 e b (c i) (hs 3) (f i hi),Zzy h.g0 e b ?_ (hs 3) j⟩;rw [mM,iH,iH];exact h.o
theorem me_prt{g h r:Ze}{K:Int}(o:SgG g)(p:SgG h)(t:Prt q g G)(u:Prt r h K)(d:q.1.2.1=g.1.2.1)(c:r.1.1=h.1.1)(s:meG g h=true):meG q r=true:=by
 obtain⟨b,v⟩:=Zyy t o (a:=1) (a':=1) ⟨O3,O3⟩ (by rw [d];omega);obtain⟨r1,r2⟩:=Zyy u p (a:=0) (a':=0) ⟨O3,O3⟩ (by rw [c];omega);unfold meG Zku sameP at *;rw [aQ,eZ,eZ]at *;obtain⟨e,f,j,l,n⟩:=s;refine⟨by rw [d,c];exact e,?_,?_,?_,?_⟩
 .exact(b 0 O3).trans (f.trans (r1 0 O3).symm)
 .exact(b 1 O3).trans (j.trans (r1 1 O3).symm)
 .exact(b 2 O3).trans (l.trans (r1 2 O3).symm)
 .exact v.trans (n.trans r2.symm)
structure Chn (ps:List Ze):Prop where
 lt:∀g∈ps,g.1.1<g.1.2.1
 eq:∀(i:Nat) (g h:Ze),ps[i]? = some g->ps[i+1]? = some h->g.1.2.1=h.1.1
def Chn.tail{g:Ze}(h:Chn (g::r)):Chn r:=⟨λx a=>h.lt x (bN _ a),λi x y a b=>h.eq (i+1) x y a b⟩
theorem Chn.ge:∀{r:List Ze} {g:Ze},Chn (g::r)->∀x∈r,g.1.2.1<=x.1.1
 | [],_,_,_,a=>nomatch a
 | h::r,g,hc,x,a=>by
  have b:=hc.eq 0 g h rfl rfl;rcases aU.1 a with rfl|a
  .omega
  .have:=Chn.ge hc.tail x a;have:=hc.lt h O6;omega
theorem Ziz{fr l:Int} : ∀{ps:List Ze},Chn ps->∀(j:Nat) (f d:Ze),(ps.filter (Ln fr l))[j]? = some f->(ps.filter (Ln fr l))[j+1]? = some d->∃i:Nat,ps[i]? = some f/\ps[i+1]? = some d
 | [],_,j,f,d,h,_=>by simp at h
 | g::r,hc,j,f,d,h1,c=>by
  cases hp:Ln fr l g with
  | false=>
   rw [fV (by rw [hp];exact bF)]at h1 c;obtain⟨i,a,b⟩:=Ziz hc.tail j f d h1 c;exact⟨i+1,a,b⟩
  | true=>
   rw [eE hp]at h1 c
   match j with
   | j+1=>
    obtain⟨i,a,b⟩:=Ziz hc.tail j f d h1 c;exact⟨i+1,a,b⟩
   | 0=>
    obtain rfl:g=f:=by simpa using h1
    have c:(r.filter (Ln fr l))[0]? = some d:=c;have s:d∈r.filter (Ln fr l):=dH c;obtain⟨e,n⟩:=fM.1 s
    match r,hc,c,e with
    | h::r,hc,c,e=>
     have u:=hc.eq 0 g h rfl rfl;have v:=hc.lt h O6;have t:=cH hp;have o:=cH n;have p:Ln fr l h=true:=by
      refine aE ?_;unfold cA cB at *;rcases aU.1 e with rfl|q
      .exact o
      .have:=Chn.ge hc.tail d q;omega
     rw [eE p]at c;obtain rfl:h=d:=by simpa using c
     exact⟨0,rfl,rfl⟩
theorem getD_some{α:Type}{l:List α}{x d:α}(h:l[i]? = some x):l.getD i d=x:=by rw [aN,h];rfl
theorem Fx{ps:List Ze}(hi:∀g∈ps,Gin g)(n:Xb ps=true):Chn ps/\(∀g∈ps,seB g=true)/\∀(i:Nat) (g h:Ze),ps[i]? = some g->ps[i+1]? = some h->meG g h=true:=by
 obtain⟨l,o,p⟩:=Oi n;have d:∀g∈ps,seB g=true:=λg a=>by obtain⟨i,b,e⟩:=dG.1 a;have:=Cu (l i b);rw [aN,aM b,eY,e]at this;exact this
 have c:∀(i:Nat) (g h:Ze),ps[i]? = some g->ps[i+1]? = some h->meG g h=true:=λi g h a f=>by have j:=(cJ.1 f).1;have:=l (i+1) j;rw [Zkg (Cu this) O,lM,getD_some a,getD_some f]at this;exact this
 refine⟨⟨λg a=>(Ib (hi g a) (d g a)).t2,λi g h a f=>?_⟩,d,c⟩;have:=c i g h a f;unfold meG Zku at this;rw [aQ,eZ]at this;exact this.1
structure Pat (fr to:Int) (ps qs:List Ze):Prop where
 gin:∀q∈qs,Gin q
 pb:Xb qs=true
 len:qs.length=(ps.filter (Ln fr to)).length
 prt:∀(j:Nat) (q:Ze),qs[j]? = some q->∃f:Ze,(ps.filter (Ln fr to))[j]? = some f/\f∈ps/\Prt q f (cG fr to f)
 nxt:∀(j:Nat) (q r:Ze),qs[j]? = some q->qs[j+1]? = some r->∃(i:Nat) (f h:Ze),ps[i]? = some f/\ps[i+1]? = some h/\Prt q f (cG fr to f)/\Prt r h (cG fr to h)/\q.1.2.1=f.1.2.1/\r.1.1=h.1.1
theorem Yh7{fr d:Int}{ps:List Ze}(hi:∀g∈ps,Gin g)(N:Xb ps=true)(w:Pn fr d ps=true)(R:qs.map Dq=(ps.filter (Ln fr d)).map (Zwn fr d))(I:ps.filter (Ln fr d)≠[]):Pat fr d ps qs:=by
 obtain⟨P,t,H⟩:=Fx hi N;have hl:qs.length=(ps.filter (Ln fr d)).length:=by have:=aD List.length R;rwa [bJ,bJ]at this
 have z:∀(j:Nat) (q:Ze),qs[j]? = some q->∃f:Ze,(ps.filter (Ln fr d))[j]? = some f/\f∈ps/\Ln fr d f=true/\Dq q=Zwn fr d f/\Gin q/\seB q=true/\Prt q f (cG fr d f):=λj q n=>by have a0:=(cJ.1 n).1;have x:(ps.filter (Ln fr d))[j]? = some ((ps.filter (Ln fr d))[j]' O):=aM O;generalize (ps.filter (Ln fr d))[j]' O=f at x;obtain⟨u,B⟩:=fM.1 (dH x);have e:=aD (λl:List Zhs=>l[j]?) R;simp only [gJ,n,x,Option.map_some,iJ]at e;have hk:Zgf fr d f=true:=bA.1 w f (dH x);obtain⟨a,b,c⟩:=Zz3 (hi f u) (t f u) B hk e;exact⟨f,x,u,B,e,a,b,c⟩
 have Q:∀(j:Nat) (q r:Ze),qs[j]? = some q->qs[j+1]? = some r->∃(i:Nat) (f h:Ze),ps[i]? = some f/\ps[i+1]? = some h/\Prt q f (cG fr d f)/\Prt r h (cG fr d h)/\q.1.2.1=f.1.2.1/\r.1.1=h.1.1:=λj q r n hr=>by
  obtain⟨f,f1,f2,f3,f4,-,-,f7⟩:=z j q n;obtain⟨h,F,Z,h3,h4,-,-,h7⟩:=z (j+1) r hr;obtain⟨i,S,V⟩:=Ziz P j f h f1 F;have e1:=P.eq i f h S V;have c1:=cH f3;have c2:=cH h3;have q1:q.1=(cA fr f,cB d f,mdO (cO f) (cG fr d f)):=aD Prod.fst f4;have r1:r.1=(cA fr h,cB d h,mdO (cO h) (cG fr d h)):=aD Prod.fst h4;refine⟨i,f,h,S,V,f7,h7,?_,?_⟩
  .rw [q1];show cB d f=_;unfold cA cB at *;omega
  .rw [r1];show cA fr h=_;unfold cA cB at *;omega
 have y:∀q∈qs,Gin q:=λq M=>by obtain⟨j,n⟩:=eN.1 M;obtain⟨f,-,-,-,-,h,-⟩:=z j q n;exact h
 have v:qs.length<=256:=by have F:=gF (Ln fr d) ps;have Z:=(Oi N).2.2;omega
 have F:1<=qs.length:=by have:=aL.2 I;omega
 refine⟨y,?_,hl,λj q n=>?_,Q⟩
 .rw [Zox (λi o=>?_),aE ⟨F,v⟩];have n:qs[i]? = some (qs[i]'(o)):=aM o;generalize qs[i]'(o)=q at n;obtain⟨f,-,-,-,-,-,hs,-⟩:=z i q n;rcases aX i with D|D
  .exact Zvn (by rw [getD_some n];exact hs) D
  .rw [Zkg (by rw [getD_some n];exact hs) D,getD_some n];have s:qs[i-1]? = some (qs[i-1]' O):=aM O;generalize qs[i-1]' O=p at s;rw [getD_some s];obtain⟨k,f,h,W,Y,k3,k4,k5,k6⟩:=Q (i-1) p q s (by rw [lO D];exact n);have u:=dH W;have B:=dH Y;exact me_prt (Ib (hi f u) (t f u)) (Ib (hi h B) (t h B)) k3 k4 k5 k6 (H k f h W Y)
 .obtain⟨f,f1,f2,-,-,-,-,f7⟩:=z j q n;exact⟨f,f1,f2,f7⟩
theorem Zwm{fr b:Int} : ∀{ps:List Ze},Chn ps->ps≠[]->spF ps<=fr->fr<b->b<=spL ps->ps.filter (Ln fr b)≠[]
 | [],_,h,_,_,_=>absurd rfl h
 | g::r,hc,_,f,h2,a=>by
  have l:=hc.lt g O6;have f:g.1.1<=fr:=f;by_cases c:Ln fr b g=true
  .rw [eE c];exact List.cons_ne_nil _ _
  .have d:¬cA fr g<cB b g:=λh=>c (aE h);have e:g.1.2.1<=fr:=by unfold cA cB at d;omega
   rw [fV c]
   match r,hc,a with
   | [],_,a=>
    have a:b<=g.1.2.1:=a;omega
   | h::r,hc,a=>
    have j:=hc.eq 0 g h rfl rfl;refine Zwm hc.tail (List.cons_ne_nil _ _) (by show h.1.1<=fr;omega) h2 ?_;have:spL (g::h::r)=spL (h::r):=by unfold spL;simp
    rw [<-this];exact a
end Go.Sky

