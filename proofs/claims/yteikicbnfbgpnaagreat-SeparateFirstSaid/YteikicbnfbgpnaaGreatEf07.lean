/- Rules, arithmetic and contracts: part 8. No conditions but those that each theorem names. -/
import Derived.Test.YteikicbnfbgpnaaGreatEf06
import Derived.RangeFuncFrom
import Derived.RangeFuncLeaves
import Derived.OrdersIn
import Derived.TacticsIn
import Derived.RangeFuncCalls
set_option linter.all false
namespace Go.Sky
variable{xs p c z y q l1 l2 l3:List Int}{m i:Nat}{a b d x ov:Int}{u v:Value}{zs:List (SL×List Int)}{s:SL}{f:Nat->Value}{d0:SL×List Int}{M M0:Nat->Prop}
def lessx(xs:List Int)(m:Int):List Int:=Ei xs (tzl [m])
def Zxo(xs:List Int)(m:Int):Prop:=∃x:Rat,0<=x/\x<=1/\Zg xs x<(m:Rat)
theorem Yfw{m n:Int}(h:Zxo xs m)(e:m<=n):Zxo xs n:=by
 obtain⟨x,a,b,c⟩:=h;have:(m:Rat)<=(n:Rat):=by exact_mod_cast e
 exact⟨x,a,b,O4⟩
def lws:List Int->Int
 | []=>0
 | c::p=>-(c.natAbs:Int)+lws p
theorem Yk6{n:Nat} : ∀p:List Int,(∀c∈p,c.natAbs<=n)->-((p.length*n:Nat):Int)<=lws p/\lws p<=0
 | [],_=>by show -((0*n:Nat):Int)<=0/\(0:Int)<=0;omega
 | c::p,h=>by have g:=Yk6 p λd e=>h d (bE _ e);have j:=h c bK;show -(((p.length+1)*n:Nat):Int)<=-(c.natAbs:Int)+lws p/\-(c.natAbs:Int)+lws p<=0;rw [cY];omega
theorem Yca{x:Rat}(g:0<=x)(k:x<=1):∀p:List Int,((lws p:Int):Rat)<=Zg p x
 | []=>by show((0:Int):Rat)<=0;exact jP
 | c::p=>by
  have j:=Yca g k p;have o:=(Yk6 (n:=p.foldl (λm c=>max m c.natAbs) 0) p (λc e=>by
   have:∀(l:List Int) (a:Nat),(a<=l.foldl (λm c=>max m c.natAbs) a)/\∀c∈l,c.natAbs<=l.foldl (λm c=>max m c.natAbs) a:=λl=>by
    induction l with
    | nil=>intro a;exact⟨aI _,λc e=>absurd e O5⟩
    | cons d l j=>
     intro a;obtain⟨h,w⟩:=j (max a d.natAbs);refine⟨aB (Nat.le_max_left _ _) h,λc e=>?_⟩;rcases bB.1 e with rfl|e
     .exact aB (Nat.le_max_right _ _) h
     .exact w c e
   exact(this p 0).2 c e)).2
  have r:((lws p:Int):Rat)<=0:=by exact_mod_cast o
  have e:((-(c.natAbs:Int):Int):Rat)<=(c:Rat):=by exact_mod_cast (show -(c.natAbs:Int)<=c by omega)
  have B:=aH (show 0<=1-x by grind) (show 0<=-((lws p:Int):Rat) by grind);have t:=aH g (show 0<=Zg p x-((lws p:Int):Rat) by grind);show((-(c.natAbs:Int)+lws p:Int):Rat)<=(c:Rat)+x*Zg p x;push_cast at e ⊢;grind
theorem Yk9(xs:List Int):¬Zxo xs (lws xs):=by rintro⟨x,a,b,c⟩;have:=Yca a b xs;grind
theorem Yp6(xs:List Int):Zg xs 0=((cf xs 0:Int):Rat):=by
 cases xs with
 | nil=>rfl
 | cons c p=>show(c:Rat)+0*Zg p 0=(c:Rat);grind
theorem Yfx(xs:List Int):Zxo xs (cf xs 0+1):=by refine⟨0,O4,O3,?_⟩;rw [Yp6];push_cast;grind
theorem Yq4{l h:Int}(e:¬Zxo xs l)(g:Zxo xs h):l<h:=by
 rcases gL l h with q|q
 .exact q
 .exact absurd (Yfw g q) e
def Zuc(hs:Sz 40 xs)(i:Nat):(cf xs i).natAbs<1099511627776:=(Qo 40 _).1 (hs i)
theorem Yk5(hs:Sz 40 xs)(t:xs.length<=9)(i:Nat):-9895604649984<=lws (xs.take i)/\lws (xs.take i)<=0:=by
 obtain⟨l,g⟩:=Yk6 (n:=1099511627776) (xs.take i) λc h=>by
  obtain⟨k,j,rfl⟩:=cW.1 h;have r:=Zuc hs k;rw [cD]at j;have e:(xs.take i)[k]=cf xs k:=by rw [List.getElem_take];unfold cf;rw [aK,aN O];rfl
  rw [e];omega
 have o:(xs.take i).length*1099511627776<=9*1099511627776:=aL _ (by rw [cD];omega);exact⟨O,g⟩
structure FlI (xs:List Int) (lo hi:Int):Prop where
 l:¬Zxo xs lo
 h:Zxo xs hi
 b1:-17592186044416<=lo
 b2:hi<=17592186044416
def FlI.lt{e hi:Int}(h:FlI xs e hi):e<hi:=Yq4 h.l h.h
theorem FlI.start(hs:Sz 40 xs)(e:xs.length<=9)(hi:xs.length<=i):FlI xs (lws (xs.take i)) (cf xs 0+1):=by have g:=Yk5 hs e i;have h:=Zuc hs 0;refine⟨by rw [cI hi];exact Yk9 xs,Yfx xs,O,O⟩
structure Ef (a:R2):Prop where
 p:0<a.2
 b1:bl a.1.natAbs<=512
 b2:bl a.2.natAbs<=512
def E32.ef{a:R2}(h:E32 a):Ef a:=⟨h.p,aB h.b1 O3,aB h.b2 O3⟩
def plx(a b:R2):Int:=a.1*b.2
def ply(a b:R2):Int:=b.1*a.2
def pld(a b:R2):Int:=a.2*b.2
def plc(xs:List Int)(a b:R2):List Int:=Lm xs (plx a b) (ply a b-plx a b) (pld a b)
def psum(c:List Int)(d j:Nat)(i:Nat):Int:=Yj (λi=>cf c i*(Ot (d-i) (j-i):Int)) i
def plainB(xs:List Int)(a b:R2):Bool:=if xs.length=0 then true else(List.range xs.length).all λj=>decide (0<=psum (plc xs a b) (xs.length-1) j (min (j+1) (plc xs a b).length))
abbrev PTs:=Int×R2×R2
abbrev P0:PTs:=(0,(0,0),(0,0))
abbrev encP9 (z:PTs):Value:= .agg #[.int .i64 z.1,.bool (decide (z.2.1.1<0)),.string (Qq z.2.1.1.natAbs),.bool (decide (z.2.1.2<0)),.string (Qq z.2.1.2.natAbs),.bool (decide (z.2.2.1<0)),.string (Qq z.2.2.1.natAbs),.bool (decide (z.2.2.2<0)),.string (Qq z.2.2.2.natAbs)]
def shw(xs:List Int)(z:PTs):Bool:=if z.1=1 then plainB xs z.2.1 z.2.2 else if xs.length=0\/cmp z.2.1 z.2.2=0 then decide (0<=vlu (Pk xs) z.2.1)else decide (0<aft (Pk xs) z.2.1) && !crb (Ah xs) z.2.1 z.2.2
def okpB(xs:List Int)(l:R2)(z:PTs):Bool:=decide (cmp l z.2.1=0) && decide (¬0<cmp z.2.1 z.2.2) && shw xs z
def lst(a:R2)(ps:List PTs)(i:Nat):R2:=if i=0 then a else(ps.getD (i-1) P0).2.2
def chkP(xs:List Int)(ps:List PTs)(a b:R2):Bool:=decide (0<ps.length) && (List.range ps.length).all (λk=>okpB xs (lst a ps k) (ps.getD k P0)) && decide (cmp (lst a ps ps.length) b=0)
def ValP(ps:List PTs):Prop:=∀z∈ps,(z.1=1\/z.1=2)/\Ef z.2.1/\Ef z.2.2
theorem Ef.efit{a:R2}(h:Ef a):Go.Sky.efit a=true:=by have:=h.b1;have:=h.b2;unfold Go.Sky.efit;exact aJ O
theorem Zi9{b:Bool}(h:(!b)=true):b=false:=by cases b<;>simp_all
theorem Zja{b:Bool}(h:(!b)=false):b=true:=by cases b<;>simp_all
def Gc(f:Nat->Rat):Nat->Rat
 | 0=>0
 | n+1=>Gc f n+f n
def Me(f:Nat->Rat)(n:Nat):Gc f (n+1)=Gc f n+f n:=rfl
theorem Lk{f g:Nat->Rat} : ∀n,(∀i,i<n->f i=g i)->Gc f n=Gc g n
 | 0,_=>rfl
 | n+1,h=>by rw [Me,Me,Lk n λi hi=>h i O,h n O]
theorem Ca(f:Nat->Rat):∀n,Gc f (n+1)=f 0+Gc (λi=>f (i+1)) n
 | 0=>by show 0+f 0=f 0+0;grind
 | n+1=>by rw [Me,Ca f n,Me];grind
theorem Zmd(f g:Nat->Rat):∀n,Gc (λi=>f i+g i) n=Gc f n+Gc g n
 | 0=>by show(0:Rat)=0+0;grind
 | n+1=>by rw [Me,Me,Me,Zmd f g n];grind
theorem Eu(c:Rat)(f:Nat->Rat):∀n,Gc (λi=>c*f i) n=c*Gc f n
 | 0=>by show(0:Rat)=c*0;grind
 | n+1=>by rw [Me,Me,Eu c f n];grind
theorem Znn(n:Nat):Ot n 0=1:=by cases n<;>rfl
def chz_s(n k:Nat):Ot (n+1) (k+1)=Ot n k+Ot n (k+1):=rfl
theorem Ynw{u w:Rat}(h:u+w=1):∀n,Gc (λj=>(Ot n j:Rat)*(u^j*w^(n-j))) (n+1)=1
 | 0=>by rw [Ca];show((Ot 0 0:Nat):Rat)*(u^0*w^0)+0=1;rw [Znn,dW,dW];push_cast;grind
 | n+1=>by
  have e:=Ynw h n;rw [Ca];have g:Gc (λi=>(Ot (n+1) (i+1):Rat)*(u^(i+1)*w^(n+1-(i+1)))) (n+1)=Gc (λi=>u*((Ot n i:Rat)*(u^i*w^(n-i)))) (n+1)+Gc (λi=>(Ot n (i+1):Rat)*(u^(i+1)*w^(n-i))) (n+1):=by rw [<-Zmd];refine Lk _ λi hi=>?_;rw [chz_s,show n+1-(i+1)=n-i by omega,dB];push_cast;grind
  have k:Gc (λi=>(Ot n (i+1):Rat)*(u^(i+1)*w^(n-i))) (n+1)=Gc (λi=>(Ot n (i+1):Rat)*(u^(i+1)*w^(n-i))) n:=by rw [Me,Znm n (n+1) O];push_cast;grind
  have l:w*Gc (λj=>(Ot n j:Rat)*(u^j*w^(n-j))) (n+1)=w^(n+1)+Gc (λi=>(Ot n (i+1):Rat)*(u^(i+1)*w^(n-i))) n:=by
   rw [<-Eu,Ca,Znn];congr 1
   .rw [jR,dW,dB];push_cast;grind
   .refine Lk _ λi hi=>?_;rw [show n-i=(n-(i+1))+1 by omega,dB w];grind
  rw [g,k,Eu,e];rw [e]at l;rw [Znn,dW,jR];push_cast;grind
def Hi(d:Nat)(c:List Int)(j:Nat):Int:=Yj (λi=>cf c i*(Ot (d-i) (j-i):Int)) (j+1)
theorem brS_0(d:Nat)(a:Int)(c:List Int):Hi d (a::c) 0=a:=by unfold Hi;rw [Ym,Ga];show 0+a*((Ot (d-0) (0-0):Nat):Int)=a;rw [show 0-0=0 from rfl,Znn];omega
theorem brS_s(d:Nat)(a:Int)(c:List Int)(j:Nat):Hi (d+1) (a::c) (j+1)=a*(Ot (d+1) (j+1):Int)+Hi d c j:=by unfold Hi;rw [Mv];congr 1;refine Xg λi hi=>?_;rw [show d+1-(i+1)=d-i by omega,show j+1-(i+1)=j-i by omega];rfl
theorem Ys3(d j:Nat):Hi d [] j=0:=by unfold Hi;exact(Zif (m:=0) (bA _) λi _ _=>by rw [show cf [] i=0 from rfl,cN]).trans (Ga _)
theorem bern{u w:Rat}(h:u+w=1):∀(d:Nat) (c:List Int),c.length<=d+1->Gc (λj=>(Hi d c j:Rat)*(u^j*w^(d-j))) (d+1)=Zg c u
 | d,[],_=>by
  rw [Lk (g:=λ_=>0) (d+1) λi hi=>by rw [Ys3];push_cast;grind];show Gc (λ_=>0) (d+1)=0;have:∀n,Gc (λ_=>0) n=0:=λn=>by
   induction n with
   | zero=>rfl
   | succ n k=>rw [Me,k];grind
  exact this _
 | 0,[a],_=>by rw [Me,brS_0];show 0+(a:Rat)*(u^0*w^0)=(a:Rat)+u*0;rw [dW,dW];grind
 | 0,a::b::c,hl=>by simp at hl
 | d+1,a::c,hl=>by
  have k:=bern h d c (by simpa using hl);have e:=Ynw h (d+1);rw [Ca]at e;rw [Ca,brS_0];have l:Gc (λi=>(Hi (d+1) (a::c) (i+1):Rat)*(u^(i+1)*w^(d+1-(i+1)))) (d+1)=(a:Rat)*Gc (λi=>(Ot (d+1) (i+1):Rat)*(u^(i+1)*w^(d+1-(i+1)))) (d+1)+u*Gc (λj=>(Hi d c j:Rat)*(u^j*w^(d-j))) (d+1):=by rw [<-Eu,<-Eu,<-Zmd];refine Lk _ λi hi=>?_;rw [brS_s,show d+1-(i+1)=d-i by omega,dB];push_cast;grind
  rw [l,k];show _=(a:Rat)+u*Zg c u;rw [Znn]at e;push_cast at e ⊢;grind
theorem Co(a:Int):∀(c:List Int) (i:Nat),cf (c.map λx=>a*x) i=a*cf c i
 | [],i=>by rw [iA,show cf [] i=0 from rfl,eG]
 | x::c,0=>rfl
 | x::c,i+1=>Co a c i
theorem Zx8(c:List Int)(a b e:Int)(u:Rat):Zg (mk (c.length+1) λt=>cf c t*a+(if t=0 then e else cf c (t-1)*b)) u=Zg c u*((a:Rat)+(b:Rat)*u)+(e:Rat):=by
 have h:Zg (mk (c.length+1) λt=>cf c t*a+(if t=0 then e else cf c (t-1)*b)) u=Zg (Mp (c.map λx=>a*x) (e::c.map λx=>b*x)) u:=Na u _ _ λi=>by
  rw [Mt,Co,Nv]
  match i with
  | 0=>rw [aM O,aM rfl];show cf c 0*a+e=a*cf c 0+e;rw [eE]
  | i+1=>
   show _=a*cf c (i+1)+cf (c.map λx=>b*x) i;rw [Co];by_cases hi:i<c.length
   .rw [aM O,aG O,eK,eE,eE (cf c i)]
   .rw [aG O,Yn (p:=c) (i:=i+1) O,Yn (p:=c) (i:=i) O];omega
 rw [h,Xp,Zp];show _+((e:Rat)+u*Zg (c.map λx=>b*x) u)=_;rw [Zp];grind
theorem Zu1(p:List Int)(a b d:Int){t u:Rat}(g:t*(d:Rat)=(a:Rat)+(b:Rat)*u):∀j,j+1<=p.length->Zg (Kd p a b d j) u=(d:Rat)^j*Zg (p.drop (p.length-1-j)) t
 | 0,h=>by
  have e:p.drop (p.length-1-0)=[cf p (p.length-1)]:=by rw [jR,eC O,lO O];congr 1;unfold cf;rw [aK,aN O];rfl
  rw [Ec,e,dW,Px,Px];grind
 | j+1,h=>by
  have k:=Zu1 p a b d g j O;have e:p.drop (p.length-1-(j+1))=cf p (p.length-2-j)::p.drop (p.length-1-j):=by rw [eC O,show p.length-1-(j+1)+1=p.length-1-j by omega];congr 1;unfold cf;rw [aK,aN O];show p[p.length-1-(j+1)]=p[p.length-2-j];congr 1;omega
  rw [Zp1,Zx8,k,e,<-g];show _=(d:Rat)^(j+1)*((cf p (p.length-2-j):Rat)+t*Zg (p.drop (p.length-1-j)) t);rw [dB];push_cast;rw [dB];generalize (d:Rat)^j=D;grind
theorem Zl6(a b d:Int){t u:Rat}(g:t*(d:Rat)=(a:Rat)+(b:Rat)*u)(e:p.length≠0):Zg (Lm p a b d) u=(d:Rat)^(p.length-1)*Zg p t:=by unfold Lm;rw [aG e,Na u (tzl _) _ (λi=>Lb _ i),Zu1 p a b d g (p.length-1) O,fI,gU]
def Qu(c:List Int)(a b d:Int):List Int:=Zr (Lm (tzl c) a b d) (d^(6-c.length))
def Zcr(h:a.natAbs<=3600000):bl a.natAbs<=22:=(Qo 22 _).2 (aW h O3)
theorem Zp5(h:bl d.natAbs<=22):∀k,k<=5->bl (d^k).natAbs<=132
 | 0,_=>by rw [dE];decide
 | k+1,g=>by
  have e:∀k,bl (d^k).natAbs<=22*k+1:=λk=>by
   induction k with
   | zero=>rw [dE];decide
   | succ k j=>rw [dG];have:=Yr (d^k) d;omega
  have:=e (k+1);omega
theorem Zi8(h:∀a∈c,Nw a)(D:1<=c.length/\c.length<=6)(w:a.natAbs<=3600000)(B:b.natAbs<=3600000)(P:1<=d/\d<=3600000) :
  Vp (tzl c)/\¬Znk (tzl c) a b d/\Vp (Lm (tzl c) a b d)/\bl (d^(6-c.length)).natAbs<=132/\(∀i,bl (cf (Lm (tzl c) a b d) i*d^(6-c.length)).natAbs<=65536)/\Vp (Qu c a b d)/\Sz 1000 (Qu c a b d)/\(Qu c a b d).length<=6:=by
 have H:(tzl c).length<=6:=aB (Mc c) D.2;have n:Sz 64 (tzl c):=(ab_in h).sz O3;have o:=Zcr w;have r:=Zcr B;have g:bl d.natAbs<=22:=Zcr O;have l:=cp_not (cp_nf n o r g O O);have hs:Sz 300 (Lm (tzl c) a b d):=by
  have h:=Zkg (x:=a) (y:=b) (z:=d) (m:=22) n o r g ((tzl c).length-1);unfold Lm;split
  .exact Sz.nil _
  .refine(Sz.tzl h).mono ?_;have:((tzl c).length-1)*(22+1)<=5*23:=aP O O;omega
 have G:Tr (Lm (tzl c) a b d):=by
  unfold Lm;split
  .exact .inl rfl
  .exact Qj _
 have j:(Lm (tzl c) a b d).length<=6:=aB (Zfy _ _ _ _) H;have F:=Zp5 g (6-c.length) O;have t:∀i,bl (cf (Lm (tzl c) a b d) i*d^(6-c.length)).natAbs<=500:=λi=>by have I:=hs i;have N:=Yr (cf (Lm (tzl c) a b d) i) (d^(6-c.length));omega
 have e:Sz 1000 (Qu c a b d):=λi=>by unfold Qu;rw [Yi];have:=t i;omega
 have k:(Qu c a b d).length<=6:=aB (Oj _ _) j;exact⟨⟨n.mono O,Qj _,O⟩,l,⟨hs.mono O,G,O⟩,F,λi=>by have:=t i;omega,⟨e.mono O,Qk _ _,O⟩,e,k⟩
def Zvk(zs:List (SL×List Int)):List (SL×List Int):=zs ++ List.replicate (3-zs.length) ((none,0,0),[])
theorem Ylc(h:zs.length<=3):(Zvk zs).length=3:=by unfold Zvk;rw [bL,aO];omega
theorem Ykc{z:SL×List Int}(hi:i<3)(h:zs.length=i):(Zvk zs).set i z=Zvk (zs ++ [z]):=by subst h;unfold Zvk;rw [jZ _ _ (aI _),fI,bL,eJ];congr 1;obtain⟨k,e⟩:∃k,3-zs.length=k+1:=⟨2-zs.length,O⟩;rw [e,jC,kT,show 3-(zs.length+[z].length)=k by simp;omega];rfl
theorem Zxb{t:Nat}{f:Nat->List Int}(g:zs.length=i)(h:∀t,t<i->(zs.getD t d0).2=f t)(j:t<i+1):((zs ++ [(s,f i)]).getD t d0).2=f t:=by
 subst g;rw [aK];rcases aZ.1 j with e|e
 .rw [fE e,<-aK];exact h t e
 .subst e;simp
theorem Yhj{x:List Int}(k:zs.length=3)(h:∀t,t<3->(zs.getD t d0).2=Qu (Zu t x y z) a b d):∃l n o:SL,zs=[(l,Qu x a b d),(n,Qu y a b d),(o,Qu z a b d)]:=by
 match zs,k with
 | [r,w,B],_=>
  have e:=h 0 O3;have g:=h 1 O3;have j:=h 2 O3;simp [Zu]at e g j;exact⟨r.1,w.1,B.1,by rw [<-e,<-g,<-j]⟩
def Ymt:List Int->List Int
 | []=>[]
 | a::p=>a::0::Ymt p
theorem Zqz(x:Rat):∀p:List Int,Zg (Ymt p) x=Zg p (x*x)
 | []=>rfl
 | a::p=>by show(a:Rat)+x*(((0:Int):Rat)+x*Zg (Ymt p) x)=(a:Rat)+x*x*Zg p (x*x);rw [Zqz x p];push_cast;grind
theorem Zzt:∀(p:List Int) (i:Nat),cf (Ymt p) (2*i)=cf p i
 | [],i=>rfl
 | a::p,0=>rfl
 | a::p,i+1=>by show cf (0::Ymt p) (2*i+1)=cf p i;exact Zzt p i
theorem sq_nn(x:Rat):0<=x*x:=by
 rcases(show 0<=x\/x<=0 by grind)with h|h
 .exact aH h h
 .have:=aH (show 0<=-x by grind) (show 0<=-x by grind);grind
theorem Zu0(h:∀x:Rat,0<=x->Zg p x=Zg q x)(i:Nat):cf p i=cf q i:=by rw [<-Zzt p,<-Zzt q];exact Nk (λx=>by rw [Zqz,Zqz];exact h _ (sq_nn x)) _
theorem Zko(f:Nat->Int)(x:Rat):∀n,Zg (mk n f) x=Gc (λj=>(f j:Rat)*x^j) n
 | 0=>rfl
 | n+1=>by rw [Fi,Zuz,Zko f x n,Yt,Me]
def NN(p:List Int):Prop:=∀i,0<=cf p i
theorem NN.smul{c:Int}(e:0<=c)(h:NN p):NN (p.map λa=>c*a):=λi=>by rw [Co];exact dZ e (h i)
theorem NN.add(e:NN p)(g:NN q):NN (Mp p q):=λi=>by rw [Mt];exact Int.add_nonneg (e i) (g i)
theorem NN.lmul{q:List Int}(e:NN q):∀{p:List Int},NN p->NN (lmul p q)
 | [],_=>λi=>by show 0<=cf [] i;rw [show cf [] i=0 from rfl];exact eN _
 | c::p,h=>NN.add (NN.smul (h 0) e) λi=>by
  match i with
  | 0=>exact eN _
  | i+1=>exact NN.lmul e (p:=p) (λj=>h (j+1)) i
def lpw(l:List Int):Nat->List Int
 | 0=>[1]
 | k+1=>lmul l (lpw l k)
theorem Zqw(l:List Int)(x:Rat):∀k,Zg (lpw l k) x=Zg l x^k
 | 0=>by rw [dW];show((1:Int):Rat)+x*0=1;push_cast;grind
 | k+1=>by rw [show lpw l (k+1)=lmul l (lpw l k)from rfl,Yc,Zqw l x k,dB,kQ]
theorem NN.lpw{l:List Int}(h:NN l):∀k,NN (lpw l k)
 | 0=>λi=>by
  show 0<=cf [1] i
  match i with
  | 0=>exact Int.one_nonneg
  | i+1=>exact eN _
 | k+1=>NN.lmul (NN.lpw h k) h
theorem NN.two(e:0<=a)(g:0<=b):NN [a,b]:=λi=>by
 match i with
 | 0=>exact e
 | 1=>exact g
 | i+2=>exact eN _
def sQ(f:Nat->Int)(W:Nat->List Int):Nat->List Int
 | 0=>[]
 | k+1=>Mp (sQ f W k) ((W k).map λa=>f k*a)
theorem Zx7(f:Nat->Int)(W:Nat->List Int)(x:Rat):∀k,Zg (sQ f W k) x=Gc (λi=>(f i:Rat)*Zg (W i) x) k
 | 0=>rfl
 | k+1=>by rw [show sQ f W (k+1)=Mp (sQ f W k) ((W k).map λa=>f k*a)from rfl,Xp,Zx7 f W x k,Zp,Me]
theorem sQ_le{f g:Nat->Int}{W:Nat->List Int}{B:Int}(l:∀i,NN (W i)):∀k,(∀i,i<k->((f i).natAbs:Int)<=B*g i)->∀j,((cf (sQ f W k) j).natAbs:Int)<=B*cf (sQ g W k) j
 | 0,_,j=>by show((cf [] j).natAbs:Int)<=B*cf [] j;rw [show cf [] j=0 from rfl];simp
 | k+1,h,j=>by
  have D:=sQ_le l k (λi hi=>h i O) j;have n:=h k O;show((cf (Mp (sQ f W k) ((W k).map λa=>f k*a)) j).natAbs:Int)<=B*cf (Mp (sQ g W k) ((W k).map λa=>g k*a)) j;rw [Mt,Mt,Co,Co,kZ,<-eY];have o:=l k j;have w:((f k*cf (W k) j).natAbs:Int)<=B*g k*cf (W k) j:=by rw [bX];push_cast;have e:((cf (W k) j).natAbs:Int)=cf (W k) j:=O;rw [e];exact eQ n o
  generalize B*g k*cf (W k) j=t at *;generalize f k*cf (W k) j=s at *;generalize B*cf (sQ g W k) j=r at *;omega
theorem Zmp(a b:Rat):∀n:Nat,(a*b)^n=a^n*b^n
 | 0=>by rw [dW,dW,dW];grind
 | n+1=>by rw [dB,dB,dB,Zmp a b n];grind
theorem Yei(a:Rat)(m:Nat):∀n:Nat,a^(m+n)=a^m*a^n
 | 0=>by rw [eP,dW];grind
 | n+1=>by rw [<-jE,dB,dB,Yei a m n];grind
theorem Ynx{U V S:Rat}(h:U+V=S)(n:S≠0){d:Nat}(l:c.length<=d+1):Gc (λj=>(Hi d c j:Rat)*(U^j*V^(d-j))) (d+1)=S^d*Zg c (U/S):=by
 rw [<-bern (u:=U/S) (w:=V/S) (by rw [<-h];grind) d c l,<-Eu];refine Lk _ λj o=>?_;have e:U^j=S^j*(U/S)^j:=by rw [<-Zmp];congr 1;grind
 have g:V^(d-j)=S^(d-j)*(V/S)^(d-j):=by rw [<-Zmp];congr 1;grind
 have k:S^d=S^j*S^(d-j):=by rw [<-Yei];congr 1;omega
 rw [e,g,k];grind
theorem Yd8{U V S:Rat}(h:U+V=S)(l:S≠0)(d:Nat):Gc (λj=>(Ot d j:Rat)*(U^j*V^(d-j))) (d+1)=S^d:=by
 have:=Ynw (u:=U/S) (w:=V/S) (by rw [<-h];grind) d;rw [<-Rat.mul_one (S^d),<-this,<-Eu];refine Lk _ λj n=>?_;have e:U^j=S^j*(U/S)^j:=by rw [<-Zmp];congr 1;grind
 have g:V^(d-j)=S^(d-j)*(V/S)^(d-j):=by rw [<-Zmp];congr 1;grind
 have k:S^d=S^j*S^(d-j):=by rw [<-Yei];congr 1;omega
 rw [e,g,k];grind
theorem Ybb(a b:Int)(x:Rat):Zg [a,b] x=(a:Rat)+(b:Rat)*x:=by show(a:Rat)+x*((b:Rat)+x*0)=_;grind
theorem onepw(n:Nat):(1:Rat)^n=1:=by
 induction n with
 | zero=>rw [dW]
 | succ n e=>rw [dB,e];grind
theorem Zcp(d:Int)(n:Nat):((d^n:Int):Rat)=(d:Rat)^n:=by
 induction n with
 | zero=>rw [dE,dW];rfl
 | succ n e=>rw [dG,dB,<-e];push_cast;rfl
def Wij(a e d:Int)(n i:Nat):List Int:=lmul (lpw [a,e] i) (lpw [d-a,d-e] (n-i))
def Wij_nn{e:Int}(g:0<=a)(h:0<=e)(j:a<=d)(k:e<=d)(n i:Nat):NN (Wij a e d n i):=NN.lmul (NN.lpw (NN.two O O) _) (NN.lpw (NN.two g h) _)
theorem Ybd(a e d:Int)(n i:Nat)(x:Rat):Zg (Wij a e d n i) x=((a:Rat)+(e:Rat)*x)^i*(((d-a:Int):Rat)+((d-e:Int):Rat)*x)^(n-i):=by unfold Wij;rw [Yc,Zqw,Zqw,Ybb,Ybb]
theorem Ys5 {X:List Int} {n:Nat} (hl:c.length<=n+1) (hX:X.length<=n+1) {B:Int} (ha:0<=a) (hb:0<=b) (N:a+b<=d) (R:0<d) (hr:∀t u:Rat,t*(d:Rat)=(a:Rat)+(b:Rat)*u->Zg X u=(d:Rat)^m*Zg c t)
  (hB:∀j,j<n+1->((Hi n c j).natAbs:Int)<=B*(Ot n j:Int)):∀j,j<n+1->((Hi n X j).natAbs:Int)<=B*d^m*(Ot n j:Int):=by
 have a0:(0:Rat)<(d:Rat):=by exact_mod_cast R
 have k:∀x:Rat,0<=x->(x+1)≠0:=λx e h=>O4;have o:∀x:Rat,((a:Rat)+((a+b:Int):Rat)*x)+(((d-a:Int):Rat)+((d-(a+b):Int):Rat)*x)=(d:Rat)*(x+1):=λx=>by push_cast;grind
 have l:∀x:Rat,0<=x->(d:Rat)*(x+1)≠0:=λx e h=>by have:=aU a0 (show(0:Rat)<x+1 by grind);grind
 have a1:∀x:Rat,0<=x->Zg (sQ (λi=>(Ot n i:Int)) (Wij a (a+b) d n) (n+1)) x=Zg (mk (n+1) λj=>d^n*(Ot n j:Int)) x:=λx e=>by
  rw [Zx7,Zko];have F:=Yd8 (o x) (l x e) n;have G:=Yd8 (U:=x) (V:=1) (S:=x+1) rfl (k x e) n;have H:Gc (λi=>(((Ot n i:Nat):Int):Rat)*Zg (Wij a (a+b) d n i) x) (n+1)=((d:Rat)*(x+1))^n:=by rw [<-F];exact Lk _ λj w=>by rw [Ybd];push_cast;rfl
  rw [H,Zmp,<-G,<-Eu];refine Lk _ λj w=>?_;rw [onepw];push_cast;rw [<-Zcp];push_cast;grind
 have a2:∀x:Rat,0<=x->Zg (mk (n+1) λj=>d^n*Hi n X j) x=Zg ((sQ (Hi n c) (Wij a (a+b) d n) (n+1)).map λq=>d^m*q) x:=λx e=>by
  rw [Zp,Zx7,Zko];have F:=Ynx (o x) (l x e) hl;have G:=Ynx (U:=x) (V:=1) (S:=x+1) rfl (k x e) hX;have H:Gc (λi=>((Hi n c i:Int):Rat)*Zg (Wij a (a+b) d n i) x) (n+1)=((d:Rat)*(x+1))^n*Zg c (((a:Rat)+((a+b:Int):Rat)*x)/((d:Rat)*(x+1))):=by rw [<-F];exact Lk _ λj w=>by rw [Ybd]
  have e4:Gc (λj=>((d^n*Hi n X j:Int):Rat)*x^j) (n+1)=(d:Rat)^n*Gc (λj=>(Hi n X j:Rat)*(x^j*1^(n-j))) (n+1):=by rw [<-Eu];refine Lk _ λj w=>?_;rw [onepw,<-Zcp];push_cast;grind
  rw [H,e4,G,hr (((a:Rat)+((a+b:Int):Rat)*x)/((d:Rat)*(x+1))) (x/(x+1)) ?_,Zmp,Zcp]
  .grind
  .have I:=k x e;have D:(d:Rat)≠0:=O4;push_cast;grind
 have P:=Zu0 a1;have Q:=Zu0 a2;intro j w;have I:=P j;have D:=Q j;rw [Nv,aM w]at I D;rw [Co]at D;have h3:=sQ_le (f:=Hi n c) (g:=λi=>(Ot n i:Int)) (W:=Wij a (a+b) d n) (B:=B) (Wij_nn ha O O N n) (n+1) hB j;rw [I]at h3;have Z:0<d^n:=jN R;have Y:0<=d^m:=dV (jN R);have h4:((d^n*Hi n X j).natAbs:Int)=d^n*((Hi n X j).natAbs:Int):=by rw [bX];push_cast;rw [show((d^n).natAbs:Int)=d^n by omega]
 have h5:((d^m*cf (sQ (Hi n c) (Wij a (a+b) d n) (n+1)) j).natAbs:Int)=d^m*((cf (sQ (Hi n c) (Wij a (a+b) d n) (n+1)) j).natAbs:Int):=by rw [bX];push_cast;rw [show((d^m).natAbs:Int)=d^m by omega]
 have h6:=fL h3 Y;rw [<-h5,<-D,h4]at h6;refine kY (a:=d^n) ?_ Z;refine nM h6 (Int.le_of_eq ?_);generalize d^n=p;generalize d^m=q;generalize (Ot n j:Int)=r;grind
theorem Yf8{s:Bool}(j:x.natAbs<=9223372036854775807)(h:sg s x):(x=0/\dg U x.natAbs=[])\/(s=true/\x<0/\dg U x.natAbs=[x.natAbs])\/(s=false/\0<x/\dg U x.natAbs=[x.natAbs]):=by
 have g:x.natAbs≠0->dg U x.natAbs=[x.natAbs]:=λk=>by have e:x.natAbs<U:=aW j O3;rw [Zcn O3 O,bG e,cM e];rfl
 rcases lD x 0 with q|q|q
 .right;left;refine⟨?_,q,g O⟩;cases s
  .have:=h.2 rfl;omega
  .rfl
 .subst q;exact .inl ⟨rfl,rfl⟩
 .right;right;refine⟨?_,q,g O⟩;cases s
  .rfl
  .have:=h.1 rfl;omega
theorem int_wn(e:x.natAbs<=9223372036854775807)(h:x<0):IntKind.i64.wrap (18446744073709551616-(x.natAbs:Int))=x:=by simp only [IntKind.wrap,IntKind.bits,IntKind.signed];simp;omega
theorem int_wp(e:x.natAbs<=9223372036854775807)(h:0<x):IntKind.i64.wrap ((([x.natAbs]:List Nat).getD 0 0:Nat):Int)=x:=by show IntKind.i64.wrap (x.natAbs:Int)=x;rw [Zb1 ⟨O,O⟩];omega
theorem int_d0(e:x.natAbs<=9223372036854775807):¬((([x.natAbs]:List Nat).getD 0 0:Nat):Int)>=9223372036854775808:=by show ¬(x.natAbs:Int)>=_;omega
theorem Yli(e:x.natAbs<=9223372036854775807):¬((([x.natAbs]:List Nat).getD 0 0:Nat):Int)>9223372036854775808:=by show ¬(x.natAbs:Int)>_;omega
theorem int_m(h:x<0)(e:x.natAbs<=9223372036854775807):(-((([x.natAbs]:List Nat).getD 0 0:Nat):Int))%18446744073709551616=18446744073709551616-(x.natAbs:Int):=by show(-(x.natAbs:Int))%_=_;omega
abbrev Yly (o:Nat) (m:Int) (g:Zl):List Int:=formP o m g.1.2.2 (g.1.2.1-g.1.1) g.2.1.2 g.2.2.1.2 g.2.2.2.2
def Yle(o:Nat)(ps:List Zl)(m:Int):Bool:=ps.all λg=>!Ky (Yly o m g)
def Ypb(p:Nat->Bool):Nat->Nat->Nat->Nat
 | 0,i,_=>i
 | f+1,i,j=>if i<j then(if p ((i+j)/2)then Ypb p f i ((i+j)/2)else Ypb p f ((i+j)/2+1) j)else i
def Yo2(o:Nat)(ps:List Zl):Nat:=Ypb (λn=>Yle o ps (n:Int)) 14 0 10001
def joG(g h:Zl):Bool:=joinB g.1.1 g.1.2.1 g.1.2.2 g.2.1.2 g.2.2.1.2 g.2.2.2.2 h.1.1 h.1.2.1 h.1.2.2 h.2.1.2 h.2.2.1.2 h.2.2.2.2
def joAll(ps:List Zl):Bool:=(List.range ps.length).all λi=>decide (i=0) || joG (ps.getD (i-1) G0) (ps.getD i G0)
def topV(ps:List Zl):Int×Int×Int:=
 if 10000<Yo2 1 ps\/10000<Yo2 2 ps then(0,0,3)else if joAll ps then((Yo2 1 ps:Int),(Yo2 2 ps:Int),0)else(0,0,10)
theorem Zrj{ps:List Zl}(l:∀g∈ps,Gin g)(k:Xy ps=true):∀g∈ps,SgG g:=λg j=>by obtain⟨i,hi,e⟩:=cW.1 j;have h:=Fh ((Ox k).1 i hi);rw [aK,aN hi,eV,e]at h;exact Mx (l g j) h
def g8(g:Zl):Bool:=decide (g.2.1.2.length<=8) && decide (g.2.2.1.2.length<=8) && decide (g.2.2.2.2.length<=8)
def Zi3(ps:List Zl)(m:Nat):Bool:=(List.range ps.length).all (λi=>decide (m<i) || g8 (ps.getD i G0)) && decide (ps.length<=m)
theorem g8_t{g:Zl}(e:g.2.1.2.length<=8)(h:g.2.2.1.2.length<=8)(j:g.2.2.2.2.length<=8):g8 g=true:=by unfold g8;rw [aJ e,aJ h,aJ j];rfl
theorem g8_f{g:Zl}(h:¬(g.2.1.2.length<=8/\g.2.2.1.2.length<=8/\g.2.2.2.2.length<=8)):g8 g=false:=by
 cases hb:g8 g with
 | false=>rfl
 | true=>
  unfold g8 at hb;simp only [aR,dA]at hb;exact absurd ⟨hb.1.1,hb.1.2,hb.2⟩ h
theorem Zy5 (i:Nat){ps:List Zl}(hi:i<ps.length)(e:i<=m)(h:g8 (ps.getD i G0)=false):Zi3 ps m=false:=by
 cases hb:Zi3 ps m with
 | false=>rfl
 | true=>
  unfold Zi3 at hb;rw [aR]at hb;have:=cJ.1 hb.1 i (gT.2 hi);rw [h,aF O]at this;cases this
theorem Yl6 (n:Nat){ps:List Zl}(e:n=ps.length\/m<n)(h:∀k,k<n->g8 (ps.getD k G0)=true):Zi3 ps m=decide (ps.length<=m):=by
 unfold Zi3;rw [cJ.2 λi hi=>by
  have hi:=gT.1 hi;rcases aX m i with q|q
  .rw [aJ q];rfl
  .rw [h i O,Bool.or_true]]
 rfl
theorem Yso:∀n,n<=5->∀i,i<n->(Ot n i:Int)*((n:Int)-(i:Int))/((i:Int)+1)=(Ot n (i+1):Int):=by intro n g i hi;have e:∀n,n<6->∀i,i<n->(Ot n i:Int)*((n:Int)-(i:Int))/((i:Int)+1)=(Ot n (i+1):Int):=O7;exact e n O i hi
theorem getD3{α:Type}{a b c d:α}(h:i<3):[a,b,c].getD i d=Zu i a b c:=by
 match i,h with
 | 0,_=>rfl
 | 1,_=>rfl
 | 2,_=>rfl
theorem Yin{α β:Type}(i:Nat)(a b c:α×β):(Zu i a b c).2=Zu i a.2 b.2 c.2:=by unfold Zu;split<;>rfl
theorem Zh5{e g j:SL}{x:List Int}{d:SL×List Int}(h:i<3):([(e,x),(g,y),(j,z)].getD i d).2=Zu i x y z:=by rw [getD3 h,Yin]
theorem Zxy : 0<(a-b).sign↔b<a:=by rw [sgp];omega
theorem Yif : (a-b).sign<0↔a<b:=by rw [Pv];omega
def Yr9(t m:Int):m<t\/(¬m<t/\t < -m)\/(¬m<t/\¬t < -m):=O
def axc(c:List Int):Bool:=!(decide (1<=c.length) && decide (c.length<=6) && !(decide (1<c.length) && decide (c.getD (c.length-1) 0=0)))
theorem axc_f{b:Bool}(h:b=axc c)(e:b=false):1<=c.length/\c.length<=6/\¬(1<c.length/\c.getD (c.length-1) 0=0):=by subst h;unfold axc at e;simp only [Bool.not_eq_false',aR,fB,iM,dA,fM]at e;exact⟨e.1.1,e.1.2,λh=>by rcases e.2 with q|q;exact q h.1;exact q h.2⟩
theorem axc_t{b:Bool}(h:b=axc c)(e:b=true):axB c ov=false:=by
 cases ha:axB c ov with
 | false=>rfl
 | true=>
  exfalso;unfold axB at ha;rw [aR]at ha;have:axc c=false:=by unfold axc;rw [ha.1];rfl
  rw [h,this]at e;cases e
theorem Yee(h:¬1<=c.length):true=axc c:=by unfold axc;rw [aF h];rfl
theorem Yed(h:¬c.length<=6):true=axc c:=by unfold axc;rw [aF h,Bool.and_false];rfl
theorem Yec(e:1<=c.length)(g:c.length<=6)(h:¬1<c.length):false=axc c:=by unfold axc;rw [aJ e,aJ g,aF h];rfl
theorem Yeb(e:1<=c.length)(g:c.length<=6)(h:1<c.length):decide (c.getD (c.length-1) 0=0)=axc c:=by unfold axc;rw [aJ e,aJ g,aJ h];simp
theorem Ys8(h:bl ov.natAbs<=64):bl (62914560*ov).natAbs<=100:=by have e:=Yr 62914560 ov;have g:bl (62914560:Int).natAbs<=30:=O3;omega
variable {P:Program} {N:Nat} {sc:Nat->Prop} {env env':Pu} {H H':Hp}
def Hx(c:List Int)(g:Int):List Int:=if c.length=0 then [0]else c.map (· / g)
def mdO(ov g:Int):Int:=if ov/g<=4294967296 then ov/g else 0
def mdL(ov g:Int)(c:List Int):List Int:=if ov/g<=4294967296 then Hx c g else []
def Kk(ov:Int)(x y z:List Int):Int:=Ma ov (La 3 x y z)
structure Mdh (ov:Int) (x y z:List Int):Prop where
 o:0<ov
 b:bl ov.natAbs<=1000
 s:∀i,Sz 1000 (Zu i x y z)
 l:∀i,(Zu i x y z).length<=6
 c:∀i k,(cf (Zu i x y z) k).natAbs<=ov.natAbs*2146435072
def Zeu:∀(l:List Int) (g:Int),0<=g->0<=Ma g l
 | [],_,h=>h
 | x::l,g,h=>Zeu l _ (kX _)
theorem Zr8:∀(l:List Int) (g:Int),Ma g l∣g/\∀x∈l,Ma g l∣x
 | [],g=>⟨Int.dvd_refl _,λx h=>nomatch h⟩
 | x::l,g=>by
  obtain⟨j,k⟩:=Zr8 l _;exact⟨iI j (lL ..),λy e=>by
   rcases bB.1 e with rfl|e
   .exact iI j (iP ..)
   .exact k y e⟩
theorem Zyu{x:List Int}(hi:i<3)(h:a∈Zu i x y z):a∈La 3 x y z:=by
 match i,hi with
 | 0,_=>exact cP.2 (.inl (cP.2 (.inl h)))
 | 1,_=>exact cP.2 (.inl (cP.2 (.inr h)))
 | 2,_=>exact cP.2 (.inr h)
theorem Mdh.g{x:List Int}(h:Mdh ov x y z):0<Kk ov x y z/\Kk ov x y z∣ov/\∀i,i<3->∀a∈Zu i x y z,Kk ov x y z∣a:=by
 obtain⟨e,g⟩:=Zr8 _ ov;have j:=Zeu (La 3 x y z) ov (dV h.o);have l:=h.o;refine⟨?_,e,λi hi a k=>g a (Zyu hi k)⟩;rcases nB j with q|q
 .exact q
 .exact absurd (nK.1 (q▸e)) O
theorem Mdh.fc{x:List Int}(h:Mdh ov x y z)(i k:Nat):bl (Ma (Ma ov (La i x y z)) ((Zu i x y z).take k)).natAbs<=1000:=by
 have g:∀i,∀a∈Zu i x y z,bl a.natAbs<=1000:=λi a e=>by obtain⟨j,t⟩:=mH.1 e;have:=h.s i j;unfold cf at this;grind
 have r:∀a∈La i x y z,bl a.natAbs<=1000:=λa e=>by unfold La at e;have l:=g 0;have n:=g 1;have o:=g 2;simp only [Zu]at l n o;grind
 exact Zh0 (λa e=>g i a (eW e)) (Zh0 r h.b)
theorem Mdh.fit{x:List Int}(h:Mdh ov x y z)(hs:ov/Kk ov x y z<=4294967296)(hi:i<3)(k:Nat):((Zu i x y z).getD k 0/Kk ov x y z).natAbs<=9223372036854775807:=by
 obtain⟨n,⟨s,e⟩,o⟩:=h.g;have r:Kk ov x y z∣(Zu i x y z).getD k 0:=by
  rcases aX k _ with q|q
  .exact o i hi _ (Zd q)
  .rw [aK,bT q];exact jU _
 obtain⟨t,l⟩:=r;have j:((Zu i x y z).getD k 0).natAbs<=ov.natAbs*2146435072:=h.c i k;generalize Kk ov x y z=g at *;rw [l,jF _ O];rw [e,jF _ O]at hs;rw [l,e,bX,bX,dH]at j;have B:=Nat.le_of_mul_le_mul_left j O;have D:=h.o;have w:0<s:=by
  by_cases q:0<s
  .omega
  .have:=fW (dV n) (show s<=0 by omega);omega
 omega
def mdO_t{g:Int}(h:ov/g<=4294967296):mdO ov g=ov/g:=aM h
def Zhb{g:Int}(h:ov/g<=4294967296):mdL ov g c=Hx c g:=aM h
def mdO_f{g:Int}(h:¬ov/g<=4294967296):mdO ov g=0:=aG h
def Yk2{g:Int}(h:¬ov/g<=4294967296):mdL ov g c=[]:=aG h
def dvL_0{g:Int}(h:c.length=0):Hx c g=[0]:=aM h
def dvL_n{g:Int}(h:c.length≠0):Hx c g=c.map (· / g):=aG h
theorem Zvv{g:Int}{k:Nat}(h:k<c.length):(c.take k).map (· / g) ++ [c.getD k 0/g]=(c.take (k+1)).map (· / g):=by rw [Po 0 _ _ h,dD];rfl
abbrev C6 (a b c:Value) (f:Nat->Value):Array Value:=#[a,b,c,f 0,f 1,f 2]
def upd(f:Nat->Value)(i:Nat)(v:Value)(j:Nat):Value:=if j=i then v else f j
theorem c6_get{a b c:Value}(h:i<3):(C6 a b c f)[3+i]? = some (f i):=by
 match i,h with
 | 0,_=>rfl
 | 1,_=>rfl
 | 2,_=>rfl
theorem Ynq{a b c:Value}(h:i<3):(C6 a b c (upd f i v))[3+i]? = some v:=by rw [c6_get h];unfold upd;simp
theorem c6_lay{a b c:Value}(h:i<3):Fc (C6 a b c (upd f i u)) (3+i) [v]=C6 a b c (upd f i v):=by
 match i,h with
 | 0,_=>rfl
 | 1,_=>rfl
 | 2,_=>rfl
theorem Zzv{a b c:Value}{g:Nat->Value}(h:∀j,j<3->f j=g j):C6 a b c f=C6 a b c g:=by grind
theorem p3_sel{b:Nat}(h:i<3):Zu i (Value.pointer (some ⟨b,3,none⟩)) (Value.pointer (some ⟨b,4,none⟩)) (Value.pointer (some ⟨b,5,none⟩))= .pointer (some ⟨b,3+i,none⟩):=by
 match i,h with
 | 0,_=>rfl
 | 1,_=>rfl
 | 2,_=>rfl
theorem c3_get{a b c:Value}(h:i<3):(#[a,b,c]:Array Value)[0+i*1]? = some (Zu i a b c):=by
 match i,h with
 | 0,_=>rfl
 | 1,_=>rfl
 | 2,_=>rfl
def fz(zs:List (SL×List Int))(j:Nat):Value:=Xl (zs.getD j ((none,0,0),[])).1
theorem fz_upd(h:zs.length=i)(j:Nat):fz zs j=upd (fz zs) i (.slice none 0 0) j:=by
 unfold upd;split
 .rename_i e;subst e;subst h;unfold fz;simp
 rfl
theorem Ycp(h:zs.length=i)(j:Nat):upd (fz zs) i (Xl s) j=fz (zs ++ [(s,c)]) j:=by unfold upd fz;grind
def Zha (f:Nat->List Int){t:Nat}(g:zs.length=i)(h:∀t,t<i->(zs.getD t d0).2=f t)(e:c=f i)(j:t<i+1):((zs ++ [(s,c)]).getD t d0).2=f t:=e▸Zxb g h j
theorem Yk1{x:List Int}{g:Int}(l:zs.length=3)(h:∀t,t<3->(zs.getD t d0).2=Hx (Zu t x y z) g):∃n o r:SL,zs=[(n,Hx x g),(o,Hx y g),(r,Hx z g)]:=by
 match zs,l with
 | [w,B,D],_=>
  have e:=h 0 O;have j:=h 1 O;have k:=h 2 O;simp [Zu]at e j k;grind
def Yig : 0<(a-b).sign↔¬a<=b:=O5
theorem t_st6 (i:Nat)(n:Nat)  {o:Oper} {x y:Operand} {t k:TypeId} {b:Nat} {g h j:Value}   {w0:World}  (Q:o.op= .store t x y) (F:o.dst=none)
  (S:ev env x=some (.pointer (some ⟨b,3+n,none⟩))) (V:ev env y=some v) (B:lk H i=some (box b k (C6 g h j (upd f n u)))) (e:i≠0) (I:∀w,(sizeOf t).run P w= .ok 1 w) (W:n<3) (r:One N sc env H v)
  (l:lk H 0=some (Yx w0 M0)) (R:∀b,w0.heap.size<=b->sc b) (D:M b) :
  T P N sc M o env H (G:=Unit) (λ_=>True) (λ_=>env) (λ_=>(i,box b k (C6 g h j (upd f n v)))::H):=by
 have:=t_stp1 Q F S V B e I (by simp<;>omega) r l R D;grind [c6_lay]
theorem bl_dlq{n:Nat}(h:bl a.natAbs<=n)(j:0<b)(e:0<=a):bl (a/b).natAbs<=n:=(Qo n _).2 (aW (by have g:=lJ b e;grind [Int.ediv_nonneg,Int.le_of_lt]) ((Qo n _).1 h))
theorem Ylw{n:Nat}(h:∀z∈zs,∀b,(Xl z.1).ownBlock=some b->n<=b)(e:∀b,(Xl s).ownBlock=some b->n<=b):∀z∈zs ++ [(s,c)],∀b,(Xl z.1).ownBlock=some b->n<=b:=λz g=>by grind
theorem fr3{n:Nat}{g j k:SL}{l o r:List Int}(h:∀z∈[(g,l),(j,o),(k,r)],∀b,(Xl z.1).ownBlock=some b->n<=b):∀p∈[Yy 1 Yk (Xl g) l1,Yy 1 Yk (Xl j) l2,Yy 1 Yk (Xl k) l3],∀b,p.fp b->n<=b:=λp t b e=>by
 simp only [bB,dI,gR]at t;rcases t with rfl|rfl|rfl
 .exact h (g,l) O5 b e.2
 .exact h (j,o) O5 b e.2
 .exact h (k,r) O5 b e.2
theorem fr0{n:Nat} : ∀p∈[Yy 1 Yk (Xl (none,0,0)) l1,Yy 1 Yk (Xl (none,0,0)) l2,Yy 1 Yk (Xl (none,0,0)) l3],∀b,p.fp b->n<=b:=λp e b g=>by simp only [bB,dI,gR]at e;rcases e with rfl|rfl|rfl<;>cases g.2
end Go.Sky
namespace Go.Sky
open Go.RowKit Below
variable {P:Program} {N:Nat} {sc:Nat->Prop} {env env':Pu} {H H':Hp} {Q Q':Exit->Act->World->Prop}
def Yi1{n:Nat}{a:String}{args:Array Value}{w:World}{R:Value->World->Prop}(h:Rows P a args w R):RowsIn Fence.wide n P a args w R:=λc b _=>
 let ⟨v,w',r,s⟩:=h c b;⟨v,w',r,stepsIn_wide.2 s⟩
def noQ:Exit->Act->World->Prop:=λ_ _ _=>False
section
variable {ops:Array Oper} {C:World->World->Prop}
def wpAnyZ(P:Program)(ops:Array Oper)(d:List Nat)(C:World->World->Prop)(Q:Exit->Act->World->Prop):Nat->Array Bool->Act->World->Prop
 | 0,_,_,_=>False
 | c+1,b,a,w=>if Fm ops d b=true then wpAnyIn Fence.wide 0 P .any ops Q (c+1) b a w else
  (Region.ready .any ops b=[]->False)/\
  ∀i∈Region.ready .any ops b,wpOp P ops noQ i (λf e=>C w e/\wpAnyZ P ops d C Q c (b.setIfInBounds i true) f e) a w
inductive Dep (ops:Array Oper) (i:Nat):Nat->Prop
 | base {j:Nat} {o:Oper} {e:Edge} : ops[j]? = some o->e∈o.after->Region.binds .any e=true->e.on=i->Dep ops i j
 | step {j:Nat} {o:Oper} {e:Edge} : ops[j]? = some o->e∈o.after->Region.binds .any e=true->Dep ops i e.on->Dep ops i j
def Ymr(ops:Array Oper)(i:Nat):Nat->List Nat
 | 0=>[]
 | k+1=>match ops[k]? with
  | some o=>if o.after.any (λe=>Region.binds .any e && (e.on == i || (Ymr ops i k).contains e.on))then k::Ymr ops i k else Ymr ops i k
  | none=>Ymr ops i k
def Clo(ops:Array Oper)(a:Array Bool):Prop:=∀k o,ops[k]? = some o->a.getD k true=true->∀e∈o.after,Region.binds .any e=true->a.getD e.on true=true
theorem Clo.set{a:Array Bool}{j:Nat}(g:Clo ops a)(i:j∈Region.ready .any ops a):Clo ops (a.setIfInBounds j true):=λk o m d e h f=>by
 obtain⟨p,r,n,c⟩:=mem_ready.1 i;have q:a.getD e.on true=true:=by
  by_cases b:j=k
  .grind
  .rw [getD_set_ne _ b]at d;exact g k o m d e h f
 by_cases l:j=e.on
 all_goals simp_all
end
def Ybs(ops:Array Oper)(a:List Nat):List (Nat×Nat)->Array Bool->Bool
 | [],_=>true
 | (i,1)::rest,listed=>(Region.ready .any ops listed == [i]) && !(Fm ops a listed) && Ybs ops a rest (listed.setIfInBounds i true)
 | (i,3)::rest,listed=>false
 | (i,_)::rest,listed=>(Region.ready .any ops listed).contains i && Region.free .any ops listed i && !(a.contains i) && a.all (λj=>(Ymr ops i ops.size).contains j) && Ybs ops a rest (listed.setIfInBounds i true)
def YL(P:Program)(N:Nat)(sc:Nat->Prop)(ops:Array Oper)(Q:Exit->Act->World->Prop)(k:Nat)(b:Array Bool)(env:Pu)(H:Hp):Prop:=
 ∀a w,Sat N sc env H a w->wpAnyIn Fence.wide 0 P .any ops Q (k+1) b a w
end Go.Sky
namespace Go.Sky
open Go.RowKit Below
variable {P:Program} {N:Nat} {sc:Nat->Prop} {env env':Pu} {H H':Hp} {Q Q':Exit->Act->World->Prop}
def CalY(P:Program)(f:FuncId)(d:List Value)(pre:List Pc)(i:Prop){G:Type}(j:G->Prop)(h:G->Value):Prop:=
 ∀(l:Nat) (J:World->Prop) (w:World),(∀p∈pre,p.holds w)->
  (∀g,j g->∀a,Below w.heap.size w a->YieldAt Fence.wide 0 P l #[h g] a λe c=>e= .returned (.bool false)/\J c)->
  Calls P f (.func (.yield l) #[] #[]::d).toArray w λe b=>(∃v,e= .returned v)/\((i/\Below w.heap.size w b)\/J b)
def FPostY(P:Program)(fn:Func)(w0:World)(b:Prop)(J:World->Prop):Exit->Act->World->Prop:=
 bodyPost P fn λe a=>(∃v,e= .returned v)/\((b/\Below w0.heap.size w0 a)\/J a)
def YJ(P:Program)(w0:World)(l:Nat){G:Type}(d:G->Prop)(c:G->Value)(J:World->Prop):Prop:=
 ∀g,d g->∀a,Below w0.heap.size w0 a->YieldAt Fence.wide 0 P l #[c g] a λe b=>e= .returned (.bool false)/\J b
theorem Yi7{fn:Func}{tmps:Array Value}{w:World}(a:fn.results=#[]):(results fn tmps).run P w= .ok (.tuple #[]) w:=by rw [Zl8,a];simp
end Go.Sky
namespace Go.Sky
open Go.RowKit Below
variable {P:Program} {N:Nat} {sc:Nat->Prop} {env env':Pu} {H H':Hp} {Q Q':Exit->Act->World->Prop}
end Go.Sky
namespace Go.Sky
open Go.RowKit Below
variable{f:FuncId}{vs:List Value}{pre:List Pc}{o:Oper}{a:Act}{w:World}{K K':Act->World->Prop}{r:Nat}{ρ:Operand->Value}{Q1:Exit->Act->World->Prop}
variable {P:Program} {N:Nat} {sc:Nat->Prop} {env env':Pu} {H H':Hp} {Q Q':Exit->Act->World->Prop}
def Zf7(P:Program)(fn:Func)(w0:World)(pre:List Pc)(al:Bool){G:Type}(φ:G->Prop)(Yq:G->Value)(c:G->List Pc):Exit->Act->World->Prop:=
  bodyPostM Fence.wide 0 P fn λe d => ∃ g, e = .returned (Yq g) /\ φ g /\ Below w0.heap.size w0 d /\
        ∀p∈c g,p.holds d/\p.own=false/\∀b,p.fp b->w0.heap.size<=b\/(al=true/\∃q∈pre,q.fp b)
theorem Ze0  {fn:Func} {c:Code}   {al:Bool} {G:Type} {φ:G->Prop} {Yq:G->Value} {k:G->List Pc} {N:Nat}
    (F:P.funcs[f]? = some fn) (d:fn.body=some c) (B:fn.ntmps=N) (s:Nat.ble vs.length N=true) (y:AllRo pre)
    (h:∀w0 (sc:Nat->Prop),(∀b,w0.heap.size<=b->sc b)->(∀b,sc b->w0.heap.size<=b\/∃q∈pre,q.fp b)->
      E P N sc c (Zf7 P fn w0 pre al φ Yq k) (Qv 0 vs) ((0,Yx w0 (λ_=>False))::Yz 1 pre)) :
    Cal P f vs.toArray pre al φ Yq k:=λw M=>by
  refine(callsIn_wide (n:=0)).1 (callsIn_of_wp_marks F d aA (wpIn_wide.2 (h w (λb=>w.heap.size<=b\/∃q∈pre,q.fp b) (λb d=> .inl d) (λb d=>d) _ w ?_)));have z:vs.length<=N:=by simpa using s
  refine⟨by simp [B];omega,rfl,λt v R=>?_,λi p hi=>?_,λi j p q I hi S x b d D=>?_,λi p m hi b d=>?_⟩
  . have l:=(Ge vs 0 t v R).2;have l:vs.toArray[t]? = some v:=by simpa using l
    have u:=(aS.1 l).1;rw [bO,dY u,l];rfl
  . by_cases g:0=i
    . subst g;rw [Yl]at hi;cases hi;exact Chg.refl _ w
    . rw [Zx _ _ g]at hi;exact M p (Nt pre 1 i p hi).2
  . by_cases g:0=i
    . subst g;rw [Yl]at hi;cases hi;cases x
    . rw [Zx _ _ g]at hi;rw [y.mem p (Nt pre 1 i p hi).2]at x;cases x
  . rw [Zx _ _ (λe=>m e.symm)]at hi;exact .inr ⟨p,(Nt pre 1 i p hi).2,d⟩
def onlyR(Q:Exit->Act->World->Prop):Exit->Act->World->Prop:=Fa Q
def Da:¬LetsOut (Fa Q):=λ⟨_,_,h⟩=>h
theorem Ybx(d:∀c,o.op≠ .defer c)(h:o.wp P a w K (Fa Q)):o.wpIn (Fence.wide.inRound r) 0 P a w K Q:=by
  refine⟨λ_ _=>trivial,?_⟩;unfold Oper.wp at h;show o.uponIn (Fence.wide.inRound r) 0 P a K Q ((o.semAt (some r) a.eval).run P w);rw [Oper.semAt_some r _ o d];generalize (execOp a.eval o).run P w=x at *;cases x with
  | ok n g=>
    cases n<;>simp only [Oper.upon,Oper.uponIn]at h ⊢
    case value=>exact h
    case skip=>exact h
    case defer=>exact h
    case enter f args=>
      refine⟨λh=>(by cases h),CallsIn.inRound r (callsIn_wide.2 (h.mono λe i b=>?_))⟩;cases e with
      | returned v=>exact b
      | panicked c=>exact b.elim
      | outgrown=>exact absurd b Da
    case row row args=>exact⟨λh=>(by cases h),Yi1 (n:=0) h⟩
  | halt x g=>
    cases x<;>simp only [Oper.upon]at h
    case panic u=>exact h.elim
def Zkw(l:List Oper):Prop:=∀o∈l,∀c,o.op≠ .defer c
theorem Zrx{ops:Array Oper}{r:Nat} : ∀(l:List Oper) (a:Act) (w:World),Zkw l->wpList P ops (Fa Q) l a w->wpListIn (Fence.wide.inRound r) 0 P ops Q l a w
  | [],_,_,_,h=>h
  | o::l,a,w,hnd,h=>by
    unfold wpList at h;unfold wpListIn;split
    . rename_i c;simp only [c,lB]at h;exact Oper.wpIn_mono (λa w d=>Zrx l a w (λo b=>hnd o (bE _ b)) d) (Ybx (hnd o (bK ..)) (h.resolve_right λh=>Da h.2))
    . rename_i c;simp only [c]at h;exact⟨λ_ _=>trivial,Zrx l _ w (λo b=>hnd o (bE _ b)) h⟩
def Yi9{id:Nat}{l:List Oper}(b:Zkw l)(h:L P N sc l.toArray l (Fa Q) env H)(hs:Sat N sc env H a w):(Code.region id l.toArray false).wpIn (Fence.wide.inRound r) 0 P Q a w:=
  wpIn_region_lit (Zrx l a w b (h a w hs))
def fx(l:Nat)(o:Obj):Pc:=
  { own:=false,fp:=λb=>b=l,holds:=λw=>w.heap[l]? = some o
    lt:=λw b h c=>by subst c;exact(aS.1 h).1
    stable:=λw g h d=>(d.block l (aS.1 h).1 (λe=>e rfl)).trans h }
def Zgz(o:Oper):Bool:=match o.op with
  | .build ..=>true
  | .store ..=>true
  | .load ..=>true
  | .alloc ..=>true
  | _=>false
theorem Yj6(h:Zgz o=true){w':World}{d:Deferred} : (execOp ρ o).run P w≠ .ok (.defer d) w':=λb=>by
  unfold Zgz at h;cases ho:o.op<;>simp only [ho]at h<;>try (cases h;done)
  all_goals
    simp only [execOp,ho,Sem.run_bind]at b;revert b;generalize Sem.run P _ w=r;cases r<;>simp [Result.andThen,Sem.run_pure]
theorem Zme(a:Act)(ds:List Deferred)(d:Option Tmp)(v:Value):({ a with defers:=ds } : Act).put d v={ a.put d v with defers:=ds }:=by cases d<;>rfl
theorem Yqs    {ds:List Deferred}   (i:Zgz o=true) (g:∀a w,K a w->K' { a with defers:=ds } w)
    (k:∀e a w,¬Q1 e a w) (h:o.wp P a w K Q1):o.wp P { a with defers:=ds } w K' Q:=by
  unfold Oper.wp at h ⊢;have j:=λd w'=>Yj6 (P:=P) i (ρ:=a.eval) (w:=w) (w':=w') (d:=d);show o.upon P _ K' Q ((execOp a.eval o).run P w);generalize (execOp a.eval o).run P w=x at *;cases x with
  | ok n w'=>
    cases n<;>simp only [Oper.upon]at h ⊢
    case value=>rw [Zme];exact g _ _ h
    case skip=>rw [Zme];exact g _ _ h
    case defer d=>exact absurd rfl (j d w')
    case enter f args=>
      refine h.mono λe l b=>?_;cases e with
      | returned v=>show K' (({ a with defers:=ds } : Act).put o.dst v) l;rw [Zme];exact g _ _ b
      | panicked c=>exact(k _ _ _ b).elim
      | outgrown=>obtain⟨_,_,h⟩:=b;exact(k _ _ _ h).elim
    case row row args=>exact h.mono λ_ _ b=>by rw [Zme];exact g _ _ b
  | halt x w'=>
    cases x<;>simp only [Oper.upon]at h
    case panic u=>exact(k _ _ _ h).elim
theorem Zry{ops:Array Oper}{ds:List Deferred} : ∀(l:List Oper) (a:Act) (w:World),l.all Zgz=true->wpList P ops (Fa λe a w=>Q e { a with defers:=ds } w) l a w->wpList P ops Q l { a with defers:=ds } w
  | [],_,_,_,h=>h
  | o::l,a,w,hnd,h=>by
    simp only [List.all_cons,aR]at hnd;unfold wpList at h ⊢;split
    . rename_i d;simp only [d,lB]at h;have h:=h.resolve_right λh=>Da h.2;refine .inl (Yqs (Q1:=noQ) hnd.1 (λa w g=>Zry l a w hnd.2 g) (λ_ _ _ h=>h) ?_);unfold Oper.wp at h ⊢;revert h;generalize (execOp a.eval o).run P w=x;intro h;cases x with
      | ok n i=>
        cases n<;>simp only [Oper.upon]at h ⊢
        case value=>exact h
        case skip=>exact h
        case defer=>exact h
        case enter f args=>
          refine h.mono λe j b=>?_;cases e with
          | returned v=>exact b
          | panicked c=>exact b
          | outgrown=>exact absurd b Da
        case row row args=>exact h
      | halt x i=>
        cases x<;>simp only [Oper.upon]at h ⊢
        case panic u=>exact h
    . rename_i d;rw [aG d]at h;rw [Zme];exact Zry l _ w hnd.2 h
end Go.Sky
namespace Go.Sky
open Go.RowKit Below
variable{a:Act}{w:World}{i:Nat}
variable {P:Program} {N:Nat} {sc:Nat->Prop} {env env':Pu} {H H':Hp} {Q Q':Exit->Act->World->Prop}
abbrev ALL:Nat->Prop:=λ_=>True
def FpSub:Hp->Hp->Prop
 | [],_=>True
 | (i,p)::r,H=>(∃q,lk H i=some q/\p.own=q.own/\∀b,p.fp b->q.fp b)/\FpSub r H
theorem FpSub.lk:∀{H' H:Hp},FpSub H' H->∀i p,lk H' i=some p->∃q,lk H i=some q/\p.own=q.own/\∀b,p.fp b->q.fp b
 | [],_,_,_,_,h=>by cases h
 | (k,u)::r,H,h,i,p,hi=>by
  by_cases c:k=i
  .subst c;rw [Yl]at hi;cases hi;exact h.1
  .rw [Zx _ _ c]at hi;exact FpSub.lk h.2 i p hi
theorem Sat.re{w':World}(hs:Sat N sc env H a w)(l:∀i p,lk H' i=some p->∃q,lk H i=some q/\p.own=q.own/\∀b,p.fp b->q.fp b)(n:∀i p,lk H' i=some p->p.holds w'):Sat N ALL env H' a w':=
 ⟨hs.size,hs.defers,hs.env,n,λi j p q f hi o r b m c=>by obtain⟨s,h,g,d⟩:=l i p hi;obtain⟨t,k,_,e⟩:=l j q o;exact hs.sep i j s t f h k (g▸r) b (d b m) (e b c),λ_ _ _ _ _ _=>trivial⟩
def FpN:Hp->Hp->Prop
 | [],_=>True
 | (i,p)::r,H=>(p.own=true\/∃q,lk H i=some q/\∀b,p.fp b->q.fp b)/\FpN r H
theorem FpN.lk:∀{H' H:Hp},FpN H' H->∀i p,lk H' i=some p->p.own=true\/∃q,lk H i=some q/\∀b,p.fp b->q.fp b
 | [],_,_,_,_,h=>by cases h
 | (k,u)::r,H,h,i,p,hi=>by
  by_cases c:k=i
  .subst c;rw [Yl]at hi;cases hi;exact h.1
  .rw [Zx _ _ c]at hi;exact FpN.lk h.2 i p hi
theorem lk3{p q:Pc}{r:Pc}(h:lk ((90,p)::(91,q)::H) i=some r):(i=90/\r=p)\/(i=91/\r=q)\/(i≠90/\i≠91/\lk H i=some r):=by grind [Yl,Zx]
theorem lk3'{p q:Pc}(b:i≠90)(c:i≠91):lk ((90,p)::(91,q)::H) i=lk H i:=by grind [Zx]
theorem Sat.turn{l D:Nat}{o d f:Obj}(hs:Sat N ALL env ((90,fx l o)::(91,fx D f)::H) a w)(c:l≠D)(s:∀i p,i≠90->i≠91->lk H i=some p->¬p.fp l) :
  Sat N ALL env ((90,fx l d)::(91,fx D f)::H) a (w.putObj l d):=by
 have n:=hs.hold 90 _ rfl;have m:=hs.hold 91 _ rfl;refine hs.re (λi p hi=>?_) (λi p hi=>?_)
 .rcases lk3 hi with⟨rfl,rfl⟩|⟨rfl,rfl⟩|⟨g,j,hi⟩
  .exact⟨_,rfl,rfl,λ_ h=>h⟩
  .exact⟨_,rfl,rfl,λ_ h=>h⟩
  grind [lk3']
 .rcases lk3 hi with⟨rfl,rfl⟩|⟨rfl,rfl⟩|⟨g,j,q⟩
  .exact World.putObj_heap_same (aS.1 n).1
  .exact(World.putObj_heap_other (λe=>c e.symm)).trans m
  .refine p.stable _ _ (hs.hold i p (by grind [lk3'])) ⟨rfl,rfl,rfl,O5,λk r b=>World.putObj_heap_other (λe=>b ?_)⟩;grind
theorem Sat.round(hs:Sat N sc env H a w)(d:Nat)(v:Value)(b:Nat.blt d N=true):Sat N sc ((d,v)::env) H { tmps:=(#[d].zip #[v]).foldl (λt (p,v)=>t.setIfInBounds p v) a.tmps,defers:=[] } w:=by
 have h:=hs.put d v b;have e:(a.put (some d) v)={ tmps:=(#[d].zip #[v]).foldl (λt (p,v)=>t.setIfInBounds p v) a.tmps,defers:=[] }:=by show({ a with tmps:=a.tmps.setIfInBounds d v })=_;rw [<-hs.defers];simp
 grind
theorem Iu{ops:Array Oper}{Q1 k:Exit->Act->World->Prop}(b:∀e a w,Q1 e a w->k e a w):∀(l:List Oper) (a:Act) (w:World),wpList P ops Q1 l a w->wpList P ops k l a w
 | [],_,_,h=>b _ _ _ h
 | o::l,a,w,h=>by
  unfold wpList at h ⊢;split
  .rename_i g;rw [aM g]at h;rcases h with h|⟨p,m,j,q⟩
   .refine .inl ?_;unfold Oper.wp at h ⊢;revert h;generalize (execOp _ o).run P w=x;intro h;cases x with
    | ok n j=>
     cases n<;>simp only [Oper.upon]at h ⊢
     case value=>exact Iu b l _ _ h
     case skip=>exact Iu b l _ _ h
     case defer=>exact Iu b l _ _ h
     case enter f args=>
      refine h.mono λe r d=>?_;cases e with
      | returned v=>exact Iu b l _ _ d
      | panicked c=>grind
      | outgrown=>obtain⟨a,w,h⟩:=d;exact⟨a,w,b _ _ _ h⟩
     case row row args=>exact h.mono λ_ _ d=>Iu b l _ _ d
    | halt x j=>
     cases x<;>simp only [Oper.upon]at h ⊢;grind
   .exact .inr ⟨p,m,j,b _ _ _ q⟩
  .rename_i g;rw [aG g]at h;exact Iu b l _ _ h
end Go.Sky
namespace Go.Sky
open Go.RowKit Below
variable{f:FuncId}{fn:Func}{lb:List Value}{pre:List Pc}{ops:Array Oper}{o:Oper}{ts:Array Value}{rest:List Oper}{d:Nat}{w0 W:World}{M:Nat->Prop}{x:Operand}{ops':List Operand}{tys:Array TypeId}{Jx:World->Prop}
variable {P:Program} {N:Nat} {sc:Nat->Prop} {env env':Pu} {H H':Hp} {Q Q':Exit->Act->World->Prop}
def YJI(P:Program)(w0:World)(l:Nat)(M:Nat->Prop)(J:Nat->World->Prop)(Jx:World->Prop){α G:Type}(xs:List α)(ys:α->G->List Value)(h:α->G->List Pc):Prop:=
 ∀k x g,xs[k]? = some x->∀W a,J k W->w0.heap.size<=W.heap.size->Below W.heap.size W a->(∀p∈h x g,p.holds a/\p.own=false/\∀b,p.fp b->W.heap.size<=b)->
  YieldAt Fence.wide 0 P l (ys x g).toArray a λe c=>(e= .returned (.bool true)/\J (k+1) c/\Chg (λb=>M b\/w0.heap.size<=b) a c)\/(e= .returned (.bool false)/\Jx c/\Chg (λb=>M b\/w0.heap.size<=b) a c)
def Zj1(J:World->Prop):Prop:=∀W a,J W->Below W.heap.size W a->J a
def Ygz(P:Program)(f:FuncId)(lb:List Value)(pre:List Pc){α G:Type}(xs:List α)(ys:α->G->List Value)(a:α->G->List Pc):Prop:=
 ∀(l:Nat) (M:Nat->Prop) (J:Nat->World->Prop) (Jx:World->Prop) (w:World),
  (∀p∈pre,p.holds w)->(∀p∈pre,∀b,p.fp b->¬M b)->(∀k,Zj1 (J k))->Zj1 Jx->J 0 w->YJI P w l M J Jx xs ys a->
  Calls P f (.func (.yield l) #[] #[]::lb).toArray w λe c=>(∃v,e= .returned v)/\(J xs.length c\/Jx c)
def Yoj(P:Program)(fn:Func)(n:Nat)(J:Nat->World->Prop)(Jx:World->Prop):Exit->Act->World->Prop:=
 bodyPost P fn λe a=>(∃v,e= .returned v)/\(J n a\/Jx a)
theorem Zte   {c:Code}   {α G:Type} {xs:List α} {ys:α->G->List Value} {n:α->G->List Pc} {N:Nat}
  (hf:P.funcs[f]? = some fn) (a:fn.body=some c) (V:fn.ntmps=N) (z:Nat.ble (lb.length+1) N=true) (F:AllRo pre)
  (h:∀(l:Nat) (M:Nat->Prop) (J:Nat->World->Prop) (Jx:World->Prop) w0 (sc:Nat->Prop),(∀b,w0.heap.size<=b->sc b)->(∀p∈pre,∀b,p.fp b->b<w0.heap.size/\¬M b)->(∀k,Zj1 (J k))->Zj1 Jx->J 0 w0->YJI P w0 l M J Jx xs ys n->
   E P N sc c (Yoj P fn xs.length J Jx) (Qv 0 (.func (.yield l) #[] #[]::lb)) ((0,Yx w0 (λ_=>False))::Yz 1 pre)) :
  Ygz P f lb pre xs ys n:=λl M J Jx w R hm S u s Y=>by
 refine calls_of_wp hf a (h l M J Jx w (λb=>w.heap.size<=b\/∃q∈pre,q.fp b) (λb a=> .inl a) (λp m b a=>⟨p.lt w b (R p m) a,hm p m b a⟩) S u s Y _ w ?_);have I:lb.length+1<=N:=by simpa using z
 refine⟨by simp [V];omega,rfl,λt v ht=>?_,λi p hi=>?_,λi j p q a0 hi hj D b a Z=>?_,λi p y hi b a=>?_⟩
 .have r:=(Ge (.func (.yield l) #[] #[]::lb) 0 t v ht).2;have r:(Value.func (.yield l) #[] #[]::lb).toArray[t]? = some v:=by simpa using r
  have B:=(aS.1 r).1;rw [bO,dY B,r];rfl
 .by_cases g:0=i
  .subst g;rw [Yl]at hi;cases hi;exact Chg.refl _ w
  .rw [Zx _ _ g]at hi;exact R p (Nt pre 1 i p hi).2
 .by_cases g:0=i
  .subst g;rw [Yl]at hi;cases hi;cases D
  .rw [Zx _ _ g]at hi;rw [F.mem p (Nt pre 1 i p hi).2]at D;cases D
 .rw [Zx _ _ (λe=>y e.symm)]at hi;exact .inr ⟨p,(Nt pre 1 i p hi).2,a⟩
def LI(P:Program)(N:Nat)(sc:Nat->Prop)(ops:Array Oper)(rest:List Oper)(Q:Exit->Act->World->Prop)(env:Pu)(H:Hp):Prop:=
 ∀a w,Sat N sc env H a w->wpListIn Fence.wide 0 P ops Q rest a w
def Ygj{id:Nat}{l:List Oper}(h:LI P N sc l.toArray l Q env H):E P N sc (.region id l.toArray false) Q env H:=λa w hs=>
 (wpIn_wide (n:=0)).1 (wpIn_region_lit (h a w hs))
theorem Zjf(a:o.guard=none):Region.wanted o (yielded ops ts)=true:=by simp [Region.wanted,a]
theorem Mz{v:Value}(g:Li P N sc o env H v)(c:o.dst=some d)(h:LI P N sc ops rest Q ((d,v)::env) H)(e:o.guard=none:=by rfl)(b:Nat.blt d N=true:=by rfl):LI P N sc ops (o::rest) Q env H:=λa w hs=>by unfold wpListIn;rw [aM (Zjf e)];refine⟨λ_ _=>trivial,?_⟩;show o.uponIn Fence.wide 0 P a _ Q ((execOp a.eval o).run P w);rw [g a w hs];show wpListIn Fence.wide 0 P ops Q rest (a.put o.dst v) w;rw [c];exact h _ w (hs.put d v b)
def Bf(h:X N sc .normal Q env H):LI P N sc ops [] Q env H:=λa w hs=>h a w hs
theorem Sat.base {u r:World}   {a:Act} (hs:Sat N sc env H a u) (n:∀p∈pre,∀b,p.fp b->b<w0.heap.size/\¬M b) (t:AllRo pre) (c:HSub (Yz 1 pre) H)
  (l:Chg (λb=>M b\/w0.heap.size<=b) u r):Sat N sc env ((0,Yx r (λ_=>False))::Yz 1 pre) a r:=by
 refine⟨hs.size,hs.defers,hs.env,λi p hi=>?_,λi j p q D hi G s b v w=>?_,λi p m hi b v=>?_⟩
 .by_cases g:0=i
  .subst g;rw [Yl]at hi;cases hi;exact Chg.refl _ _
  .rw [Zx _ _ g]at hi;have F:=(Nt pre 1 i p hi).2;refine p.stable _ _ (hs.hold i p (c.lk i p hi)) ⟨l.os,l.tape,l.output,l.size,λk z B=>l.block k z (λy=>?_)⟩;have:=n p F k (eT.1 B);rcases y with h|h
   .exact this.2 h
   .omega
 .by_cases g:0=i
  .subst g;rw [Yl]at hi;cases hi;cases s
  .rw [Zx _ _ g]at hi;rw [t.mem p (Nt pre 1 i p hi).2]at s;cases s
 .rw [Zx _ _ (λe=>m e.symm)]at hi;exact hs.scope i p m (c.lk i p hi) b v
theorem Zvy (vs:List Value)(pre:List Pc)    {l:Nat}       {J:Nat->World->Prop}  {α G:Type} {xs:List α} {ys:α->G->List Value} {F:α->G->List Pc} 
  {k:Nat} (y:α) (g:G) (hY:YJI P w0 l M J Jx xs ys F) (hy:xs[k]? = some y) (hJ:J k W) (hW:w0.heap.size<=W.heap.size) (n:∀p∈pre,∀b,p.fp b->b<w0.heap.size/\¬M b)
  (ho:o.op= .call { callee:= .value x,args:=ops'.toArray,argTypes:=tys }) (hg:o.guard=none) (hd:o.dst=some d) (hN:Nat.blt d N=true) (hx:ev env x=some (.func (.yield l) #[] #[])) (s:EvL env ops' vs) (V:vs=ys y g)
  (h0:lk H 0=some (Yx W (λ_=>False))) (v:∀p∈F y g,p.own=false/\(∀b,p.fp b->W.heap.size<=b)/\∃i R,lk H i=some R/\∀w,R.holds w->p.holds w)
  (z:AllRo pre) (q:HSub (Yz 1 pre) H)
  (ht:∀c,J (k+1) c->w0.heap.size<=c.heap.size->LI P N sc ops rest Q ((d,.bool true)::env) ((0,Yx c (λ_=>False))::Yz 1 pre))
  (hf:∀c,Jx c->w0.heap.size<=c.heap.size->LI P N sc ops rest Q ((d,.bool false)::env) ((0,Yx c (λ_=>False))::Yz 1 pre)):LI P N sc ops (o::rest) Q env H:=λa w hs=>by
 subst V;have Z:=Ib (hs.hold 0 _ h0);obtain⟨fn,I,j,t,B,m⟩:=hY k y g hy W w hJ hW Z (λp hp=>by obtain⟨h1,h2,i,R,hi,hh⟩:=v p hp;exact⟨hh w (hs.hold i R hi),h1,h2⟩)
 have S:(o.semAt Fence.wide.round a.eval).run P w= .ok (.round l fn I j t) w:=by show(execOp a.eval o).run P w=_;have hm:=s.map hs;have Y:=hs.ev hx;simp [execOp,ho,resolve,invoke,Deferred.ofValue,hm,Y,B,Sem.run_bind]
 unfold wpListIn;rw [aM (Zjf hg)];refine⟨λ_ _=>trivial,?_⟩;rw [S];refine⟨λh=>(by cases h),m.mono ?_⟩;have D:w0.heap.size<=w.heap.size:=aB hW Z.size;rintro e c (⟨rfl,r,u⟩|⟨rfl,r,u⟩)
 .show wpListIn Fence.wide 0 P ops Q rest (a.put o.dst _) c;rw [hd];exact ht c r (aB D u.size) _ c ((hs.base n z q u).put d _ hN)
 .show wpListIn Fence.wide 0 P ops Q rest (a.put o.dst _) c;rw [hd];exact hf c r (aB D u.size) _ c ((hs.base n z q u).put d _ hN)
theorem Zb0{J:Nat->World->Prop}{n:Nat}{e:Exit}(l:e= .ret\/e= .normal)(m:fn.results=#[])(j:lk H 0=some (Yx W (λ_=>False)))(b:∀k,Zj1 (J k))(c:Zj1 Jx)(h:J n W\/Jx W):X N sc e (Yoj P fn n J Jx) env H:=λa w hs=>by
 have i:=Ib (hs.hold 0 _ j);have g:a.defers=[]/\∃v,(results fn a.tmps).run P w= .ok v w/\((∃u,Ending.returned v= .returned u)/\(J n w\/Jx w)):=
  ⟨hs.defers,_,Yi7 m,⟨_,rfl⟩,h.imp (λh=>b n W w h i) (λh=>c W w h i)⟩
 rcases l with rfl|rfl<;>exact g
end Go.Sky

