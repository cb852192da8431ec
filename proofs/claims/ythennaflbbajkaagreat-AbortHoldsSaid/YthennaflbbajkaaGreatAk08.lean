/- Rules, arithmetic and contracts: part 9. No conditions but those that each theorem names. -/
import Derived.Test.YthennaflbbajkaaGreatAk07
set_option linter.all false
namespace Go.Sky
variable{xs c p z y q l1 l2:List Int}{i:Nat}{a b d x ov:Int}{u:Rat}{zs:List (SL×List Int)}{s:SL}{f:Nat->Value}{d0:SL×List Int}{v:Value}{M M0:Nat->Prop}
def lessx(xs:List Int)(m:Int):List Int:=Bq xs (tzl [m])
def Zwg(xs:List Int)(m:Int):Prop:=∃x:Rat,0<=x/\x<=1/\Zc xs x<(m:Rat)
theorem Ydo{m n:Int}(h:Zwg xs m)(e:m<=n):Zwg xs n:=by
 obtain⟨x,a,b,c⟩:=h;have:(m:Rat)<=(n):=by exact_mod_cast e
 exact⟨x,a,b,O5⟩
def lws:List Int->Int
 | []=>0
 | c::p=>-(c.natAbs:Int)+lws p
theorem Yib{n:Nat} : ∀p:List Int,(∀c∈p,c.natAbs<=n)->-((p.length*n:Nat):Int)<=lws p/\lws p<=0
 | [],_=>by show -((0*n):Int)<=0/\(0)<=0;simp
 | c::p,h=>by have g:=Yib p λd e=>h d (bN _ e);show -(((p.length+1)*n))<=-(c.natAbs)+lws p/\-(c.natAbs)+lws p<=0;grind
theorem Yak{x:Rat}(e:0<=x)(g:x<=1):∀p:List Int,((lws p:Int):Rat)<=Zc p x
 | []=>by rfl
 | c::p=>by
  have r:=Yak e g p;have h:=(Yib (n:=p.foldl (λm c=>max m c.natAbs) 0) p (λc k=>by
   have:∀(l:List Int) (a:Nat),(a<=l.foldl (λm c=>max m c.natAbs) a)/\∀c∈l,c.natAbs<=l.foldl (λm c=>max m c.natAbs) a:=λl=>by
    induction l with
    | nil=>simp
    | cons d l r=>
     grind
   grind)).2
  have j:((lws p):Rat)<=0:=by exact_mod_cast h
  have k:((-(c.natAbs:Int)))<=(c:Rat):=by exact_mod_cast (show -(c.natAbs)<=c by omega)
  have t:=aD (show 0<=1-x by grind) (show 0<=-((lws p):Rat) by grind);have o:=aD e (show 0<=Zc p x-((lws p)) by grind);show((-(c.natAbs)+lws p:Int))<=(c)+x*Zc p x;grind
theorem Yie(xs:List Int):¬Zwg xs (lws xs):=by rintro⟨x,a,b,c⟩;grind [Yak]
theorem Yn1(xs:List Int):Zc xs 0=((cf xs 0:Int):Rat):=by
 cases xs with
 | nil=>rfl
 | cons c p=>show(c)+0*Zc p 0=(c);grind
theorem Ydp(xs:List Int):Zwg xs (cf xs 0+1):=by refine⟨0,by rfl,by rfl,?_⟩;grind [Yn1]
theorem Yot{l h:Int}(e:¬Zwg xs l)(g:Zwg xs h):l<h:=by grind [Int.lt_or_le,Ydo]
def Zs0(hs:Sz 40 xs)(i:Nat):(cf xs i).natAbs<1099511627776:=(Qs 40 _).1 (hs i)
theorem Yia(hs:Sz 40 xs)(o:xs.length<=9)(i:Nat):-9895604649984<=lws (xs.take i)/\lws (xs.take i)<=0:=by
 obtain⟨h,j⟩:=Yib (n:=1099511627776) _ λc g=>by
  obtain⟨k,m,rfl⟩:=dI.1 g;have l:=Zs0 hs k;have e:(xs.take i)[k]=cf xs k:=by unfold cf;grind
  omega
 grind
structure FlI (xs:List Int) (lo hi:Int):Prop where
 l:¬Zwg xs lo
 h:Zwg xs hi
 b1:-17592186044416<=lo
 b2:hi<=17592186044416
def FlI.lt{e hi:Int}(h:FlI xs e hi):e<hi:=Yot h.l h.h
theorem FlI.start(hs:Sz 40 xs)(e:xs.length<=9)(hi:xs.length<=i):FlI xs (lws (xs.take i)) (cf xs 0+1):=by have g:=Yia hs e i;have h:=Zs0 hs 0;refine⟨by grind [List.take_of_length_le,Yie],Ydp xs,O1,O1⟩
structure Ef (a:R2):Prop where
 p:0<a.2
 b1:bl a.1.natAbs<=512
 b2:bl a.2.natAbs<=512
def E32.ef{a:R2}(h:E32 a):Ef a:=⟨h.p,aB h.b1 O4,aB h.b2 O4⟩
def plx(a b:R2):Int:=a.1*b.2
def ply(a b:R2):Int:=b.1*a.2
def pld(a b:R2):Int:=a.2*b.2
def plc(xs:List Int)(a b:R2):List Int:=Ky xs (plx a b) (ply a b-plx a b) (pld a b)
def Yn6(c:List Int)(d j:Nat)(i:Nat):Int:=Ye (λi=>cf c i*(Ob (d-i) (j-i):Int)) i
def plainB(xs:List Int)(a b:R2):Bool:=if xs.length=0 then true else(List.range xs.length).all λj=>decide (0<=Yn6 (plc xs a b) (xs.length-1) j (min (j+1) (plc xs a b).length))
abbrev PTs:=Int×R2×R2
abbrev P0:PTs:=(0,(0,0),(0,0))
abbrev encP9 (z:PTs):Value:= .agg #[.int .i64 z.1,.bool (decide (z.2.1.1<0)),.string (Xo z.2.1.1.natAbs),.bool (decide (z.2.1.2<0)),.string (Xo z.2.1.2.natAbs),.bool (decide (z.2.2.1<0)),.string (Xo z.2.2.1.natAbs),.bool (decide (z.2.2.2<0)),.string (Xo z.2.2.2.natAbs)]
def shw(xs:List Int)(z:PTs):Bool:=if z.1=1 then plainB xs z.2.1 z.2.2 else if xs.length=0\/cmp z.2.1 z.2.2=0 then decide (0<=vlu (Nl xs) z.2.1)else decide (0<aft (Nl xs) z.2.1) && !crb (chx xs) z.2.1 z.2.2
def okpB(xs:List Int)(l:R2)(z:PTs):Bool:=decide (cmp l z.2.1=0) && decide (¬0<cmp z.2.1 z.2.2) && shw xs z
def lst(a:R2)(ps:List PTs)(i:Nat):R2:=if i=0 then a else(ps.getD (i-1) P0).2.2
def chkP(xs:List Int)(ps:List PTs)(a b:R2):Bool:=decide (0<ps.length) && (List.range ps.length).all (λk=>okpB xs (lst a ps k) (ps.getD k P0)) && decide (cmp (lst a ps ps.length) b=0)
def ValP(ps:List PTs):Prop:=∀z∈ps,(z.1=1\/z.1=2)/\Ef z.2.1/\Ef z.2.2
theorem Ef.efit{a:R2}(h:Ef a):Go.Sky.efit a=true:=by have:=h.b1;have:=h.b2;unfold Go.Sky.efit;exact aE O1
theorem Qa{b:Bool}(h:(!b)=true):b=false:=by cases b<;>simp_all
theorem Qj{b:Bool}(h:(!b)=false):b=true:=by cases b<;>simp_all
def He(f:Nat->Rat):Nat->Rat
 | 0=>0
 | n+1=>He f n+f n
def Ot(f:Nat->Rat)(n:Nat):He f (n+1)=He f n+f n:=rfl
theorem My{f g:Nat->Rat} : ∀n,(∀i,i<n->f i=g i)->He f n=He g n
 | 0,_=>rfl
 | n+1,h=>by rw [Ot,Ot,My n λi hi=>h i O1,h n O1]
theorem Ca(f:Nat->Rat):∀n,He f (n+1)=f 0+He (λi=>f (i+1)) n
 | 0=>by show 0+f 0=f 0+0;grind
 | n+1=>by rw [Ot,Ca f n,Ot];grind
theorem Zlc(f g:Nat->Rat):∀n,He (λi=>f i+g i) n=He f n+He g n
 | 0=>by show(0:Rat)=0+0;grind
 | n+1=>by rw [Ot,Ot,Ot,Zlc f g n];grind
theorem Ew(c:Rat)(f:Nat->Rat):∀n,He (λi=>c*f i) n=c*He f n
 | 0=>by show(0:Rat)=c*0;grind
 | n+1=>by rw [Ot,Ot,Ew c f n];grind
theorem Ziw(f:Nat->Rat):∀n,(∀i,i<n->0<=f i)->0<=He f n
 | 0,_=>mE
 | n+1,h=>by have e:=Ziw f n λi hi=>h i O1;have g:=h n O1;rw [Ot];grind
theorem Zi7(n:Nat):Ob n 0=1:=by cases n<;>rfl
def chz_s(n k:Nat):Ob (n+1) (k+1)=Ob n k+Ob n (k+1):=rfl
theorem Yln{u w:Rat}(h:u+w=1):∀n,He (λj=>(Ob n j:Rat)*(u^j*w^(n-j))) (n+1)=1
 | 0=>by rw [Ca];show((Ob 0 0:Nat):Rat)*(u^0*w^0)+0=1;rw [Zi7,dV,dV];push_cast;grind
 | n+1=>by
  have e:=Yln h n;rw [Ca];have g:He (λi=>(Ob (n+1) (i+1):Rat)*(u^(i+1)*w^(n+1-(i+1)))) (n+1)=He (λi=>u*((Ob n i:Rat)*(u^i*w^(n-i)))) (n+1)+He (λi=>(Ob n (i+1):Rat)*(u^(i+1)*w^(n-i))) (n+1):=by rw [<-Zlc];refine My _ λi hi=>?_;rw [chz_s,show n+1-(i+1)=n-i by omega,dE];push_cast;grind
  have k:He (λi=>(Ob n (i+1):Rat)*(u^(i+1)*w^(n-i))) (n+1)=He (λi=>(Ob n (i+1):Rat)*(u^(i+1)*w^(n-i))) n:=by rw [Ot,Zmy n (n+1) O1];push_cast;grind
  have l:w*He (λj=>(Ob n j:Rat)*(u^j*w^(n-j))) (n+1)=w^(n+1)+He (λi=>(Ob n (i+1):Rat)*(u^(i+1)*w^(n-i))) n:=by
   rw [<-Ew,Ca,Zi7];congr 1
   .rw [gP,dV,dE];push_cast;grind
   .refine My _ λi hi=>?_;rw [show n-i=(n-(i+1))+1 by omega,dE w];grind
  rw [g,k,Ew,e];rw [e]at l;rw [Zi7,dV,gP];push_cast;grind
def Kb(d:Nat)(c:List Int)(j:Nat):Int:=Ye (λi=>cf c i*(Ob (d-i) (j-i):Int)) (j+1)
theorem Ylf(d:Nat)(a:Int)(c:List Int):Kb d (a::c) 0=a:=by unfold Kb;rw [Yi,Kf];show 0+a*((Ob (d-0) (0-0):Nat):Int)=a;rw [show 0-0=0 from rfl,Zi7];omega
theorem brS_s(d:Nat)(a:Int)(c:List Int)(j:Nat):Kb (d+1) (a::c) (j+1)=a*(Ob (d+1) (j+1):Int)+Kb d c j:=by unfold Kb;rw [Lh];congr 1;refine Xl λi hi=>?_;rw [show d+1-(i+1)=d-i by omega,show j+1-(i+1)=j-i by omega];rfl
theorem Zr4(d j:Nat):Kb d [] j=0:=by unfold Kb;exact(Zd0 (m:=0) (bI _) λi _ _=>by rw [show cf [] i=0 from rfl,cQ]).trans (Kf _)
theorem bern{u w:Rat}(h:u+w=1):∀(d:Nat) (c:List Int),c.length<=d+1->He (λj=>(Kb d c j:Rat)*(u^j*w^(d-j))) (d+1)=Zc c u
 | d,[],_=>by
  rw [My (g:=λ_=>0) (d+1) λi hi=>by rw [Zr4];push_cast;grind];show He (λ_=>0) (d+1)=0;have:∀n,He (λ_=>0) n=0:=λn=>by
   induction n with
   | zero=>rfl
   | succ n k=>rw [Ot,k];grind
  exact this _
 | 0,[a],_=>by rw [Ot,Ylf];show 0+(a:Rat)*(u^0*w^0)=(a:Rat)+u*0;rw [dV,dV];grind
 | 0,a::b::c,hl=>by simp at hl
 | d+1,a::c,hl=>by
  have k:=bern h d c (by simpa using hl);have e:=Yln h (d+1);rw [Ca]at e;rw [Ca,Ylf];have l:He (λi=>(Kb (d+1) (a::c) (i+1):Rat)*(u^(i+1)*w^(d+1-(i+1)))) (d+1)=(a:Rat)*He (λi=>(Ob (d+1) (i+1):Rat)*(u^(i+1)*w^(d+1-(i+1)))) (d+1)+u*He (λj=>(Kb d c j:Rat)*(u^j*w^(d-j))) (d+1):=by rw [<-Ew,<-Ew,<-Zlc];refine My _ λi hi=>?_;rw [brS_s,show d+1-(i+1)=d-i by omega,dE];push_cast;grind
  rw [l,k];show _=(a:Rat)+u*Zc c u;rw [Zi7]at e;push_cast at e ⊢;grind
theorem Zlf(c:List Int)(d j:Nat):Yn6 c d j (min (j+1) c.length)=Kb d c j:=by unfold Yn6 Kb;refine(Zd0 (Nat.min_le_left _ _) λi e g=>?_).symm;rw [Yx O1,cQ]
theorem Zv4{d:Nat}(m:c.length<=d+1)(hs:∀j,j<d+1->0<=Yn6 c d j (min (j+1) c.length))(g:0<=u)(n:u<=1):0<=Zc c u:=by
 rw [<-bern (u:=u) (w:=1-u) O5 d c m];refine Ziw _ _ λi hi=>?_;have e:=hs i hi;rw [Zlf]at e;have h:(0:Rat)<=((Kb d c i:Int):Rat):=by exact_mod_cast e
 have k:(0:Rat)<=u^i:=Rat.pow_nonneg g;have l:(0:Rat)<=(1-u)^(d-i):=Rat.pow_nonneg O5;exact aD h (aD k l)
theorem Cn(a:Int):∀(c:List Int) (i:Nat),cf (c.map λx=>a*x) i=a*cf c i
 | [],i=>by rw [jG,show cf [] i=0 from rfl,eI]
 | x::c,0=>rfl
 | x::c,i+1=>Cn a c i
theorem Zw1(c:List Int)(a b e:Int)(u:Rat):Zc (mk (c.length+1) λt=>cf c t*a+(if t=0 then e else cf c (t-1)*b)) u=Zc c u*((a:Rat)+(b:Rat)*u)+(e:Rat):=by
 have h:Zc (mk (c.length+1) λt=>cf c t*a+(if t=0 then e else cf c (t-1)*b)) u=Zc (Mc (c.map λx=>a*x) (e::c.map λx=>b*x)) u:=Ol u _ _ λi=>by
  rw [Me,Cn,Ih]
  match i with
  | 0=>rw [aO O1,aO rfl];show cf c 0*a+e=a*cf c 0+e;rw [jI]
  | i+1=>
   show _=a*cf c (i+1)+cf (c.map λx=>b*x) i;rw [Cn];by_cases hi:i<c.length
   .rw [aO O1,aF O1,mS,jI,jI (cf c i)]
   .rw [aF O1,Yx (p:=c) (i:=i+1) O1,Yx (p:=c) (i:=i) O1];omega
 rw [h,Xd,Zi];show _+((e:Rat)+u*Zc (c.map λx=>b*x) u)=_;rw [Zi];grind
theorem Ztn(p:List Int)(a b d:Int){t u:Rat}(g:t*(d:Rat)=(a:Rat)+(b:Rat)*u):∀j,j+1<=p.length->Zc (Kp p a b d j) u=(d:Rat)^j*Zc (p.drop (p.length-1-j)) t
 | 0,h=>by
  have e:p.drop (p.length-1-0)=[cf p (p.length-1)]:=by rw [gP,eU O1,List.drop_of_length_le O1];congr 1;unfold cf;rw [aJ,aL O1];rfl
  rw [Ch,e,dV,Pw,Pw];grind
 | j+1,h=>by
  have k:=Ztn p a b d g j O1;have e:p.drop (p.length-1-(j+1))=cf p (p.length-2-j)::p.drop (p.length-1-j):=by rw [eU O1,show p.length-1-(j+1)+1=p.length-1-j by omega];congr 1;unfold cf;rw [aJ,aL O1];show p[p.length-1-(j+1)]=p[p.length-2-j];congr 1;omega
  rw [Yeg,Zw1,k,e,<-g];show _=(d:Rat)^(j+1)*((cf p (p.length-2-j):Rat)+t*Zc (p.drop (p.length-1-j)) t);rw [dE];push_cast;rw [dE];generalize (d:Rat)^j=D;grind
theorem Zk9(a b d:Int){t:Rat}(g:t*(d:Rat)=(a:Rat)+(b:Rat)*u)(e:p.length≠0):Zc (Ky p a b d) u=(d:Rat)^(p.length-1)*Zc p t:=by unfold Ky;rw [aF e,Ol u (tzl _) _ (λi=>Hm _ i),Ztn p a b d g (p.length-1) O1,kB,kK]
def Nt(c:List Int)(a b d:Int):List Int:=Yo (Ky (tzl c) a b d) (d^(6-c.length))
def Zm3(h:a.natAbs<=3600000):bl a.natAbs<=22:=(Qs 22 _).2 (aY h O4)
theorem Zoy(h:bl d.natAbs<=22):∀k,k<=5->bl (d^k).natAbs<=132
 | 0,_=>by rw [eT];decide
 | k+1,g=>by
  have e:∀k,bl (d^k).natAbs<=22*k+1:=λk=>by
   induction k with
   | zero=>rw [eT];decide
   | succ k j=>rw [eJ];have:=Xz (d^k) d;omega
  have:=e (k+1);omega
theorem Zru(h:∀a∈c,La a)(D:1<=c.length/\c.length<=6)(w:a.natAbs<=3600000)(B:b.natAbs<=3600000)(P:1<=d/\d<=3600000) :
  Vp (tzl c)/\¬Zmu (tzl c) a b d/\Vp (Ky (tzl c) a b d)/\bl (d^(6-c.length)).natAbs<=132/\(∀i,bl (cf (Ky (tzl c) a b d) i*d^(6-c.length)).natAbs<=65536)/\Vp (Nt c a b d)/\Sz 1000 (Nt c a b d)/\(Nt c a b d).length<=6:=by
 have H:(tzl c).length<=6:=aB (Ge c) D.2;have n:Sz 64 (tzl c):=(ab_in h).sz O4;have o:=Zm3 w;have r:=Zm3 B;have g:bl d.natAbs<=22:=Zm3 O1;have l:=cp_not (cp_nf n o r g O1 O1);have hs:Sz 300 (Ky (tzl c) a b d):=by
  have h:=Zji (x:=a) (y:=b) (z:=d) (m:=22) n o r g ((tzl c).length-1);unfold Ky;split
  .exact Sz.nil _
  .refine(Sz.tzl h).mono ?_;have:((tzl c).length-1)*(22+1)<=5*23:=aU O1 O1;omega
 have G:Tr (Ky (tzl c) a b d):=by
  unfold Ky;split
  .exact .inl rfl
  .exact Qt _
 have j:(Ky (tzl c) a b d).length<=6:=aB (Zfm _ _ _ _) H;have F:=Zoy g (6-c.length) O1;have t:∀i,bl (cf (Ky (tzl c) a b d) i*d^(6-c.length)).natAbs<=500:=λi=>by have I:=hs i;have N:=Xz (cf (Ky (tzl c) a b d) i) (d^(6-c.length));omega
 have e:Sz 1000 (Nt c a b d):=λi=>by unfold Nt;rw [Qp];have:=t i;omega
 have k:(Nt c a b d).length<=6:=aB Kg j;exact⟨⟨n.mono O1,Qt _,O1⟩,l,⟨hs.mono O1,G,O1⟩,F,λi=>by have:=t i;omega,⟨e.mono O1,Nu _ _,O1⟩,e,k⟩
def Zt0(zs:List (SL×List Int)):List (SL×List Int):=zs ++ List.replicate (3-zs.length) ((none,0,0),[])
theorem Yii(h:zs.length<=3):(Zt0 zs).length=3:=by unfold Zt0;rw [cM,aX];omega
theorem Yhe{z:SL×List Int}(hi:i<3)(h:zs.length=i):(Zt0 zs).set i z=Zt0 (zs ++ [z]):=by subst h;unfold Zt0;rw [List.set_append_right _ _ (aI _),kB,cM,gC];congr 1;obtain⟨k,e⟩:∃k,3-zs.length=k+1:=⟨2-zs.length,O1⟩;rw [e,iV,mM,show 3-(zs.length+[z].length)=k by simp;omega];rfl
theorem Zvx{t:Nat}{f:Nat->List Int}(g:zs.length=i)(h:∀t,t<i->(zs.getD t d0).2=f t)(j:t<i+1):((zs ++ [(s,f i)]).getD t d0).2=f t:=by
 subst g;rw [aJ];rcases aC.1 j with e|e
 .rw [fH e,<-aJ];exact h t e
 .subst e;simp
theorem Ye9{x:List Int}(k:zs.length=3)(h:∀t,t<3->(zs.getD t d0).2=Nt (Ya t x y z) a b d):∃l m n:SL,zs=[(l,Nt x a b d),(m,Nt y a b d),(n,Nt z a b d)]:=by
 match zs,k with
 | [o,r,w],_=>
  have e:=h 0 O4;have g:=h 1 O4;have j:=h 2 O4;simp [Ya]at e g j;exact⟨o.1,r.1,w.1,by rw [<-e,<-g,<-j]⟩
def Ykh:List Int->List Int
 | []=>[]
 | a::p=>a::0::Ykh p
theorem Zpr(x:Rat):∀p:List Int,Zc (Ykh p) x=Zc p (x*x)
 | []=>rfl
 | a::p=>by show(a:Rat)+x*(((0:Int):Rat)+x*Zc (Ykh p) x)=(a:Rat)+x*x*Zc p (x*x);rw [Zpr x p];push_cast;grind
theorem Zye:∀(p:List Int) (i:Nat),cf (Ykh p) (2*i)=cf p i
 | [],i=>rfl
 | a::p,0=>rfl
 | a::p,i+1=>by show cf (0::Ykh p) (2*i+1)=cf p i;exact Zye p i
theorem Yfs(x:Rat):0<=x*x:=by
 rcases(show 0<=x\/x<=0 by grind)with h|h
 .exact aD h h
 .have:=aD (show 0<=-x by grind) (show 0<=-x by grind);grind
theorem Ztm(h:∀x:Rat,0<=x->Zc p x=Zc q x)(i:Nat):cf p i=cf q i:=by rw [<-Zye p,<-Zye q];exact Mt (λx=>by rw [Zpr,Zpr];exact h _ (Yfs x)) _
theorem Zgg(f:Nat->Int)(x:Rat):∀n,Zc (mk n f) x=He (λj=>(f j:Rat)*x^j) n
 | 0=>rfl
 | n+1=>by rw [Yor,Ztl,Zgg f x n,Yz,Ot]
def NN(p:List Int):Prop:=∀i,0<=cf p i
theorem NN.smul{c:Int}(e:0<=c)(h:NN p):NN (p.map λa=>c*a):=λi=>by rw [Cn];exact aS e (h i)
theorem NN.add(e:NN p)(g:NN q):NN (Mc p q):=λi=>by rw [Me];exact Int.add_nonneg (e i) (g i)
theorem NN.lmul{q:List Int}(e:NN q):∀{p:List Int},NN p->NN (lmul p q)
 | [],_=>λi=>by show 0<=cf [] i;rw [show cf [] i=0 from rfl];exact eA _
 | c::p,h=>NN.add (NN.smul (h 0) e) λi=>by
  match i with
  | 0=>exact eA _
  | i+1=>exact NN.lmul e (p:=p) (λj=>h (j+1)) i
def lpw(l:List Int):Nat->List Int
 | 0=>[1]
 | k+1=>lmul l (lpw l k)
theorem Zpo(l:List Int)(x:Rat):∀k,Zc (lpw l k) x=Zc l x^k
 | 0=>by rw [dV];show((1:Int):Rat)+x*0=1;push_cast;grind
 | k+1=>by rw [show lpw l (k+1)=lmul l (lpw l k)from rfl,Yb,Zpo l x k,dE,lE]
theorem NN.lpw{l:List Int}(h:NN l):∀k,NN (lpw l k)
 | 0=>λi=>by
  show 0<=cf [1] i
  match i with
  | 0=>exact Int.one_nonneg
  | i+1=>exact eA _
 | k+1=>NN.lmul (NN.lpw h k) h
theorem NN.two(e:0<=a)(g:0<=b):NN [a,b]:=λi=>by
 match i with
 | 0=>exact e
 | 1=>exact g
 | i+2=>exact eA _
def sQ(f:Nat->Int)(W:Nat->List Int):Nat->List Int
 | 0=>[]
 | k+1=>Mc (sQ f W k) ((W k).map λa=>f k*a)
theorem Zw0(f:Nat->Int)(W:Nat->List Int)(x:Rat):∀k,Zc (sQ f W k) x=He (λi=>(f i:Rat)*Zc (W i) x) k
 | 0=>rfl
 | k+1=>by rw [show sQ f W (k+1)=Mc (sQ f W k) ((W k).map λa=>f k*a)from rfl,Xd,Zw0 f W x k,Zi,Ot]
theorem sQ_le{f g:Nat->Int}{W:Nat->List Int}{B:Int}(l:∀i,NN (W i)):∀k,(∀i,i<k->((f i).natAbs:Int)<=B*g i)->∀j,((cf (sQ f W k) j).natAbs:Int)<=B*cf (sQ g W k) j
 | 0,_,j=>by show((cf [] j).natAbs:Int)<=B*cf [] j;rw [show cf [] j=0 from rfl];simp
 | k+1,h,j=>by
  have w:=sQ_le l k (λi hi=>h i O1) j;have m:=h k O1;show((cf (Mc (sQ f W k) ((W k).map λa=>f k*a)) j).natAbs:Int)<=B*cf (Mc (sQ g W k) ((W k).map λa=>g k*a)) j;rw [Me,Me,Cn,Cn,kR,<-gE];have n:=l k j;have o:((f k*cf (W k) j).natAbs:Int)<=B*g k*cf (W k) j:=by rw [bR];push_cast;have e:((cf (W k) j).natAbs:Int)=cf (W k) j:=O1;rw [e];exact cC m n
  generalize B*g k*cf (W k) j=t at *;generalize f k*cf (W k) j=s at *;generalize B*cf (sQ g W k) j=r at *;omega
theorem Zlt(a b:Rat):∀n:Nat,(a*b)^n=a^n*b^n
 | 0=>by rw [dV,dV,dV];grind
 | n+1=>by rw [dE,dE,dE,Zlt a b n];grind
theorem Yci(a:Rat)(m:Nat):∀n:Nat,a^(m+n)=a^m*a^n
 | 0=>by rw [gN,dV];grind
 | n+1=>by rw [<-iX,dE,dE,Yci a m n];grind
theorem Ylo{U V S:Rat}(h:U+V=S)(m:S≠0){d:Nat}(l:c.length<=d+1):He (λj=>(Kb d c j:Rat)*(U^j*V^(d-j))) (d+1)=S^d*Zc c (U/S):=by
 rw [<-bern (u:=U/S) (w:=V/S) (by rw [<-h];grind) d c l,<-Ew];refine My _ λj n=>?_;have e:U^j=S^j*(U/S)^j:=by rw [<-Zlt];congr 1;grind
 have g:V^(d-j)=S^(d-j)*(V/S)^(d-j):=by rw [<-Zlt];congr 1;grind
 have k:S^d=S^j*S^(d-j):=by rw [<-Yci];congr 1;omega
 rw [e,g,k];grind
theorem Ycb{U V S:Rat}(h:U+V=S)(l:S≠0)(d:Nat):He (λj=>(Ob d j:Rat)*(U^j*V^(d-j))) (d+1)=S^d:=by
 have:=Yln (u:=U/S) (w:=V/S) (by rw [<-h];grind) d;rw [<-Rat.mul_one (S^d),<-this,<-Ew];refine My _ λj m=>?_;have e:U^j=S^j*(U/S)^j:=by rw [<-Zlt];congr 1;grind
 have g:V^(d-j)=S^(d-j)*(V/S)^(d-j):=by rw [<-Zlt];congr 1;grind
 have k:S^d=S^j*S^(d-j):=by rw [<-Yci];congr 1;omega
 rw [e,g,k];grind
theorem Zzs(a b:Int)(x:Rat):Zc [a,b] x=(a:Rat)+(b:Rat)*x:=by show(a:Rat)+x*((b:Rat)+x*0)=_;grind
theorem onepw(n:Nat):(1:Rat)^n=1:=by
 induction n with
 | zero=>rw [dV]
 | succ n e=>rw [dE,e];grind
theorem Zdt(d:Int)(n:Nat):((d^n:Int):Rat)=(d:Rat)^n:=by
 induction n with
 | zero=>rw [eT,dV];rfl
 | succ n e=>rw [eJ,dE,<-e];push_cast;rfl
def Wij(a e d:Int)(n i:Nat):List Int:=lmul (lpw [a,e] i) (lpw [d-a,d-e] (n-i))
def Wij_nn{e:Int}(g:0<=a)(h:0<=e)(j:a<=d)(k:e<=d)(n i:Nat):NN (Wij a e d n i):=NN.lmul (NN.lpw (NN.two O1 O1) _) (NN.lpw (NN.two g h) _)
theorem Zzv(a e d:Int)(n i:Nat)(x:Rat):Zc (Wij a e d n i) x=((a:Rat)+(e:Rat)*x)^i*(((d-a:Int):Rat)+((d-e:Int):Rat)*x)^(n-i):=by unfold Wij;rw [Yb,Zpo,Zpo,Zzs,Zzs]
theorem Yq1 {X:List Int} {n m:Nat} (hl:c.length<=n+1) (hX:X.length<=n+1) {B:Int} (ha:0<=a) (hb:0<=b) (N:a+b<=d) (R:0<d) (hr:∀t u:Rat,t*(d:Rat)=(a:Rat)+(b:Rat)*u->Zc X u=(d:Rat)^m*Zc c t)
  (hB:∀j,j<n+1->((Kb n c j).natAbs:Int)<=B*(Ob n j:Int)):∀j,j<n+1->((Kb n X j).natAbs:Int)<=B*d^m*(Ob n j:Int):=by
 have a0:(0:Rat)<(d:Rat):=by exact_mod_cast R
 have k:∀x:Rat,0<=x->(x+1)≠0:=λx e h=>O5;have o:∀x:Rat,((a:Rat)+((a+b:Int):Rat)*x)+(((d-a:Int):Rat)+((d-(a+b):Int):Rat)*x)=(d:Rat)*(x+1):=λx=>by push_cast;grind
 have l:∀x:Rat,0<=x->(d:Rat)*(x+1)≠0:=λx e h=>by have:=aT a0 (show(0:Rat)<x+1 by grind);grind
 have a1:∀x:Rat,0<=x->Zc (sQ (λi=>(Ob n i:Int)) (Wij a (a+b) d n) (n+1)) x=Zc (mk (n+1) λj=>d^n*(Ob n j:Int)) x:=λx e=>by
  rw [Zw0,Zgg];have F:=Ycb (o x) (l x e) n;have G:=Ycb (U:=x) (V:=1) (S:=x+1) rfl (k x e) n;have H:He (λi=>(((Ob n i:Nat):Int):Rat)*Zc (Wij a (a+b) d n i) x) (n+1)=((d:Rat)*(x+1))^n:=by rw [<-F];exact My _ λj w=>by rw [Zzv];push_cast;rfl
  rw [H,Zlt,<-G,<-Ew];refine My _ λj w=>?_;rw [onepw];push_cast;rw [<-Zdt];push_cast;grind
 have a2:∀x:Rat,0<=x->Zc (mk (n+1) λj=>d^n*Kb n X j) x=Zc ((sQ (Kb n c) (Wij a (a+b) d n) (n+1)).map λq=>d^m*q) x:=λx e=>by
  rw [Zi,Zw0,Zgg];have F:=Ylo (o x) (l x e) hl;have G:=Ylo (U:=x) (V:=1) (S:=x+1) rfl (k x e) hX;have H:He (λi=>((Kb n c i:Int):Rat)*Zc (Wij a (a+b) d n i) x) (n+1)=((d:Rat)*(x+1))^n*Zc c (((a:Rat)+((a+b:Int):Rat)*x)/((d:Rat)*(x+1))):=by rw [<-F];exact My _ λj w=>by rw [Zzv]
  have e4:He (λj=>((d^n*Kb n X j:Int):Rat)*x^j) (n+1)=(d:Rat)^n*He (λj=>(Kb n X j:Rat)*(x^j*1^(n-j))) (n+1):=by rw [<-Ew];refine My _ λj w=>?_;rw [onepw,<-Zdt];push_cast;grind
  rw [H,e4,G,hr (((a:Rat)+((a+b:Int):Rat)*x)/((d:Rat)*(x+1))) (x/(x+1)) ?_,Zlt,Zdt]
  .grind
  .have I:=k x e;have D:(d:Rat)≠0:=O5;push_cast;grind
 have P:=Ztm a1;have Q:=Ztm a2;intro j w;have I:=P j;have D:=Q j;rw [Ih,aO w]at I D;rw [Cn]at D;have h3:=sQ_le (f:=Kb n c) (g:=λi=>(Ob n i:Int)) (W:=Wij a (a+b) d n) (B:=B) (Wij_nn ha O1 O1 N n) (n+1) hB j;rw [I]at h3;have Z:0<d^n:=iH R;have Y:0<=d^m:=eC (iH R);have h4:((d^n*Kb n X j).natAbs:Int)=d^n*((Kb n X j).natAbs:Int):=by rw [bR];push_cast;rw [show((d^n).natAbs:Int)=d^n by omega]
 have h5:((d^m*cf (sQ (Kb n c) (Wij a (a+b) d n) (n+1)) j).natAbs:Int)=d^m*((cf (sQ (Kb n c) (Wij a (a+b) d n) (n+1)) j).natAbs:Int):=by rw [bR];push_cast;rw [show((d^m).natAbs:Int)=d^m by omega]
 have h6:=fK h3 Y;rw [<-h5,<-D,h4]at h6;refine kN (a:=d^n) ?_ Z;refine jK h6 (Int.le_of_eq ?_);generalize d^n=p;generalize d^m=q;generalize (Ob n j:Int)=r;grind
theorem Ydw{s:Bool}(j:x.natAbs<=9223372036854775807)(h:sg s x):(x=0/\dg U x.natAbs=[])\/(s=true/\x<0/\dg U x.natAbs=[x.natAbs])\/(s=false/\0<x/\dg U x.natAbs=[x.natAbs]):=by
 have g:x.natAbs≠0->dg U x.natAbs=[x.natAbs]:=λk=>by have e:x.natAbs<U:=aY j O4;rw [Zdm O4 O1,bE e,dZ e];rfl
 rcases gW x 0 with q|q|q
 .right;left;refine⟨?_,q,g O1⟩;cases s
  .have:=h.2 rfl;omega
  .rfl
 .subst q;exact .inl ⟨rfl,rfl⟩
 .right;right;refine⟨?_,q,g O1⟩;cases s
  .rfl
  .have:=h.1 rfl;omega
theorem int_wn(e:x.natAbs<=9223372036854775807)(h:x<0):IntKind.i64.wrap (18446744073709551616-(x.natAbs:Int))=x:=by simp only [IntKind.wrap,IntKind.bits,IntKind.signed];simp;omega
theorem int_wp(e:x.natAbs<=9223372036854775807)(h:0<x):IntKind.i64.wrap ((([x.natAbs]:List Nat).getD 0 0:Nat):Int)=x:=by show IntKind.i64.wrap (x.natAbs:Int)=x;rw [Ze8 ⟨O1,O1⟩];omega
theorem int_d0(e:x.natAbs<=9223372036854775807):¬((([x.natAbs]:List Nat).getD 0 0:Nat):Int)>=9223372036854775808:=by show ¬(x.natAbs:Int)>=_;omega
theorem Yip(e:x.natAbs<=9223372036854775807):¬((([x.natAbs]:List Nat).getD 0 0:Nat):Int)>9223372036854775808:=by show ¬(x.natAbs:Int)>_;omega
theorem int_m(h:x<0)(e:x.natAbs<=9223372036854775807):(-((([x.natAbs]:List Nat).getD 0 0:Nat):Int))%18446744073709551616=18446744073709551616-(x.natAbs:Int):=by show(-(x.natAbs:Int))%_=_;omega
abbrev Yjc (o:Nat) (m:Int) (g:Zd):List Int:=formP o m g.1.2.2 (g.1.2.1-g.1.1) g.2.1.2 g.2.2.1.2 g.2.2.2.2
def Yin(o:Nat)(ps:List Zd)(m:Int):Bool:=ps.all λg=>!Zcq (Yjc o m g)
def Ynd(p:Nat->Bool):Nat->Nat->Nat->Nat
 | 0,i,_=>i
 | f+1,i,j=>if i<j then(if p ((i+j)/2)then Ynd p f i ((i+j)/2)else Ynd p f ((i+j)/2+1) j)else i
def Ym4(o:Nat)(ps:List Zd):Nat:=Ynd (λn=>Yin o ps (n:Int)) 14 0 10001
def joG(g h:Zd):Bool:=joinB g.1.1 g.1.2.1 g.1.2.2 g.2.1.2 g.2.2.1.2 g.2.2.2.2 h.1.1 h.1.2.1 h.1.2.2 h.2.1.2 h.2.2.1.2 h.2.2.2.2
def joAll(ps:List Zd):Bool:=(List.range ps.length).all λi=>decide (i=0) || joG (ps.getD (i-1) G0) (ps.getD i G0)
def topV(ps:List Zd):Int×Int×Int:=
 if 10000<Ym4 1 ps\/10000<Ym4 2 ps then(0,0,3)else if joAll ps then((Ym4 1 ps:Int),(Ym4 2 ps:Int),0)else(0,0,10)
theorem Zz4{ps:List Zd}(l:∀g∈ps,Gin g)(k:Yg ps=true):∀g∈ps,SgG g:=λg j=>by obtain⟨i,hi,e⟩:=dI.1 j;have h:=Om ((Xb k).1 i hi);rw [aJ,aL hi,fA,e]at h;exact Oo (l g j) h
def g8(g:Zd):Bool:=decide (g.2.1.2.length<=8) && decide (g.2.2.1.2.length<=8) && decide (g.2.2.2.2.length<=8)
def fewB(ps:List Zd)(m:Nat):Bool:=(List.range ps.length).all (λi=>decide (m<i) || g8 (ps.getD i G0)) && decide (ps.length<=m)
def axc(c:List Int):Bool:=!(decide (1<=c.length) && decide (c.length<=6) && !(decide (1<c.length) && decide (c.getD (c.length-1) 0=0)))
variable {P:Program} {N:Nat} {sc:Nat->Prop} {env env':Qm} {H H':Hp}
def Ba(c:List Int)(g:Int):List Int:=if c.length=0 then [0]else c.map (· / g)
def mdO(ov g:Int):Int:=if ov/g<=4294967296 then ov/g else 0
def mdL(ov g:Int)(c:List Int):List Int:=if ov/g<=4294967296 then Ba c g else []
def Ek(ov:Int)(x y z:List Int):Int:=Lr ov (Iw 3 x y z)
structure Mdh (ov:Int) (x y z:List Int):Prop where
 o:0<ov
 b:bl ov.natAbs<=1000
 s:∀i,Sz 1000 (Ya i x y z)
 l:∀i,(Ya i x y z).length<=6
 c:∀i k,(cf (Ya i x y z) k).natAbs<=ov.natAbs*2146435072
def Zg7:∀(l:List Int) (g:Int),0<=g->0<=Lr g l
 | [],_,h=>h
 | x::l,g,h=>Zg7 l _ (kL _)
theorem Ya0:∀(l:List Int) (g:Int),Lr g l∣g/\∀x∈l,Lr g l∣x
 | [],g=>⟨kD _,λx h=>nomatch h⟩
 | x::l,g=>by
  obtain⟨j,k⟩:=Ya0 l _;exact⟨eW j (jO ..),λy e=>by
   rcases aW.1 e with rfl|e
   .exact eW j (gD ..)
   .exact k y e⟩
theorem Zxc{x:List Int}(hi:i<3)(h:a∈Ya i x y z):a∈Iw 3 x y z:=by
 match i,hi with
 | 0,_=>exact dB.2 (.inl (dB.2 (.inl h)))
 | 1,_=>exact dB.2 (.inl (dB.2 (.inr h)))
 | 2,_=>exact dB.2 (.inr h)
theorem Mdh.g{x:List Int}(h:Mdh ov x y z):0<Ek ov x y z/\Ek ov x y z∣ov/\∀i,i<3->∀a∈Ya i x y z,Ek ov x y z∣a:=by
 obtain⟨e,g⟩:=Ya0 _ ov;have j:=Zg7 (Iw 3 x y z) ov (eC h.o);have l:=h.o;refine⟨?_,e,λi hi a k=>g a (Zxc hi k)⟩;rcases Int.lt_or_eq_of_le j with q|q
 .exact q
 .exact absurd (Int.zero_dvd.1 (q▸e)) O1
theorem Mdh.fc{x:List Int}(h:Mdh ov x y z)(i k:Nat):bl (Lr (Lr ov (Iw i x y z)) ((Ya i x y z).take k)).natAbs<=1000:=by
 have g:∀i,∀a∈Ya i x y z,bl a.natAbs<=1000:=λi a e=>by obtain⟨j,r⟩:=eH.1 e;have:=h.s i j;unfold cf at this;grind
 have o:∀a∈Iw i x y z,bl a.natAbs<=1000:=λa e=>by unfold Iw at e;have l:=g 0;have m:=g 1;have n:=g 2;simp only [Ya]at l m n;grind
 exact Zhk (λa e=>g i a (fZ e)) (Zhk o h.b)
theorem Mdh.fit{x:List Int}(h:Mdh ov x y z)(hs:ov/Ek ov x y z<=4294967296)(hi:i<3)(k:Nat):((Ya i x y z).getD k 0/Ek ov x y z).natAbs<=9223372036854775807:=by
 obtain⟨m,⟨s,e⟩,n⟩:=h.g;have o:Ek ov x y z∣(Ya i x y z).getD k 0:=by
  rcases bA k _ with q|q
  .exact n i hi _ (Zg q)
  .rw [aJ,cW q];exact kC _
 obtain⟨t,l⟩:=o;have j:((Ya i x y z).getD k 0).natAbs<=ov.natAbs*2146435072:=h.c i k;generalize Ek ov x y z=g at *;rw [l,dJ _ O1];rw [e,dJ _ O1]at hs;rw [l,e,bR,bR,fB]at j;have w:=Nat.le_of_mul_le_mul_left j O1;have B:=h.o;have r:0<s:=by
  by_cases q:0<s
  .omega
  .have:=eY (eC m) (show s<=0 by omega);omega
 omega
def mdO_t{g:Int}(h:ov/g<=4294967296):mdO ov g=ov/g:=aO h
def Zod{g:Int}(h:ov/g<=4294967296):mdL ov g c=Ba c g:=aO h
def mdO_f{g:Int}(h:¬ov/g<=4294967296):mdO ov g=0:=aF h
def Yh6{g:Int}(h:¬ov/g<=4294967296):mdL ov g c=[]:=aF h
def dvL_0{g:Int}(h:c.length=0):Ba c g=[0]:=aO h
def dvL_n{g:Int}(h:c.length≠0):Ba c g=c.map (· / g):=aF h
theorem Yh8{g:Int}{k:Nat}(h:k<c.length):(c.take k).map (· / g) ++ [c.getD k 0/g]=(c.take (k+1)).map (· / g):=by rw [Pu 0 _ _ h,dW];rfl
abbrev C6 (a b c:Value) (f:Nat->Value):Array Value:=#[a,b,c,f 0,f 1,f 2]
def upd(f:Nat->Value)(i:Nat)(v:Value)(j:Nat):Value:=if j=i then v else f j
theorem c6_get{a b c:Value}(h:i<3):(C6 a b c f)[3+i]? = some (f i):=by
 match i,h with
 | 0,_=>rfl
 | 1,_=>rfl
 | 2,_=>rfl
theorem Yld{a b c:Value}(h:i<3):(C6 a b c (upd f i v))[3+i]? = some v:=by rw [c6_get h];unfold upd;simp
theorem c6_lay{a b c:Value}{u:Value}(h:i<3):Fi (C6 a b c (upd f i u)) (3+i) [v]=C6 a b c (upd f i v):=by
 match i,h with
 | 0,_=>rfl
 | 1,_=>rfl
 | 2,_=>rfl
theorem Zyg{a b c:Value}{g:Nat->Value}(h:∀j,j<3->f j=g j):C6 a b c f=C6 a b c g:=by grind
theorem p3_sel{b:Nat}(h:i<3):Ya i (Value.pointer (some ⟨b,3,none⟩)) (Value.pointer (some ⟨b,4,none⟩)) (Value.pointer (some ⟨b,5,none⟩))= .pointer (some ⟨b,3+i,none⟩):=by
 match i,h with
 | 0,_=>rfl
 | 1,_=>rfl
 | 2,_=>rfl
theorem c3_get{a b c:Value}(h:i<3):(#[a,b,c]:Array Value)[0+i*1]? = some (Ya i a b c):=by
 match i,h with
 | 0,_=>rfl
 | 1,_=>rfl
 | 2,_=>rfl
def fz(zs:List (SL×List Int))(j:Nat):Value:=Xa (zs.getD j ((none,0,0),[])).1
theorem fz_upd(h:zs.length=i)(j:Nat):fz zs j=upd (fz zs) i (.slice none 0 0) j:=by
 unfold upd;split
 .rename_i e;subst e;subst h;unfold fz;simp
 rfl
theorem Ya1(h:zs.length=i)(j:Nat):upd (fz zs) i (Xa s) j=fz (zs ++ [(s,c)]) j:=by unfold upd fz;grind
def Zua{t:Nat}{f:Nat->List Int}(g:zs.length=i)(h:∀t,t<i->(zs.getD t d0).2=f t)(e:c=f i)(j:t<i+1):((zs ++ [(s,c)]).getD t d0).2=f t:=e▸Zvx g h j
theorem mds_of{x:List Int}{g:Int}(l:zs.length=3)(h:∀t,t<3->(zs.getD t d0).2=Ba (Ya t x y z) g):∃m n o:SL,zs=[(m,Ba x g),(n,Ba y g),(o,Ba z g)]:=by
 match zs,l with
 | [r,w,B],_=>
  have e:=h 0 O1;have j:=h 1 O1;have k:=h 2 O1;simp [Ya]at e j k;grind
def Yf7 : 0<(a-b).sign↔¬a<=b:=O8
theorem t_st6 (i:Nat)(n:Nat)  {o:Oper} {x y:Operand} {t k:TypeId} {b:Nat} {g h j u:Value}   {w0:World}  (I:o.op= .store t x y) (D:o.dst=none)
  (R:ev env x=some (.pointer (some ⟨b,3+n,none⟩))) (S:ev env y=some v) (r:lk H i=some (box b k (C6 g h j (upd f n u)))) (e:i≠0) (F:∀w,(sizeOf t).run P w= .ok 1 w) (V:n<3) (m:One N sc env H v)
  (l:lk H 0=some (Zy w0 M0)) (Q:∀b,w0.heap.size<=b->sc b) (B:M b) :
  T P N sc M o env H (G:=Unit) (λ_=>True) (λ_=>env) (λ_=>(i,box b k (C6 g h j (upd f n v)))::H):=by
 have:=t_stp1 I D R S r e F (by simp<;>omega) m l Q B;grind [c6_lay]
theorem bl_dlq{n:Nat}(h:bl a.natAbs<=n)(j:0<b)(e:0<=a):bl (a/b).natAbs<=n:=(Qs n _).2 (aY (by have g:=kY b e;grind [Int.ediv_nonneg,Int.le_of_lt]) ((Qs n _).1 h))
theorem Yja{n:Nat}(h:∀z∈zs,∀b,(Xa z.1).ownBlock=some b->n<=b)(e:∀b,(Xa s).ownBlock=some b->n<=b):∀z∈zs ++ [(s,c)],∀b,(Xa z.1).ownBlock=some b->n<=b:=λz g=>by grind
theorem fr3{n:Nat}{g j k:SL}{l m o l3:List Int}(h:∀z∈[(g,l),(j,m),(k,o)],∀b,(Xa z.1).ownBlock=some b->n<=b):∀p∈[Yt 1 Xk (Xa g) l1,Yt 1 Xk (Xa j) l2,Yt 1 Xk (Xa k) l3],∀b,p.fp b->n<=b:=λp r b e=>by
 simp only [aW,dA,fR]at r;rcases r with rfl|rfl|rfl
 .exact h (g,l) O8 b e.2
 .exact h (j,m) O8 b e.2
 .exact h (k,o) O8 b e.2
theorem fr0{n:Nat}{l3:List Int} : ∀p∈[Yt 1 Xk (Xa (none,0,0)) l1,Yt 1 Xk (Xa (none,0,0)) l2,Yt 1 Xk (Xa (none,0,0)) l3],∀b,p.fp b->n<=b:=λp e b g=>by simp only [aW,dA,fR]at e;rcases e with rfl|rfl|rfl<;>cases g.2
end Go.Sky
namespace Go.Sky
variable{p:Zd->Bool}{i b k off:Nat}{d ov a G:Int}{c xs:List Int}{x y:Operand}{t tb:TypeId}{zs:List Zd}{r:List Value}{v:Value}{w0 w:World}{M0:Nat->Prop}{kd:IntKind}
abbrev Zck:=(Int×Int×Int)×List Int×List Int×List Int
def Ei(g:Zd):Zck:=(g.1,g.2.1.2,g.2.2.1.2,g.2.2.2.2)
abbrev cA (fr:Int) (g:Zd):Int:=max fr g.1.1
abbrev cB (to:Int) (g:Zd):Int:=min to g.1.2.1
abbrev cX (fr to:Int) (g:Zd) (c:List Int):List Int:=Nt c (cA fr g-g.1.1) (cB to g-cA fr g) (g.1.2.1-g.1.1)
abbrev cO (g:Zd):Int:=g.1.2.2*(g.1.2.1-g.1.1)^5
def cG(fr to:Int)(g:Zd):Int:=Ek (cO g) (cX fr to g g.2.1.2) (cX fr to g g.2.2.1.2) (cX fr to g g.2.2.2.2)
def Nz(fr to:Int)(g:Zd):Bool:=decide (cA fr g<cB to g)
def Zfx(fr to:Int)(g:Zd):Bool:=decide (cO g/cG fr to g<=4294967296)
def Zeo(fr to:Int)(g:Zd):Zck:=((cA fr g,cB to g,mdO (cO g) (cG fr to g)),mdL (cO g) (cG fr to g) (cX fr to g g.2.1.2),mdL (cO g) (cG fr to g) (cX fr to g g.2.2.1.2),mdL (cO g) (cG fr to g) (cX fr to g g.2.2.2.2))
def MdG(fr to:Int)(g:Zd):Prop:=Mdh (cO g) (cX fr to g g.2.1.2) (cX fr to g g.2.2.1.2) (cX fr to g g.2.2.2.2)
theorem Yjf{ps:List Zd}{d:Zd}(hi:i<ps.length)(f:p (ps.getD i d)=true):(ps.filter p)[((ps.take i).filter p).length]? = some (ps.getD i d):=by
 have h:=fT i ps;have e:ps.drop i=ps.getD i d::ps.drop (i+1):=by rw [aJ,aL hi,fA];exact eU hi
 conv=>lhs;arg 1;rw [<-h,e]
 rw [fS,eO f];simp
theorem fl_t{ps:List Zd}{d:Zd}(hi:i<ps.length)(e:p (ps.getD i d)=true):((ps.take (i+1)).filter p).length=((ps.take i).filter p).length+1:=by rw [Pu d _ _ hi,fS,eO e,cM];rfl
theorem fl_f{ps:List Zd}{d:Zd}(hi:i<ps.length)(e:p (ps.getD i d)=false):((ps.take (i+1)).filter p).length=((ps.take i).filter p).length:=by rw [Pu d _ _ hi,fS,gL (by rw [e];exact bG),cM];rfl
def Zn4(h:1<=d/\d<=3600000):bl (d^5).natAbs<=132:=Zoy (Zm3 O1) 5 (aI _)
theorem Ykr{W:Nat}{H:Hp}{l m n:SL}{g j l3:List Int}(h:∀p∈[Yt 1 Xk (Xa l) g,Yt 1 Xk (Xa m) j,Yt 1 Xk (Xa n) l3],∀b,p.fp b->W<=b)(i:Nat)(q:lk H i=some (Yt 1 Xk (Xa l) g))(s:lk H (i+1)=some (Yt 1 Xk (Xa m) j))(u:lk H (i+2)=some (Yt 1 Xk (Xa n) l3)) :
  ∀p∈[Yt 1 Xk (Xa l) g,Yt 1 Xk (Xa m) j,Yt 1 Xk (Xa n) l3],p.own=false/\(∀b,p.fp b->W<=b)/\∃i o,lk H i=some o/\∀w,o.holds w->p.holds w:=λp f=>by
 have e:=h p f;simp only [aW,dA,fR]at f;rcases f with rfl|rfl|rfl
 .exact⟨rfl,e,_,_,q,λ_ h=>h⟩
 .exact⟨rfl,e,_,_,s,λ_ h=>h⟩
 .exact⟨rfl,e,_,_,u,λ_ h=>h⟩
theorem cut_b{fr to:Int}{g:Zd}(e:SgG g)(h:Nz fr to g=true):(cA fr g-g.1.1).natAbs<=3600000/\(cB to g-cA fr g).natAbs<=3600000/\La (cA fr g-g.1.1)/\La (cB to g-cA fr g):=by have m:=bL h;have f:=e.t1;have j:=e.t2;have l:=e.t3;unfold cA cB at *;exact⟨O1,O1,⟨O1,O1⟩,⟨O1,O1⟩⟩
def Yms:∀n,n<6->∀j,j<n+1->∀k,k<j+1->(Ob n j:Int)*w60 n j k=60*(Ob (n-k) (j-k):Int):=O4
theorem Zfb(f:Nat->Int)(a:Int):∀m,Ye (λk=>a*f k) m=a*Ye f m
 | 0=>by show(0)=a*0;simp
 | m+1=>by rw [Yi,Yi,Zfb f a m,kR]
theorem Yqb(g:1<=c.length/\c.length<=6){j:Nat}(e:j<c.length):(Ob (c.length-1) j:Int)*ctl c j (j+1)=60*Kb (c.length-1) c j:=by unfold ctl Kb;rw [<-Zfb,<-Zfb];refine Xl λk f=>?_;have:=Yms (c.length-1) O1 j O1 k O1;show(Ob _ j)*(cf c k*w60 _ j k)=60*(cf c k*_);grind
theorem Yk6{n j:Nat}(h:j<n+1):(0:Int)<(Ob n j:Int):=by grind [Zrv]
theorem Yb7(s:1<=c.length/\c.length<=6) : Zik c ov=true↔∀j,j<c.length->((Kb (c.length-1) c j).natAbs:Int)<=1048576*ov*(Ob (c.length-1) j:Int):=by
 have u:∀j,j<c.length->((((ctl c j _).natAbs)<=62914560*ov)↔((Kb _ c j).natAbs)<=1048576*ov*(Ob _ j)):=λj g=>by
  have l:=Yqb s g;have f:=Yk6 (n:=c.length-1) (j:=j) O1;have m:=aH Int.natAbs l;rw [bR,bR]at m;generalize (ctl c j _).natAbs=x at *;generalize (Kb _ c j).natAbs=y at *;generalize Ob _ j=q at *;have o:(q:Int)*(x)=60*(y):=O5;constructor
  .intro h;have e:=fK h (eC f);grind
  .intro h;have e:60*(y)<=(q)*(62914560*ov):=by grind
   rw [<-o]at e;exact kN e f
 constructor
 .intro h j g;unfold Zik at h;grind
 grind [Zr5]
def Xs{x b:Int} : ((x.natAbs:Int)<=b)↔(-b<=x/\x<=b):=O1
def bre00(c:List Int):Kb 0 c 0=cf c 0*1:=O14
def bre10(c:List Int):Kb 1 c 0=cf c 0*1:=O14
def bre11(c:List Int):Kb 1 c 1=cf c 0*1+cf c 1*1:=O14
def bre20(c:List Int):Kb 2 c 0=cf c 0*1:=O14
def bre21(c:List Int):Kb 2 c 1=cf c 0*2+cf c 1*1:=O14
def bre22(c:List Int):Kb 2 c 2=cf c 0*1+cf c 1*1+cf c 2*1:=O14
def bre30(c:List Int):Kb 3 c 0=cf c 0*1:=O14
def bre31(c:List Int):Kb 3 c 1=cf c 0*3+cf c 1*1:=O14
def bre32(c:List Int):Kb 3 c 2=cf c 0*3+cf c 1*2+cf c 2*1:=O14
def bre33(c:List Int):Kb 3 c 3=cf c 0*1+cf c 1*1+cf c 2*1+cf c 3*1:=O14
def bre40(c:List Int):Kb 4 c 0=cf c 0*1:=O14
def bre41(c:List Int):Kb 4 c 1=cf c 0*4+cf c 1*1:=O14
def bre42(c:List Int):Kb 4 c 2=cf c 0*6+cf c 1*3+cf c 2*1:=O14
def bre43(c:List Int):Kb 4 c 3=cf c 0*4+cf c 1*3+cf c 2*2+cf c 3*1:=O14
def bre44(c:List Int):Kb 4 c 4=cf c 0*1+cf c 1*1+cf c 2*1+cf c 3*1+cf c 4*1:=O14
def bre50(c:List Int):Kb 5 c 0=cf c 0*1:=O14
def bre51(c:List Int):Kb 5 c 1=cf c 0*5+cf c 1*1:=O14
def bre52(c:List Int):Kb 5 c 2=cf c 0*10+cf c 1*4+cf c 2*1:=O14
def bre53(c:List Int):Kb 5 c 3=cf c 0*10+cf c 1*6+cf c 2*3+cf c 3*1:=O14
def bre54(c:List Int):Kb 5 c 4=cf c 0*5+cf c 1*4+cf c 2*3+cf c 3*2+cf c 4*1:=O14
def bre55(c:List Int):Kb 5 c 5=cf c 0*1+cf c 1*1+cf c 2*1+cf c 3*1+cf c 4*1+cf c 5*1:=O14
theorem cf_brS{n:Nat}(q:n<6)(z:c.length<=n+1){M:Int}(h:∀j,j<n+1->((Kb n c j).natAbs:Int)<=M*(Ob n j:Int))(k:Nat):((cf c k).natAbs:Int)<=2047*M:=by
 have s:0<=M:=by have e:=h 0 O8;grind [Zi7]
 by_cases u:k<n+1
 .rw [Xs]
  match n,q with
  | 0,_=>
   have e:=Xs.1 (h 0 O1);rw [bre00,show(Ob 0 0:Int)=1 from rfl]at e;grind
  | 1,_=>
   have e:=Xs.1 (h 0 O1);rw [bre10,show(Ob 1 0:Int)=1 from rfl]at e;have f:=Xs.1 (h 1 O1);rw [bre11,show(Ob 1 1:Int)=1 from rfl]at f;grind
  | 2,_=>
   have e:=Xs.1 (h 0 O1);rw [bre20,show(Ob 2 0:Int)=1 from rfl]at e;have f:=Xs.1 (h 1 O1);rw [bre21,show(Ob 2 1:Int)=2 from rfl]at f;have g:=Xs.1 (h 2 O1);rw [bre22,show(Ob 2 2:Int)=1 from rfl]at g;grind
  | 3,_=>
   have e:=Xs.1 (h 0 O1);rw [bre30,show(Ob 3 0:Int)=1 from rfl]at e;have f:=Xs.1 (h 1 O1);rw [bre31,show(Ob 3 1:Int)=3 from rfl]at f;have g:=Xs.1 (h 2 O1);rw [bre32,show(Ob 3 2:Int)=3 from rfl]at g;have l:=Xs.1 (h 3 O1);rw [bre33,show(Ob 3 3:Int)=1 from rfl]at l;grind
  | 4,_=>
   have e:=Xs.1 (h 0 O1);rw [bre40,show(Ob 4 0:Int)=1 from rfl]at e;have f:=Xs.1 (h 1 O1);rw [bre41,show(Ob 4 1:Int)=4 from rfl]at f;have g:=Xs.1 (h 2 O1);rw [bre42,show(Ob 4 2:Int)=6 from rfl]at g;have l:=Xs.1 (h 3 O1);rw [bre43,show(Ob 4 3:Int)=4 from rfl]at l;have m:=Xs.1 (h 4 O1);rw [bre44,show(Ob 4 4:Int)=1 from rfl]at m;grind
  | 5,_=>
   have e:=Xs.1 (h 0 O1);rw [bre50,show(Ob 5 0:Int)=1 from rfl]at e;have f:=Xs.1 (h 1 O1);rw [bre51,show(Ob 5 1:Int)=5 from rfl]at f;have g:=Xs.1 (h 2 O1);rw [bre52,show(Ob 5 2:Int)=10 from rfl]at g;have l:=Xs.1 (h 3 O1);rw [bre53,show(Ob 5 3:Int)=10 from rfl]at l;have m:=Xs.1 (h 4 O1);rw [bre54,show(Ob 5 4:Int)=5 from rfl]at m;have o:=Xs.1 (h 5 O1);rw [bre55,show(Ob 5 5:Int)=1 from rfl]at o;grind
 grind [Yx]
structure AxC (c:List Int) (ov:Int):Prop where
 l:1<=c.length/\c.length<=6
 t:¬(1<c.length/\c.getD (c.length-1) 0=0)
 b:∀j,j<c.length->((Kb (c.length-1) c j).natAbs:Int)<=1048576*ov*(Ob (c.length-1) j:Int)
theorem AxC.of(h:axB c ov=true):AxC c ov:=by unfold axB at h;simp only [aP,fL,jL,bO,gK]at h;have e:1<=c.length/\c.length<=6:=⟨h.1.1.1,h.1.1.2⟩;exact⟨e,λf=>O1,(Yb7 e).1 h.2⟩
def AxC.to(h:AxC c ov):axB c ov=true:=Ylw h.l.1 h.l.2 h.t ((Yb7 h.l).2 h.b)
def tzl_nz(e:c.getD (c.length-1) 0≠0):tzl c=c:=Za2 (.inr e)
theorem ax_tzl(h:AxC c ov):(tzl c=c)\/c=[0]:=by
 by_cases e:c.getD (c.length-1) 0=0
 .have j:c.length=1:=by
   have l:=h.l;have f:=h.t;by_cases g:1<c.length
   .exact absurd ⟨g,e⟩ f
   .omega
  right
  match c,j with
  | [x],_=>simp at e;rw [e]
 .exact .inl (tzl_nz e)
theorem Zgh(h:AxC c ov){b:Int}{t u:Rat}(f:t*(d:Rat)=(a:Rat)+(b:Rat)*u):Zc (Nt c a b d) u=(d:Rat)^5*Zc c t:=by
 unfold Nt;rw [Zb3];rcases ax_tzl h with e|e
 .have g:=h.l;rw [e,Zk9 a b d f O1,Zdt];have:(d:Rat)^5=(d:Rat)^(6-c.length)*(d:Rat)^(c.length-1):=by rw [<-Yci];congr 1;omega
  rw [this];grind
 .subst e;rw [show tzl [0]=[]from by decide,show Ky [] a b d=[]from rfl];show _*(0:Rat)=_*(((0:Int):Rat)+t*0);push_cast;grind
def Zg4 (c:List Int)(a b d:Int):(Nt c a b d).length<=c.length:=aB Kg (aB (Zfm _ _ _ _) (Ge c))
theorem Yb6(h:AxC c ov){b:Int}(f:0<=a)(g:0<=b)(e:a+b<=d)(l:0<d):∀j,j<c.length->((Kb (c.length-1) (Nt c a b d) j).natAbs:Int)<=1048576*(ov*d^5)*(Ob (c.length-1) j:Int):=λj o=>by have z:=h.l;have s:=Zg4 c a b d;have:=Yq1 (c:=c) (X:=Nt c a b d) (n:=c.length-1) (m:=5) (B:=1048576*ov) O1 O1 f g e l (λt u q=>Zgh h q) (λj o=>h.b j O1) j O1;rw [gE]at this;rw [gE];rw [gE,<-gE ov]at this;exact this
theorem cf_cmp(h:AxC c ov){b:Int}(f:0<=a)(g:0<=b)(e:a+b<=d)(l:0<d)(k:Nat):((cf (Nt c a b d) k).natAbs:Int)<=ov*d^5*2146435072:=by have q:=h.l;have m:=Zg4 c a b d;have:=cf_brS (n:=c.length-1) O1 (c:=Nt c a b d) O1 (M:=1048576*(ov*d^5)) (λj o=>Yb6 h f g e l j O1) k;omega
theorem Zpk{g:Zd}(h:seB g=true):AxC g.2.1.2 g.1.2.2/\AxC g.2.2.1.2 g.1.2.2/\AxC g.2.2.2.2 g.1.2.2:=by have e:Za4 g.1.1 g.1.2.1 g.1.2.2 g.2.1.2 g.2.2.1.2 g.2.2.2.2=true:=h;unfold Za4 at e;simp only [aP]at e;exact⟨.of e.1.1.1.2,.of e.1.1.2,.of e.1.2⟩
theorem Ykq{fr to:Int}{g:Zd}(e:SgG g)(h:Nz fr to g=true):0<=cA fr g-g.1.1/\0<cB to g-cA fr g/\(cA fr g-g.1.1)+(cB to g-cA fr g)<=g.1.2.1-g.1.1/\0<g.1.2.1-g.1.1:=by have l:=bL h;have f:=e.t1;have j:=e.t2;unfold cA cB at *;exact⟨O1,O1,O1,O1⟩
theorem Yh7{fr to:Int}{g:Zd}(hi:Gin g)(hs:seB g=true)(h:Nz fr to g=true):MdG fr to g:=by
 have f:SgG g:=Oo hi hs;obtain⟨D,F,H⟩:=Zpk hs;obtain⟨I,M,N,P⟩:=Ykq f h;obtain⟨q,s,-,-⟩:=cut_b f h;have W:=f.t3;have V:=f.t1;have R:=f.o1;have S:=f.o2;have j:1<=g.1.2.1-g.1.1/\g.1.2.1-g.1.1<=3600000:=⟨O1,O1⟩;have u:=Zru f.hx f.lx q s j;have z:=Zru f.hy f.ly q s j;have B:=Zru f.hz f.lz q s j;have o:0<cO g:=dU O1 (iH O1);have n:((cO g).natAbs:Int)=cO g:=O1;have m:∀{c:List Int},AxC c g.1.2.2->∀k,(cf (cX fr to g c) k).natAbs<=(cO g).natAbs*2146435072:=λQ k=>by
  have:=cf_cmp Q I (eC M) N P k;have e:(((cO g).natAbs*2146435072:Nat):Int)=cO g*2146435072:=by rw [gQ,n];rfl
  refine Int.ofNat_le.1 ?_;rw [e];exact this
 refine⟨o,?_,λi=>?_,λi=>?_,λi k=>?_⟩
 .have Y:bl g.1.2.2.natAbs<=40:=(Qs 40 _).2 O1;have Z:=Zn4 j;have:=Xz g.1.2.2 ((g.1.2.1-g.1.1)^5);show bl (g.1.2.2*(g.1.2.1-g.1.1)^5).natAbs<=1000;omega
 .exact Eu (p:=λl:List Int=>Sz 1000 l) u.2.2.2.2.2.2.1 z.2.2.2.2.2.2.1 B.2.2.2.2.2.2.1
 .exact Eu (p:=λl:List Int=>l.length<=6) u.2.2.2.2.2.2.2 z.2.2.2.2.2.2.2 B.2.2.2.2.2.2.2
 .exact Eu (p:=λl:List Int=>(cf l k).natAbs<=(cO g).natAbs*2146435072) (m D k) (m F k) (m H k)
theorem Yjm{m n o q s u e f g h j l:Value}:Instr.fill (λi=>some (i*6,6)) ((List.range (1*6)).map ((Value.agg #[m,n,o,q,s,u]).cells[· % (Value.agg #[m,n,o,q,s,u]).cells.size]!)).toArray [(0,.agg #[e,f,g,h,j,l])]=some #[e,f,g,h,j,l]:=by
 simp [Instr.fill,Value.cells,List.range,List.range.loop]
 try rfl
def Qu(fr to:Int)(ps:List Zd):Bool:=(ps.filter (Nz fr to)).all (Zfx fr to)
def Gy(fr to:Int)(ps:List Zd):List Zck:=if Qu fr to ps=true then(ps.filter (Nz fr to)).map (Zeo fr to)else []
def Zci(fr to:Int)(ps:List Zd):Int:=if Qu fr to ps=true then 0 else 7
def Zww(fr to:Int)(x:Zd)(g:SL×SL×SL):Zd:=((cA fr x,cB to x,mdO (cO x) (cG fr to x)),(g.1,mdL (cO x) (cG fr to x) (cX fr to x x.2.1.2)),(g.2.1,mdL (cO x) (cG fr to x) (cX fr to x x.2.2.1.2)),(g.2.2,mdL (cO x) (cG fr to x) (cX fr to x x.2.2.2.2)))
def Yee(fr to:Int)(ps:List Zd)(k:Nat)(zs:List Zd):Prop:=zs.map Ei=((ps.filter (Nz fr to)).take k).map (Zeo fr to)/\((ps.filter (Nz fr to)).take k).all (Zfx fr to)=true
theorem Zpa{α:Type}{xs:List α}{x:α}(h:xs[k]? = some x):xs.take (k+1)=xs.take k ++ [x]:=by rw [gX,h];rfl
theorem cutI_0(fr to:Int)(ps:List Zd):Yee fr to ps 0 []:=⟨by rw [gG];rfl,by rw [gG];rfl⟩
theorem cutI_s{fr to:Int}{ps:List Zd}{x:Zd}{g:SL×SL×SL}(h:Yee fr to ps k zs)(e:(ps.filter (Nz fr to))[k]? = some x)(l:Zfx fr to x=true):Yee fr to ps (k+1) (zs ++ [Zww fr to x g]):=by
 obtain⟨f,j⟩:=h;refine⟨?_,?_⟩
 .rw [Zpa e,dW,dW,f];rfl
 .rw [Zpa e,List.all_append,j];simp [l]
theorem cutI_l{fr to:Int}{ps:List Zd}(h:Yee fr to ps k zs)(e:k<=ps.length):zs.length<=ps.length:=by have:=aH List.length h.1;rw [bM,bM,dX]at this;have:=gT (Nz fr to) ps;omega
theorem cut_no{fr to:Int}{ps:List Zd}{x:Zd}(f:(ps.filter (Nz fr to))[k]? = some x)(e:Zfx fr to x=false):Qu fr to ps=false:=by
 unfold Qu;cases hb:(ps.filter (Nz fr to)).all (Zfx fr to)with
 | false=>rfl
 | true=>
  have:=bC.1 hb x (dD f);rw [e]at this;cases this
theorem cutI_e{fr to:Int}{ps:List Zd}(h:Yee fr to ps (ps.filter (Nz fr to)).length zs):zs.map Ei=Gy fr to ps/\Zci fr to ps=0:=by obtain⟨f,e⟩:=h;rw [cK]at f e;exact⟨by unfold Gy Qu;rw [aO e];exact f,by unfold Zci Qu;rw [aO e]⟩
theorem cut_f{fr to:Int}{ps:List Zd}(h:Qu fr to ps=false):([]:List Zd).map Ei=Gy fr to ps/\Zci fr to ps=7:=by unfold Gy Zci;rw [aF (by rw [h];exact bG),aF (by rw [h];exact bG)];exact⟨rfl,rfl⟩
def Ac(ps:List Zd):Int:=(ps.getD 0 G0).1.1
def Bi(ps:List Zd):Int:=(ps.getD (ps.length-1) G0).1.2.1
theorem Yoz(h:AxC c ov)(n:c.getD (c.length-1) 0≠0){b:Int}(s:0<b)(B:0<d):(Nt c a b d).length=c.length:=by
 have H:=h.l;have F:=Zg4 c a b d;rcases bA (Nt c a b d).length c.length with q|q
 .exfalso;have z:(b:Rat)≠0:=by
    have:(0:Rat)<(b:Rat):=by exact_mod_cast s
    grind
  have D:(d:Rat)≠0:=by
    have:(0:Rat)<(d:Rat):=by exact_mod_cast B
    grind
  have m:∀t:Rat,t*(d:Rat)=(a:Rat)+(b:Rat)*((t*d-a)/b):=λt=>O5;by_cases j:(Nt c a b d).length=0
  .have o:=aK j;have:∀t:Rat,Zc c t=0:=λt=>by
    have e:=Zgh h (m t);rw [o]at e;have f:(d:Rat)^5*Zc c t=0:=e.symm;have l:(d:Rat)^5≠0:=by rw [show(d:Rat)^5=d*d*d*d*d by rw [dE,dE,dE,dE,dE,dV];grind];grind
    grind
   exact n (Zps this _)
  .have g:∀t:Rat,Zc ((Ky (Nt c a b d) (-a) d b).map λq=>1*q) t=Zc (c.map λq=>b^((Nt c a b d).length-1)*d^5*q) t:=λt=>by rw [Zi,Zi];have e:=Zgh h (m t);have f:=Zk9 (p:=Nt c a b d) (-a) d b (t:=(t*d-a)/b) (u:=t) (by push_cast;grind) j;rw [f,e];push_cast;rw [<-Zdt,<-Zdt];push_cast;grind
   have e:=Mt g (c.length-1);rw [Cn,Cn,Yx (by have:=Zfm (Nt c a b d) (-a) d b;omega)]at e;have f:b^((Nt c a b d).length-1)*d^5≠0:=bF (Int.pow_ne_zero O1) (Int.pow_ne_zero O1);have l:b^((Nt c a b d).length-1)*d^5*cf c (c.length-1)=0:=O1;rcases jW.1 l with q|q
   .exact f q
   .exact n q
 .omega
theorem Zyd{X:List Int}(f:0<G)(e:∀x∈X,G∣x)(i:Nat):cf (Ba X G) i*G=cf X i:=by
 unfold Ba;split
 .rename_i h;rw [aK h]
  match i with
  | 0=>show(0:Int)*G=cf [] 0;rw [cQ];rfl
  | i+1=>show(0:Int)*G=cf [] (i+1);rw [cQ];rfl
 .rw [Zfy _ _ O8];by_cases hi:i<X.length
  .have:cf X i∈X:=Zg hi;exact iW (e _ this)
  .rw [Yx O1];simp
theorem Ynx{X:List Int}(e:0<G)(f:∀x∈X,G∣x)(u:Rat):Zc (Ba X G) u*(G:Rat)=Zc X u:=by rw [lE,<-Zi];exact Ol u _ _ λi=>by rw [Cn,jI,Zyd e f]
theorem Zir(f g:Nat->Int)(a:Int)(h:∀k,f k*a=g k):∀m,Ye f m*a=Ye g m
 | 0=>cQ _
 | m+1=>by rw [Yi,Yi,mD,Zir f g a h m,h]
theorem Yq0{X:List Int}(e:0<G)(f:∀x∈X,G∣x)(n j:Nat):Kb n (Ba X G) j*G=Kb n X j:=by unfold Kb;exact Zir _ _ _ (λk=>by rw [kM,Zyd e f]) _
theorem Yoy(X:List Int)(G:Int):(Ba X G).length=max X.length 1:=by
 unfold Ba;split
 .rename_i h;rw [h];rfl
 .rw [bM];omega
theorem Zyq(h:AxC c ov){b o:Int}(N:0<=a)(B:0<b)(q:a+b<=d)(D:0<d)(n:0<G)(H:∀x∈Nt c a b d,G∣x)(Q:o*G=ov*d^5):AxC (Ba (Nt c a b d) G) o/\(Ba (Nt c a b d) G).length=c.length:=by
 have S:=h.l;have f:(Ba (Nt c a b d) G).length=c.length/\(1<c.length->(Nt c a b d).length=c.length):=by
  rw [Yoy];by_cases I:c.getD (c.length-1) 0=0
  .have:=h.t;have P:=Zg4 c a b d;have g:c.length=1:=by
    by_cases l:1<c.length
    .exact absurd ⟨l,I⟩ this
    .omega
   exact⟨O1,λl=>O1⟩
  .have:=Yoz h I (a:=a) B D;exact⟨O1,λ_=>this⟩
 refine⟨⟨O1,λ⟨g,s⟩=>?_,λj F=>?_⟩,f.1⟩
 .rw [f.1]at g s;have l:cf (Ba (Nt c a b d) G) (c.length-1)=0:=s;have u:=Zyd n H (c.length-1);rw [l,cQ]at u;have m:=f.2 g;have R:Tr (Nt c a b d):=Nu _ _;have z:=R.mem (λe=>by rw [e]at m;simp at m;omega);rw [m]at z;exact z u.symm
 .rw [f.1]at F ⊢;have g:=Yb6 h N (eC B) q D j F;rw [<-Yq0 n H,<-Q,bR]at g;have M:((G.natAbs:Nat):Int)=G:=O1;push_cast at g;rw [M]at g;refine dL (a:=G) ?_ n;refine jK g (Int.le_of_eq ?_);grind
theorem Zuv{G:Int}(e:0<G):∀(l:List Int) (o:Int),Lr (G*o) (l.map (G*·))=G*Lr o l
 | [],o=>rfl
 | x::l,o=>by show Lr ((Int.gcd _ _)) _=G*Lr _ l;rw [Int.gcd_mul_left];push_cast;rw [show((G.natAbs))=G by omega];exact Zuv e l _
theorem Zmb{X:List Int}{o:Int}(e:0<G)(f:∀x∈X,G∣x)(g:0<=o):Lr o ((Ba X G).map (G*·))=Lr o X:=by
 unfold Ba;split
 .rename_i h;rw [aK h];show((Int.gcd o (G*0)))=o;rw [eI,Int.gcd_zero_right];omega
 .conv=>rhs;rw [<-mB X]
  grind [List.map_congr_left,Int.mul_ediv_cancel']
theorem Ypi{X Y Z:List Int}{o f:Int}(g:0<o)(e:0<Ek o X Y Z)(m:∀x∈X,Ek o X Y Z∣x)(n:∀x∈Y,Ek o X Y Z∣x)(q:∀x∈Z,Ek o X Y Z∣x)(h:Ek o X Y Z*f=o) :
  Lr f (Ba X (Ek o X Y Z) ++ Ba Y (Ek o X Y Z) ++ Ba Z (Ek o X Y Z))=1:=by
 have j:=Zuv e (Ba X (Ek o X Y Z) ++ Ba Y (Ek o X Y Z) ++ Ba Z (Ek o X Y Z)) f;rw [h,dW,dW,Cz,Cz,Zmb e m (eC g),Zmb e n (Zg7 _ _ (eC g)),Zmb e q (Zg7 _ _ (Zg7 _ _ (eC g)))]at j;have s:Ek o X Y Z=Lr (Lr (Lr o X) Y) Z:=by show Lr o (X ++ Y ++ Z)=_;grind [Cz]
 generalize Lr f _=r at *;have l:Ek o X Y Z*r=Ek o X Y Z*1:=O1;exact iU O1 l
structure Prt (q g:Zd) (G:Int):Prop where
 g0:0<G
 a0:0<=q.1.1-g.1.1
 b0:0<q.1.2.1-q.1.1
 ab:(q.1.1-g.1.1)+(q.1.2.1-q.1.1)<=g.1.2.1-g.1.1
 o:q.1.2.2*G=g.1.2.2*(g.1.2.1-g.1.1)^5
 x:∀i (t u:Rat),t*((g.1.2.1-g.1.1:Int):Rat)=((q.1.1-g.1.1:Int):Rat)+((q.1.2.1-q.1.1:Int):Rat)*u->Zc (Ya i q.2.1.2 q.2.2.1.2 q.2.2.2.2) u*(G:Rat)=((g.1.2.1-g.1.1:Int):Rat)^5*Zc (Ya i g.2.1.2 g.2.2.1.2 g.2.2.2.2) t
theorem Zxn{X:List Int}(h:∀k,(X.getD k 0/G).natAbs<=9223372036854775807):∀a∈Ba X G,La a:=λa e=>by
 unfold Ba at e;split at e
 .rw [cE.1 e];exact⟨O1,O1⟩
 .obtain⟨x,g,rfl⟩:=dP.1 e;obtain⟨k,f⟩:=eH.1 g;have:=h k;rw [aJ,f]at this;simp only [fA]at this;exact⟨O1,O1⟩
theorem Zpw{b:Int}{t u:Rat}(f:AxC c ov)(e:0<G)(g:∀x∈Nt c a b d,G∣x)(h:t*(d:Rat)=(a:Rat)+(b:Rat)*u):Zc (Ba (Nt c a b d) G) u*(G:Rat)=(d:Rat)^5*Zc c t:=by grind [Ynx,Zgh]
theorem Zj2{fr to:Int}{g q:Zd}(hi:Gin g)(hs:seB g=true)(hp:Nz fr to g=true)(hk:Zfx fr to g=true)(hu:Ei q=Zeo fr to g):Gin q/\seB q=true/\Prt q g (cG fr to g):=by
 have R:SgG g:=Oo hi hs;obtain⟨a1,a2,a3⟩:=Zpk hs;obtain⟨F,H,M,N⟩:=Ykq R hp;have Q:=Yh7 hi hs hp;obtain⟨g1,⟨n,a0⟩,P⟩:=Q.g;have l:0<cG fr to g:=g1;have s:∀x∈cX fr to g g.2.1.2,cG fr to g∣x:=P 0 O1;have z:∀x∈cX fr to g g.2.2.1.2,cG fr to g∣x:=P 1 O1;have B:∀x∈cX fr to g g.2.2.2.2,cG fr to g∣x:=P 2 O1;have a5:cG fr to g*n=cO g:=a0.symm;have o:cO g/cG fr to g=n:=by grind [Int.mul_ediv_cancel_left]
 have e:cO g/cG fr to g<=4294967296:=bL hk;have a4:0<cO g:=Q.o;have a9:0<n:=by
  by_cases h:0<n
  .omega
  .have:=eY (eC l) (show n<=0 by omega);omega
 have m:n*cG fr to g=g.1.2.2*(g.1.2.1-g.1.1)^5:=O5;obtain⟨x1,x2⟩:=Zyq a1 F H M N l s m;obtain⟨y1,y2⟩:=Zyq a2 F H M N l z m;obtain⟨z1,z2⟩:=Zyq a3 F H M N l B m;obtain⟨⟨qf,qt,qo⟩,⟨sx,qx⟩,⟨sy,qy⟩,⟨sz,qz⟩⟩:=q;unfold Ei Zeo at hu;rw [mdO_t e,Zod e,Zod e,Zod e,o]at hu;injection hu with h1 h2;injection h1 with hf h1;injection h1 with ht I;injection h2 with hx h2;injection h2 with hy hz;dsimp only at hf ht I hx hy hz;subst hf ht hx hy hz;have I:=I.symm;subst I;have f:=λi (hi:i<3) k=>Q.fit (i:=i) e hi k;have a7:=bL hp;have b0:=R.t1;have b1:=R.t3;have S:∀a∈Ba (cX fr to g g.2.1.2) (cG fr to g),La a:=Zxn (f 0 O1);have V:∀a∈Ba (cX fr to g g.2.2.1.2) (cG fr to g),La a:=Zxn (f 1 O1);have W:∀a∈Ba (cX fr to g g.2.2.2.2) (cG fr to g),La a:=Zxn (f 2 O1);have a8:n<=4294967296:=o▸e;have a6:0<=cA fr g/\cB to g<=3600000:=O1;have i1:La (cA fr g):=⟨O1,O1⟩;have i2:La (cB to g):=⟨O1,O1⟩;have i3:La n:=⟨O1,O1⟩;refine⟨⟨i1,i2,i3,S,V,W⟩,?_,⟨l,F,H,O1,m,λi t u D=>?_⟩⟩
 .show Za4 (cA fr g) (cB to g) n _ _ _=true;unfold Za4 Zwl;simp only [aP,bO];exact⟨⟨⟨⟨⟨⟨⟨⟨O1,O1⟩,O1⟩,O1⟩,O1⟩,x1.to⟩,y1.to⟩,z1.to⟩,Ypi a4 l s z B a5⟩
 .have j:t*((g.1.2.1-g.1.1:Int):Rat)=((cA fr g-g.1.1:Int):Rat)+((cB to g-cA fr g:Int):Rat)*u:=D;clear D;have k0:=Zpw a1 l s j;have k1:=Zpw a2 l z j;have k2:=Zpw a3 l B j;dsimp only;generalize Ba (cX fr to g g.2.1.2) (cG fr to g)=X at *;generalize Ba (cX fr to g g.2.2.1.2) (cG fr to g)=Y at *;generalize Ba (cX fr to g g.2.2.2.2) (cG fr to g)=Z at *;generalize ((cG fr to g:Int):Rat)=GG at *;generalize ((g.1.2.1-g.1.1:Int):Rat)^5=DD at *
  match i with
  | 0=>exact k0
  | 1=>exact k1
  | i+2=>exact k2
theorem cg_brS{n:Nat}(q:n<6)(z:c.length<=n+1){M:Int}(h:∀j,j<n+1->((Kb n c j).natAbs:Int)<=M*(Ob n j:Int))(k:Nat):((cf c k).natAbs:Int)<=80*M:=by
 have s:0<=M:=by have e:=h 0 O8;grind [Zi7]
 by_cases u:k<n+1
 .rw [Xs]
  match n,q with
  | 0,_=>
   have e:=Xs.1 (h 0 O1);rw [bre00,show(Ob 0 0:Int)=1 from rfl]at e;grind
  | 1,_=>
   have e:=Xs.1 (h 0 O1);rw [bre10,show(Ob 1 0:Int)=1 from rfl]at e;have f:=Xs.1 (h 1 O1);rw [bre11,show(Ob 1 1:Int)=1 from rfl]at f;grind
  | 2,_=>
   have e:=Xs.1 (h 0 O1);rw [bre20,show(Ob 2 0:Int)=1 from rfl]at e;have f:=Xs.1 (h 1 O1);rw [bre21,show(Ob 2 1:Int)=2 from rfl]at f;have g:=Xs.1 (h 2 O1);rw [bre22,show(Ob 2 2:Int)=1 from rfl]at g;grind
  | 3,_=>
   have e:=Xs.1 (h 0 O1);rw [bre30,show(Ob 3 0:Int)=1 from rfl]at e;have f:=Xs.1 (h 1 O1);rw [bre31,show(Ob 3 1:Int)=3 from rfl]at f;have g:=Xs.1 (h 2 O1);rw [bre32,show(Ob 3 2:Int)=3 from rfl]at g;have l:=Xs.1 (h 3 O1);rw [bre33,show(Ob 3 3:Int)=1 from rfl]at l;grind
  | 4,_=>
   have e:=Xs.1 (h 0 O1);rw [bre40,show(Ob 4 0:Int)=1 from rfl]at e;have f:=Xs.1 (h 1 O1);rw [bre41,show(Ob 4 1:Int)=4 from rfl]at f;have g:=Xs.1 (h 2 O1);rw [bre42,show(Ob 4 2:Int)=6 from rfl]at g;have l:=Xs.1 (h 3 O1);rw [bre43,show(Ob 4 3:Int)=4 from rfl]at l;have m:=Xs.1 (h 4 O1);rw [bre44,show(Ob 4 4:Int)=1 from rfl]at m;grind
  | 5,_=>
   have e:=Xs.1 (h 0 O1);rw [bre50,show(Ob 5 0:Int)=1 from rfl]at e;have f:=Xs.1 (h 1 O1);rw [bre51,show(Ob 5 1:Int)=5 from rfl]at f;have g:=Xs.1 (h 2 O1);rw [bre52,show(Ob 5 2:Int)=10 from rfl]at g;have l:=Xs.1 (h 3 O1);rw [bre53,show(Ob 5 3:Int)=10 from rfl]at l;have m:=Xs.1 (h 4 O1);rw [bre54,show(Ob 5 4:Int)=5 from rfl]at m;have o:=Xs.1 (h 5 O1);rw [bre55,show(Ob 5 5:Int)=1 from rfl]at o;grind
 grind [Yx]
theorem AxC.cg(h:AxC c ov)(k:Nat):((cf c k).natAbs:Int)<=83886080*ov:=by have f:=h.l;have:=cg_brS O1 O1 (λj e=>h.b j O1) k;omega
open Go.RowKit Below
variable {P:Program} {N:Nat} {sc:Nat->Prop} {env env':Qm} {H H':Hp} {Q Q':Exit->Act->World->Prop} {M:Nat->Prop}
def wcr(l:List Int)(r:List Value):Array Value:=(l.map (Value.int .i64) ++ r).toArray
theorem Zkf(l:List Int)(r:List Value):(wcr l r).size=l.length+r.length:=by simp [wcr]
theorem Ymr{l:List Int}{j:Nat}(h:j<l.length):(wcr l r)[j]? = some (.int .i64 (l.getD j 0)):=by simp [wcr,fH,h,aJ]
theorem Ymq{l:List Int}{j:Nat}{v:Int}(h:j<l.length):Fi (wcr l r) j [.int .i64 v]=wcr (l.set j v) r:=by unfold Fi wcr;congr 1;rw [List.set_eq_take_append_cons_drop,aO h,dW,cP,List.map_take,List.map_drop];grind
theorem Zyf(l:List Int):cellsOf Xk l=l.map (Value.int .i64):=by
 induction l with
 | nil=>rfl
 | cons x l e=>rw [show cellsOf _ _=(Xk x).cells.toList ++ cellsOf _ l from rfl,e];rfl
theorem f_obox{e:TypeId}(i:Nat)(hi:lk H i=some (Nk 1 e Xk v xs))(z:xs≠[]):∀a w,Sat N sc env H a w->∃y:Nat×Nat×List Value,
  v= .slice (some ⟨y.1,0,none⟩) xs.length y.2.1/\xs.length+y.2.2.length=y.2.1/\y.2.1<=maxLen/\w.heap[y.1]? = some (.cells (wcr xs y.2.2) e (0,0)):=λa w hs=>by
 have h:=hs.hold i _ hi;rcases h.2 with⟨rfl,u⟩|⟨g,j,f,rfl,q,s,o,l,n,m⟩
 .grind
 .refine⟨(g,j,f.toList.drop xs.length),rfl,?_,l,?_⟩
  .grind
  .rw [show wcr xs _=f by unfold wcr;grind [Zyf,List.take_append_drop]]
   omega
theorem s_obox {e:TypeId} {c:Nat}     (i:Nat) (hi:lk H i=some (Nk 1 e Xk (.slice (some ⟨b,0,none⟩) xs.length c) xs)) (h:Nat.beq i 0=false) (f:lk H 0=some (Zy w0 M0)) (l:∀b,w0.heap.size<=b->sc b)
  {a:Act}  (hs:Sat N sc env H a w) (g:w.heap[b]? = some (.cells (wcr xs r) e (0,0))):Sat N sc env ((i,box b e (wcr xs r))::H) a w:=
 hs.upd hi rfl (λe=>O11) (Chg.refl _ w) g (λk j=> .inl (by show some b=some k;rw [show k=b from j])) f l
theorem e_obox {g:Code} {e:TypeId}     (i:Nat) (hi:lk H i=some (Nk 1 e Xk v xs)) (f:Nat.beq i 0=false) (s:xs≠[]) (j:lk H 0=some (Zy w0 M0)) (q:∀b,w0.heap.size<=b->sc b)
  (h:∀(b c:Nat) (r:List Value),v= .slice (some ⟨b,0,none⟩) xs.length c->xs.length+r.length=c->c<=maxLen->E P N sc g Q env ((i,box b e (wcr xs r))::H)):E P N sc g Q env H:=λa w hs=>by
 obtain⟨⟨b,c,r⟩,o,l,m,n⟩:=f_obox i hi s a w hs;subst o;exact h b c r rfl l m a w (s_obox i hi f j q hs n)
theorem Ynt{e:TypeId}{c:Nat}(i:Nat)(hi:lk H i=some (box b e (wcr xs r)))(h:Nat.beq i 0=false)(n:xs.length+r.length=c)(l:c<=maxLen)(f:lk H 0=some (Zy w0 M0))(m:∀b,w0.heap.size<=b->sc b) :
  ∀a w,Sat N sc env H a w->Sat N sc env ((i,Nk 1 e Xk (.slice (some ⟨b,0,none⟩) xs.length c) xs)::H) a w:=λa w hs=>by
 have g:=hs.hold i _ hi;refine hs.upd hi rfl (λe=>O11) (Chg.refl _ w) ?_ (λk j=> .inl (by cases j;rfl)) f m;refine⟨by rw [Zyf,bM,jD],.inr ⟨b,c,_,rfl,bI _,g,O1,l,by simp_all [Zkf,jD],?_⟩⟩;rw [Zyf];show((xs.map _) ++ r).take _=_;simp
theorem Zaw (i:Nat) {o:Oper}  {e:TypeId} {n c:Nat}  {m:Int} (j:o.op= .indexAddr t x y) (q:ev env x=some (.slice (some ⟨b,off,none⟩) n c)) (s:ev env y=some (.int kd m))
  (l:P.underlying t=some (.slice e)) (h:∀w,(sizeOf e).run P w= .ok 1 w) (f:m=(i:Int)) (g:i<n):Ld P N sc o env H (.pointer (some ⟨b,off+i,none⟩)):=λa w hs=>by
 subst f;simp [execOp,j,hs.ev q,hs.ev s,Instr.indexAt,asIntOf,run_underlying l,h,g,Od]
theorem Zrm {o:Oper}  {e:TypeId} {f:Option Addr} {n c:Nat} (g:o.op= .call { callee:= .builtin .len,args:=#[x],argTypes:=#[t] })
  (j:ev env x=some (.slice f n c)) (h:P.underlying t=some (.slice e)):Ld P N sc o env H (.int .i64 (n:Int)):=λa w hs=>by
 simp [execOp,g,resolve,hs.ev j,invoke,builtin,Builtin.len_,run_underlying h,goInt]
def Zdn (i:Nat){o:Oper}{j:Nat}{l:List Int}(g:o.op= .load t x)(m:ev env x=some (.pointer (some ⟨b,j,none⟩)))(e:lk H i=some (box b tb (wcr l r)))(h:∀w,(isAgg t).run P w= .ok false w)(f:j<l.length) :
  Ld P N sc o env H (.int .i64 (l.getD j 0)):=Zmt _ g m e h (Ymr f)
theorem Zsx (i:Nat) {o:Oper}   {j:Nat} {l:List Int}  {v:Int}   (s:o.op= .store t x y) (m:o.dst=none)
  (D:ev env x=some (.pointer (some ⟨b,j,none⟩))) (F:ev env y=some (.int .i64 v)) (g:lk H i=some (box b tb (wcr l r))) (e:i≠0) (q:∀w,(sizeOf t).run P w= .ok 1 w) (n:j<l.length)
  (f:lk H 0=some (Zy w0 M0)) (B:∀b,w0.heap.size<=b->sc b) (h:M b) :
  T P N sc M o env H (G:=Unit) (λ_=>True) (λ_=>env) (λ_=>(i,box b tb (wcr (l.set j v) r))::H):=by
 rw [<-Ymq n];exact Zip s m D F g e rfl q rfl (by grind [Zkf]) (λu z=>Zj (by rw [List.mem_singleton.1 z];rfl)) rfl f B h
theorem Yki (i:Nat) {o:Oper}  {e:TypeId} {n c:Nat}  {m:Int} (s:o.op= .slice t x (some y) none none) (z:ev env x=some (.slice (some ⟨b,off,none⟩) n c)) (B:ev env y=some (.int kd m))
  (u:P.underlying t=some (.slice e)) (j:∀w,(sizeOf e).run P w= .ok 1 w) (f:m=(i:Int)) (l:i<n) (q:n<=c):Ld P N sc o env H (.slice (some ⟨b,off+i,none⟩) (n-i) (c-i)):=λa w hs=>by
 subst f;have g:i<=n:=O1;have h:=O1;simp [execOp,s,hs.ev z,hs.ev B,Instr.sliceAt,Instr.slice,Instr.sliceBounds,Instr.sliceBound,asIntOf,run_underlying u,j,g,h,q,Od];omega
theorem d_prew {o:Oper}  {e:TypeId} {n c:Nat}  {m:Int} (l:o.op= .slice t x none (some y) none) (s:ev env x=some (.slice (some ⟨b,0,none⟩) n c)) (u:ev env y=some (.int kd m))
  (q:P.underlying t=some (.slice e)) (j:∀w,(sizeOf e).run P w= .ok 1 w) (f:m=(i:Int)) (g:i<=n) (z:n<=c):Ld P N sc o env H (.slice (some ⟨b,0,none⟩) i c):=λa w hs=>by
 subst f;have h:i<=c:=O1;simp [execOp,l,hs.ev s,hs.ev u,Instr.sliceAt,Instr.slice,Instr.sliceBounds,Instr.sliceBound,asIntOf,run_underlying q,j,g,h,Od]
theorem t_clw {o:Oper}  {z:TypeId} {e n I:Nat} {l:List Int}   
  (Z:o.op= .call { callee:= .builtin .clear,args:=#[x],argTypes:=#[t] }) (W:o.dst=none)
  (hx:ev env x=some (.slice (some ⟨b,e,none⟩) n I))  (B:lk H i=some (box b tb (wcr l r))) (h:i≠0)
  (hn:0<n) (Y:e+n=l.length) (ht:P.underlying t=some (.slice z)) (F:∀w,(sizeOf z).run P w= .ok 1 w)
  (hz:∀w,(zeroValue z).run P w= .ok (.int .i64 0) w)
  (R:lk H 0=some (Zy w0 M0)) (hw:∀b,w0.heap.size<=b->sc b) (V:M b) :
  T P N sc M o env H (G:=Unit) (λ_=>True) (λ_=>env) (λ_=>(i,box b tb (wcr (l.take e) (List.replicate n (Value.int .i64 0) ++ r)))::H):=λa w hs K Q S=>by
 have D:=hs.hold i _ B;have s:(Builtin.zeroCells (Value.int .i64 0).cells n).toList=List.replicate n (Value.int .i64 0):=by
  apply iN
  .simp [Builtin.zeroCells,Value.cells]
  .intro i h2 h3;simp [Builtin.zeroCells,Value.cells,lY]
 have f:=run_storeCells_at P b e tb (List.replicate n (Value.int .i64 0)) 0 (wcr l r) w D (by grind [Zkf,List.length_replicate]) (λu hu=>by rw [List.eq_of_mem_replicate hu];rfl);simp only [gN,aX]at f;have g:((wcr l r).toList.take e ++ List.replicate n (Value.int .i64 0) ++ (wcr l r).toList.drop (e+n)).toArray=wcr (l.take e) (List.replicate n (Value.int .i64 0) ++ r):=by unfold wcr;grind
 rw [g]at f;obtain⟨m,rfl⟩:∃m,n=m+1:=⟨n-1,O1⟩;have j:(execOp a.eval o).run P w= .ok (.value (.tuple #[])) (w.setRow b (wcr (l.take e) (List.replicate (m+1) (Value.int .i64 0) ++ r))):=by simp only [execOp,Z,resolve,invoke,builtin];simp [hs.ev hx,Builtin.clear_,run_underlying ht,hz,s,f]
 unfold Oper.wp;rw [j];show K (a.put o.dst _) _;rw [W];exact S () _ _ aA ((hs.upd B rfl h (q:=box b tb (wcr (l.take e) _)) (Gf (M:=λk=>k=b) rfl) (setRow_heap w b _ _ tb _ D) (λk F=> .inl F) R hw).put_none _) (Gf V)
theorem Yn4{a:Act}{fn:Func}(hs:Sat N sc env H a w)(e:fn.results=#[]):(results fn a.tmps).run P w= .ok (.tuple #[]) w:=by simp [results,e]
end Go.Sky
namespace Go.Sky
variable{i k:Nat}{xs:List Int}{G a':Int}{q:Zd}{r qs:List Zd}
def Srt(l:List Int)(n:Nat):Prop:=∀p q,p<q->q<n->l.getD p 0<=l.getD q 0
def Sst(l:List Int)(n:Nat):Prop:=∀p q,p<q->q<n->l.getD p 0<l.getD q 0
def Yma(l:List Int)(i j:Nat):Prop:=∀p q,p<q->q<=i->q≠j->l.getD p 0<=l.getD q 0
def Sam(l m:List Int):Prop:=m.length=l.length/\∀x,x∈m↔x∈l
def Sam.rfl'(l:List Int):Sam l l:=⟨rfl,λ_=>nK⟩
def Zju{l:List Int}{j:Nat}{v:Int}(hi:i<l.length):(l.set i v).getD j 0=if j=i then v else l.getD j 0:=Zig hi
def swp(l:List Int)(j:Nat):List Int:=(l.set j (l.getD (j-1) 0)).set (j-1) (l.getD j 0)
theorem Yap(l:List Int)(j:Nat):(swp l j).length=l.length:=by simp [swp]
theorem Zbh{l:List Int}{j:Nat}(b:j<l.length)(a:1<=j)(k:Nat):(swp l j).getD k 0=if k=j-1 then l.getD j 0 else if k=j then l.getD (j-1) 0 else l.getD k 0:=by unfold swp;grind
theorem Db{l:List Int}{x:Int} : x∈l↔∃k,k<l.length/\l.getD k 0=x:=by
 constructor
 .intro h;obtain⟨k,a,e⟩:=dI.1 h;exact⟨k,a,O5⟩
 grind
theorem Zzn{l:List Int}{j:Nat}(c:j<l.length)(d:1<=j):Sam l (swp l j):=⟨Yap l j,λx=>by
 rw [Db,Db,Yap];constructor
 .rintro⟨k,f,e⟩;rw [Zbh c d]at e;grind
 .rintro⟨k,f,e⟩;by_cases a:k=j-1
  .exact⟨j,c,by rw [Zbh c d,<-a];omega⟩
  .by_cases b:k=j
   .exact⟨j-1,O1,by rw [Zbh c d,<-b];omega⟩
   .exact⟨k,f,by rw [Zbh c d];omega⟩⟩
def Sam.trans{l m n:List Int}(h:Sam l m)(a:Sam m n):Sam l n:=⟨a.1.trans h.1,λx=>(a.2 x).trans (h.2 x)⟩
def srtx_0{l:List Int}(h:Srt l i):Yma l i i:=λp q a b c=>h p q a O1
theorem Zs4{l:List Int}{j:Nat}(h:Yma l i j)(f:j<l.length)(e:1<=j)(n:j<=i)(o:l.getD j 0<l.getD (j-1) 0):Yma (swp l j) i (j-1):=λp q g d m=>by
 rw [Zbh f e,Zbh f e,aF m];by_cases a:q=j
 .rw [aO a];by_cases b:p=j-1
  .omega
  .rw [aF b,aF O1];exact h p _ O1 O1 O1
 .rw [aF a];by_cases b:p=j-1
  .rw [aO b];exact h j q O1 d a
  .rw [aF b];by_cases c:p=j
   .rw [aO c];exact h _ q O1 d a
   .rw [aF c];exact h p q g d a
theorem Yfn{l:List Int}{j:Nat}(h:Yma l i j)(m:j<=i)(f:j=0\/(1<=j/\¬l.getD j 0<l.getD (j-1) 0)):Srt l (i+1):=λp q e g=>by
 by_cases a:q=j
 .rcases f with b|⟨b,c⟩
  .omega
  .subst a;by_cases d:p=q-1
   .grind
   .have:=h p (q-1) O1 O1 O1;omega
 .exact h p q e O1 a
def srt_1(l:List Int):Srt l 1:=λp q a b=>O1
structure Cmp (xs zs:List Int):Prop where
 s:Sst zs zs.length
 m:∀x,x∈zs↔x∈xs
theorem Yfm{l:List Int}{n:Nat}(h:Srt l n)(c:∀q,1<=q->q<n->l.getD q 0≠l.getD (q-1) 0):Sst l n:=λp q d a=>by
 have e:=c q O1 a;have f:=h (q-1) q O1 a;rcases mT (show p<=q-1 by omega)with b|b
 .have:=h p _ b O1;omega
 grind
def Yqn{l:List Int}(h:Srt l l.length)(a:∀q,1<=q->q<l.length->l.getD q 0≠l.getD (q-1) 0):Cmp l l:=⟨Yfm h a,λx=>nK⟩
structure Cml (xs l:List Int) (m k:Nat):Prop where
 k1:1<=k
 km:k<m
 ml:m<=xs.length
 ll:l.length=xs.length
 r:∀q,m<=q+1->l.getD q 0=xs.getD q 0
 s:Sst l k
 e:∀x,(∃p,p<k/\l.getD p 0=x)↔∃p,p<m/\xs.getD p 0=x
 z:l.getD (k-1) 0=xs.getD (m-1) 0
theorem cml_0(hs:Srt xs xs.length)(b:∀q,1<=q->q<k->xs.getD q 0≠xs.getD (q-1) 0)(c:1<=k)(f:k<xs.length)(e:xs.getD k 0=xs.getD (k-1) 0):Cml xs xs (k+1) k:=
 ⟨c,O8,O1,rfl,λq _=>rfl,Yfm (λp q a d=>hs p q a O1) b,λx=>by grind,O5⟩
theorem cml_eq{l:List Int}{m:Nat}(h:Cml xs l m k)(b:m<xs.length)(e:l.getD m 0=l.getD (m-1) 0):Cml xs l (m+1) k:=by
 have c:=h.r m O8;have d:=h.r (m-1) O1;have a:=h.km;refine⟨h.k1,O1,b,h.ll,λq f=>h.r q O1,h.s,λx=>(h.e x).trans ⟨?_,?_⟩,?_⟩
 .grind
 .grind
 .rw [h.z,show m+1-1=m by rfl];omega
theorem cml_ne{l:List Int}{m:Nat}(hs:Srt xs xs.length)(h:Cml xs l m k)(f:m<xs.length)(u:l.getD m 0≠l.getD (m-1) 0):Cml xs (l.set k (l.getD m 0)) (m+1) (k+1):=by
 have s:=h.r m O8;have j:=h.km;have t:=h.r (m-1) O1;have n:=h.ll;have b:k<l.length:=O1;have o:=by have:=hs (m-1) m O1 f;omega
 refine⟨O8,O1,f,O5,λq v=>?_,λp q e c=>?_,λx=>?_,?_⟩
 .rw [Zju b,aF O1];exact h.r q O1
 .rw [Zju b,Zju b,aF (show p≠k by omega)];by_cases a:q=k
  .have w:=h.z;rcases mT (show p<=k-1 by omega)with d|d
   .have:=h.s p (k-1) d O1;omega
   grind
  .rw [aF a];exact h.s p q e O1
 .constructor
  .rintro⟨p,e,c⟩;rw [Zju b]at c;by_cases a:p=k
   .grind
   .rw [aF a]at c;obtain⟨q,d,g⟩:=(h.e x).1 ⟨p,O1,c⟩;grind
  .rintro⟨p,e,c⟩;by_cases a:p=m
   .exact⟨k,O8,O5⟩
   .obtain⟨q,d,g⟩:=(h.e x).2 ⟨p,O1,c⟩;exact⟨q,O1,O5⟩
 grind
theorem Yaz{l:List Int}{p:Nat}(h:p<k):(l.take k).getD p 0=l.getD p 0:=by grind
theorem cml_e{l:List Int}(h:Cml xs l xs.length k):Cmp xs (l.take k):=by
 have e:=h.km;have d:=h.ll;have c:(l.take k).length=k:=O5;refine⟨λp q b a=>?_,λx=>?_⟩
 .rw [c]at a;rw [Yaz O1,Yaz a];exact h.s p q b a
 .rw [Db,Db,<-h.e x];grind
def Zl7(x:Int):List Int->List Int
 | []=>[x]
 | y::l=>if x<y then x::y::l else if x=y then y::l else y::Zl7 x l
def Inc:List Int->Prop
 | []=>True
 | x::l=>(∀y∈l,x<y)/\Inc l
theorem Zl0{x z:Int} : ∀{l:List Int},z∈Zl7 x l↔z=x\/z∈l
 | []=>by simp [Zl7]
 | y::l=>by
  unfold Zl7;split
  .simp
  .split
   .rename_i h;subst h;simp
   .rw [aW,Zl0,aW];constructor
    .rintro(h|h|h)
     .exact .inr (.inl h)
     .exact .inl h
     .exact .inr (.inr h)
    .rintro(h|h|h)
     .exact .inr (.inl h)
     .exact .inl h
     .exact .inr (.inr h)
theorem Zuq{x:Int} : ∀{l:List Int},Inc l->Inc (Zl7 x l)
 | [],_=>⟨λy h=>(nomatch h),aA⟩
 | y::l,h=>by
  unfold Zl7;split
  .rename_i b;exact⟨λz a=>by
    rcases aW.1 a with rfl|a
    .exact b
    .have:=h.1 z a;omega,h⟩
  .split
   .exact h
   .refine⟨λz a=>?_,Zuq h.2⟩;rcases Zl0.1 a with rfl|a
    .omega
    .exact h.1 z a
def Zs5(l:List Int):List Int:=l.foldr Zl7 []
def Zl8:∀(l:List Int),Inc (Zs5 l)
 | []=>trivial
 | x::l=>Zuq (Zl8 l)
theorem Zlz{z:Int} : ∀{l:List Int},z∈Zs5 l↔z∈l
 | []=>nK
 | x::l=>by show z∈Zl7 x (Zs5 l)↔_;rw [Zl0,Zlz,aW]
theorem Yis:∀{l m:List Int},Inc l->Inc m->(∀x,x∈l↔x∈m)->l=m
 | [],[],_,_,_=>rfl
 | [],y::m,_,_,h=>absurd ((h y).2 (bX ..)) (λh=>nomatch h)
 | x::l,[],_,_,h=>absurd ((h x).1 (bX ..)) (λh=>nomatch h)
 | x::l,y::m,hl,hm,h=>by
  have e:x=y:=by
   have c:=(h x).1 (bX ..);have b:=(h y).2 (bX ..);rcases aW.1 c with a|a
   .exact a
   .rcases aW.1 b with d|d
    .exact d.symm
    .have:=hm.1 x a;have:=hl.1 y d;omega
  subst e;rw [Yis hl.2 hm.2 λz=>by
   have c:=h z;rw [aW,aW]at c;constructor
   .intro b;rcases c.1 (.inr b)with a|a
    .have:=hl.1 z b;omega
    .exact a
   .intro b;rcases c.2 (.inr b)with a|a
    .have:=hm.1 z b;omega
    .exact a]
theorem Yax:∀{l:List Int},Sst l l.length->Inc l
 | [],_=>trivial
 | x::l,h=>⟨λy a=>by obtain⟨k,d,rfl⟩:=Db.1 a;exact h 0 (k+1) O8 O5,Yax λp q b c=>h (p+1) (q+1) O1 O5⟩
theorem Yk2{ys zs:List Int}(b:Sam xs ys)(a:Cmp ys zs):zs=Zs5 xs:=
 Yis (Yax a.s) (Zl8 xs) λx=>by rw [a.m,b.2,Zlz]
theorem Zy8:∀{l:List Int},Inc l->Sst l l.length
 | [],_=>λp q _ h=>absurd h (bJ _)
 | x::l,h=>λp q a b=>by
  match p,q,a with
  | 0,q+1,_=>
   exact h.1 _ (Zg O5)
  | p+1,q+1,a=>exact Zy8 h.2 p q O1 O5
def Yo8(j:Nat):j=0\/1<=j:=O1
theorem hd_s(h:∀q,1<=q->q<k->xs.getD q 0≠xs.getD (q-1) 0)(a:¬xs.getD k 0=xs.getD (k-1) 0):∀q,1<=q->q<k+1->xs.getD q 0≠xs.getD (q-1) 0:=λq b c=>by grind
theorem Zz0(c:List Int)(a:Int):∀k,plS c a 1 k=Ye (λk=>cf c k*a^k) k
 | 0=>rfl
 | k+1=>by show plS c a 1 k+plT c a 1 k=_;rw [Yi,Zz0 c a k];congr 1;show c.getD k 0*(a^k*1^_)=cf c k*a^k;rw [nJ,iF];rfl
theorem Zn3(f:Nat->Int):∀n,((Ye f n:Int):Rat)=He (λi=>(f i:Rat)) n
 | 0=>rfl
 | n+1=>by rw [Yi,Ot,<-Zn3 f n];push_cast;rfl
theorem Yha(c:List Int)(a:Int):((pl c a 1:Int):Rat)=Zc c (a:Rat):=by
 unfold pl;rw [Zz0,Zn3]
 conv=>rhs;rw [<-Zgz c]
 rw [Zgg];exact My _ λi hi=>by rw [<-Zdt];push_cast;rfl
theorem Yph{p c g a D:Int}(o:0<G)(m:0<D)(j:a*G=g*D)(l:c*G=p*D):((Int.gcd a c:Nat):Int)*G=((Int.gcd g p:Nat):Int)*D:=by have d:=nD a G c;have e:=nD g D p;rw [j,l,e]at d;have f:((G.natAbs:Nat):Int)=G:=O1;have h:((D.natAbs:Nat):Int)=D:=O1;have b:=aH (λn:Nat=>(n:Int)) d;push_cast at b;rw [f,h]at b;exact b.symm
theorem Ybl{p b g a D:Int}(o:0<G)(l:0<D)(m:0<g)(d:b*G=p*D)(c:a*G=g*D)(n:g∣p):b/a=p/g:=by
 obtain⟨t,rfl⟩:=n;have f:b*G=(a*t)*G:=by rw [d,kM g t D,<-c,kM]
 have h:b=a*t:=kH O1 f;have j:a≠0:=λe=>by rw [e,cQ]at c;have:=dU m l;omega
 rw [h,dJ _ j,dJ _ O1]
theorem Zqy(o a:Int)(x y z:List Int):∀i j,j<=i->gS o a 1 x y z i∣gS o a 1 x y z j/\∀k,k<j->gS o a 1 x y z i∣pl (Ya k x y z) a 1
 | 0,j,h=>by obtain rfl:j=0:=O1;exact⟨kD _,λk b=>O1⟩
 | i+1,j,h=>by
  have c:gS o a 1 x y z (i+1)∣gS o a 1 x y z i:=jO ..;have f:gS o a 1 x y z (i+1)∣pl (Ya i x y z) a 1:=gD ..;by_cases g:j=i+1
  .subst g;obtain⟨e,d⟩:=Zqy o a x y z i i (aI _);exact⟨kD _,λk b=>by
    rcases aC.1 b with q|q
    .exact eW c (d k q)
    .subst q;exact f⟩
  .obtain⟨e,d⟩:=Zqy o a x y z i j O1;exact⟨eW c e,λk b=>eW c (d k b)⟩
theorem Prt.pl{g:Zd}(h:Prt q g G){a:Int}(d:a*(g.1.2.1-g.1.1)=(q.1.1-g.1.1)+(q.1.2.1-q.1.1)*a')(i:Nat) :
  Sky.pl (Ya i q.2.1.2 q.2.2.1.2 q.2.2.2.2) a' 1*G=Sky.pl (Ya i g.2.1.2 g.2.2.1.2 g.2.2.2.2) a 1*(g.1.2.1-g.1.1)^5:=by
 have b:=h.x i (a:Rat) (a':Rat) (by exact_mod_cast d);rw [<-Yha,<-Yha,<-Zdt]at b;have c:((Sky.pl (Ya i q.2.1.2 q.2.2.1.2 q.2.2.2.2) a' 1*G:Int):Rat)=((Sky.pl (Ya i g.2.1.2 g.2.2.1.2 g.2.2.2.2) a 1*(g.1.2.1-g.1.1)^5:Int):Rat):=by rw [Rat.intCast_mul,Rat.intCast_mul,b,lE]
 exact_mod_cast c
theorem Yal{g:Zd}(h:Prt q g G)(n:SgG g){a:Int}(l:0<=a/\a<=1)(o:a*(g.1.2.1-g.1.1)=(q.1.1-g.1.1)+(q.1.2.1-q.1.1)*a') :
  (∀i,i<3->pl (Ya i q.2.1.2 q.2.2.1.2 q.2.2.2.2) a' 1/gS q.1.2.2 a' 1 q.2.1.2 q.2.2.1.2 q.2.2.2.2 3=pl (Ya i g.2.1.2 g.2.2.1.2 g.2.2.2.2) a 1/gS g.1.2.2 a 1 g.2.1.2 g.2.2.1.2 g.2.2.2.2 3)/\
  q.1.2.2*1^5/gS q.1.2.2 a' 1 q.2.1.2 q.2.2.1.2 q.2.2.2.2 3=g.1.2.2*1^5/gS g.1.2.2 a 1 g.2.1.2 g.2.2.1.2 g.2.2.2.2 3:=by
 have m:0<g.1.2.1-g.1.1:=by have:=h.a0;have:=h.b0;have:=h.ab;omega
 have e:0<(g.1.2.1-g.1.1)^5:=iH m;have b:=(Zi1 n (a:=a) (d:=1) ⟨l.1,O1⟩ ⟨O4,O4⟩ 3).1;have c:=λi=>h.pl o i;have hs:∀i,gS q.1.2.2 a' 1 q.2.1.2 q.2.2.1.2 q.2.2.2.2 i*G=gS g.1.2.2 a 1 g.2.1.2 g.2.2.1.2 g.2.2.2.2 i*(g.1.2.1-g.1.1)^5:=by
  intro i
  induction i with
  | zero=>
   show q.1.2.2*1^5*G=g.1.2.2*1^5*_;rw [nJ,iF,iF];exact h.o
  | succ i p=>
   show((Int.gcd (gS q.1.2.2 a' 1 q.2.1.2 q.2.2.1.2 q.2.2.2.2 i) (pl (Ya i q.2.1.2 q.2.2.1.2 q.2.2.2.2) a' 1):Nat):Int)*G=((Int.gcd (gS g.1.2.2 a 1 g.2.1.2 g.2.2.1.2 g.2.2.2.2 i) (pl (Ya i g.2.1.2 g.2.2.1.2 g.2.2.2.2) a 1):Nat):Int)*_;exact Yph h.g0 e p (c i)
 obtain⟨s,f⟩:=Zqy g.1.2.2 a g.2.1.2 g.2.2.1.2 g.2.2.2.2 3 3 (aI _);obtain⟨j,-⟩:=Zqy g.1.2.2 a g.2.1.2 g.2.2.1.2 g.2.2.2.2 3 0 O4;refine⟨λi hi=>Ybl h.g0 e b (c i) (hs 3) (f i hi),Ybl h.g0 e b ?_ (hs 3) j⟩;rw [nJ,iF,iF];exact h.o
theorem me_prt{g h r:Zd}{K:Int}(n:SgG g)(o:SgG h)(s:Prt q g G)(t:Prt r h K)(d:q.1.2.1=g.1.2.1)(c:r.1.1=h.1.1)(p:meG g h=true):meG q r=true:=by
 obtain⟨b,u⟩:=Yal s n (a:=1) (a':=1) ⟨O4,O4⟩ (by rw [d];omega);obtain⟨r1,r2⟩:=Yal t o (a:=0) (a':=0) ⟨O4,O4⟩ (by rw [c];omega);unfold meG Zi0 Ygg at *;rw [aP,fI,fI]at *;obtain⟨e,f,j,l,m⟩:=p;refine⟨by rw [d,c];exact e,?_,?_,?_,?_⟩
 .exact(b 0 O4).trans (f.trans (r1 0 O4).symm)
 .exact(b 1 O4).trans (j.trans (r1 1 O4).symm)
 .exact(b 2 O4).trans (l.trans (r1 2 O4).symm)
 .exact u.trans (m.trans r2.symm)
structure Chn (ps:List Zd):Prop where
 lt:∀g∈ps,g.1.1<g.1.2.1
 eq:∀(i:Nat) (g h:Zd),ps[i]? = some g->ps[i+1]? = some h->g.1.2.1=h.1.1
def Chn.tail{g:Zd}(h:Chn (g::r)):Chn r:=⟨λx a=>h.lt x (bN _ a),λi x y a b=>h.eq (i+1) x y a b⟩
theorem Chn.ge:∀{r:List Zd} {g:Zd},Chn (g::r)->∀x∈r,g.1.2.1<=x.1.1
 | [],_,_,_,a=>nomatch a
 | h::r,g,hc,x,a=>by
  have b:=hc.eq 0 g h rfl rfl;rcases aW.1 a with rfl|a
  .omega
  .have:=Chn.ge hc.tail x a;have:=hc.lt h O8;omega
theorem Zjx{fr to:Int} : ∀{ps:List Zd},Chn ps->∀(j:Nat) (f d:Zd),(ps.filter (Nz fr to))[j]? = some f->(ps.filter (Nz fr to))[j+1]? = some d->∃i:Nat,ps[i]? = some f/\ps[i+1]? = some d
 | [],_,j,f,d,h,_=>by simp at h
 | g::r,hc,j,f,d,h1,c=>by
  cases hp:Nz fr to g with
  | false=>
   rw [gL (by rw [hp];exact bG)]at h1 c;obtain⟨i,a,b⟩:=Zjx hc.tail j f d h1 c;exact⟨i+1,a,b⟩
  | true=>
   rw [eO hp]at h1 c
   match j with
   | j+1=>
    obtain⟨i,a,b⟩:=Zjx hc.tail j f d h1 c;exact⟨i+1,a,b⟩
   | 0=>
    obtain rfl:g=f:=by simpa using h1
    have c:(r.filter (Nz fr to))[0]? = some d:=c;have o:d∈r.filter (Nz fr to):=dD c;obtain⟨e,l⟩:=fN.1 o
    match r,hc,c,e with
    | h::r,hc,c,e=>
     have s:=hc.eq 0 g h rfl rfl;have t:=hc.lt h O8;have p:=bL hp;have m:=bL l;have n:Nz fr to h=true:=by
      refine aE ?_;unfold cA cB at *;rcases aW.1 e with rfl|q
      .exact m
      .have:=Chn.ge hc.tail d q;omega
     rw [eO n]at c;obtain rfl:h=d:=by simpa using c
     exact⟨0,rfl,rfl⟩
theorem getD_some{α:Type}{l:List α}{x d:α}(h:l[i]? = some x):l.getD i d=x:=by rw [aJ,h];rfl
theorem Ez{ps:List Zd}(hi:∀g∈ps,Gin g)(m:Yg ps=true):Chn ps/\(∀g∈ps,seB g=true)/\∀(i:Nat) (g h:Zd),ps[i]? = some g->ps[i+1]? = some h->meG g h=true:=by
 obtain⟨l,n,o⟩:=Xb m;have d:∀g∈ps,seB g=true:=λg a=>by obtain⟨i,b,e⟩:=dI.1 a;have:=Om (l i b);rw [aJ,aL b,fA,e]at this;exact this
 have c:∀(i:Nat) (g h:Zd),ps[i]? = some g->ps[i+1]? = some h->meG g h=true:=λi g h a f=>by have j:=(cL.1 f).1;have:=l (i+1) j;rw [Zh7 (Om this) O1,mS,getD_some a,getD_some f]at this;exact this
 refine⟨⟨λg a=>(Oo (hi g a) (d g a)).t2,λi g h a f=>?_⟩,d,c⟩;have:=c i g h a f;unfold meG Zi0 at this;rw [aP,fI]at this;exact this.1
structure Pat (fr to:Int) (ps qs:List Zd):Prop where
 gin:∀q∈qs,Gin q
 pb:Yg qs=true
 len:qs.length=(ps.filter (Nz fr to)).length
 prt:∀(j:Nat) (q:Zd),qs[j]? = some q->∃f:Zd,(ps.filter (Nz fr to))[j]? = some f/\f∈ps/\Prt q f (cG fr to f)
 nxt:∀(j:Nat) (q r:Zd),qs[j]? = some q->qs[j+1]? = some r->∃(i:Nat) (f h:Zd),ps[i]? = some f/\ps[i+1]? = some h/\Prt q f (cG fr to f)/\Prt r h (cG fr to h)/\q.1.2.1=f.1.2.1/\r.1.1=h.1.1
theorem Ykp{fr to:Int}{ps:List Zd}(hi:∀g∈ps,Gin g)(I:Yg ps=true)(u:Qu fr to ps=true)(P:qs.map Ei=(ps.filter (Nz fr to)).map (Zeo fr to))(F:ps.filter (Nz fr to)≠[]):Pat fr to ps qs:=by
 obtain⟨M,o,D⟩:=Ez hi I;have hl:qs.length=(ps.filter (Nz fr to)).length:=by have:=aH List.length P;rwa [bM,bM]at this
 have x:∀(j:Nat) (q:Zd),qs[j]? = some q->∃f:Zd,(ps.filter (Nz fr to))[j]? = some f/\f∈ps/\Nz fr to f=true/\Ei q=Zeo fr to f/\Gin q/\seB q=true/\Prt q f (cG fr to f):=λj q d=>by have a0:=(cL.1 d).1;have v:(ps.filter (Nz fr to))[j]? = some ((ps.filter (Nz fr to))[j]' O1):=aL O1;generalize (ps.filter (Nz fr to))[j]' O1=f at v;obtain⟨s,y⟩:=fN.1 (dD v);have e:=aH (λl:List Zck=>l[j]?) P;simp only [fD,d,v,lL,jE]at e;have hk:Zfx fr to f=true:=bC.1 u f (dD v);obtain⟨a,b,c⟩:=Zj2 (hi f s) (o f s) y hk e;exact⟨f,v,s,y,e,a,b,c⟩
 have N:∀(j:Nat) (q r:Zd),qs[j]? = some q->qs[j+1]? = some r->∃(i:Nat) (f h:Zd),ps[i]? = some f/\ps[i+1]? = some h/\Prt q f (cG fr to f)/\Prt r h (cG fr to h)/\q.1.2.1=f.1.2.1/\r.1.1=h.1.1:=λj q r d hr=>by
  obtain⟨f,f1,f2,f3,f4,-,-,f7⟩:=x j q d;obtain⟨h,B,W,Y,Z,-,-,h7⟩:=x (j+1) r hr;obtain⟨i,Q,R⟩:=Zjx M j f h f1 B;have e1:=M.eq i f h Q R;have c1:=bL f3;have c2:=bL Y;have q1:q.1=(cA fr f,cB to f,mdO (cO f) (cG fr to f)):=aH Prod.fst f4;have r1:r.1=(cA fr h,cB to h,mdO (cO h) (cG fr to h)):=aH Prod.fst Z;refine⟨i,f,h,Q,R,f7,h7,?_,?_⟩
  .rw [q1];show cB to f=_;unfold cA cB at *;omega
  .rw [r1];show cA fr h=_;unfold cA cB at *;omega
 have w:∀q∈qs,Gin q:=λq H=>by obtain⟨j,d⟩:=eH.1 H;obtain⟨f,-,-,-,-,h,-⟩:=x j q d;exact h
 have t:qs.length<=256:=by have B:=gT (Nz fr to) ps;have W:=(Xb I).2.2;omega
 have B:1<=qs.length:=by have:=aN.2 F;omega
 refine⟨w,?_,hl,λj q d=>?_,N⟩
 .rw [Zp2 (λi m=>?_),aE ⟨B,t⟩];have d:qs[i]? = some (qs[i]'(m)):=aL m;generalize qs[i]'(m)=q at d;obtain⟨f,-,-,-,-,-,hs,-⟩:=x i q d;rcases bB i with z|z
  .exact Zw9 (by rw [getD_some d];exact hs) z
  .rw [Zh7 (by rw [getD_some d];exact hs) z,getD_some d];have n:qs[i-1]? = some (qs[i-1]' O1):=aL O1;generalize qs[i-1]' O1=p at n;rw [getD_some n];obtain⟨k,f,h,S,V,k3,k4,k5,k6⟩:=N (i-1) p q n (by rw [mU z];exact d);have s:=dD S;have y:=dD V;exact me_prt (Oo (hi f s) (o f s)) (Oo (hi h y) (o h y)) k3 k4 k5 k6 (D k f h S V)
 .obtain⟨f,f1,f2,-,-,-,-,f7⟩:=x j q d;exact⟨f,f1,f2,f7⟩
theorem Zx6{fr to:Int} : ∀{ps:List Zd},Chn ps->ps≠[]->Ac ps<=fr->fr<to->to<=Bi ps->ps.filter (Nz fr to)≠[]
 | [],_,h,_,_,_=>absurd rfl h
 | g::r,hc,_,d,h2,a=>by
  have j:=hc.lt g O8;have d:g.1.1<=fr:=d;by_cases b:Nz fr to g=true
  .rw [eO b];exact List.cons_ne_nil _ _
  .have c:¬cA fr g<cB to g:=λh=>b (aE h);have e:g.1.2.1<=fr:=by unfold cA cB at c;omega
   rw [gL b]
   match r,hc,a with
   | [],_,a=>
    have a:to<=g.1.2.1:=a;omega
   | h::r,hc,a=>
    have f:=hc.eq 0 g h rfl rfl;refine Zx6 hc.tail (List.cons_ne_nil _ _) (by show h.1.1<=fr;omega) h2 ?_;have:Bi (g::h::r)=Bi (h::r):=by unfold Bi;simp
    rw [<-this];exact a
end Go.Sky

