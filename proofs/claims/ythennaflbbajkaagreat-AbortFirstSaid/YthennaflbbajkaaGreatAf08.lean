/- Rules, arithmetic and contracts: part 9. No conditions but those that each theorem names. -/
import Derived.Test.YthennaflbbajkaaGreatAf07
set_option linter.all false
namespace Go.Sky
variable{xs p c z y q l1 l2:List Int}{i:Nat}{a b d x ov:Int}{u v:Value}{zs:List (SL×List Int)}{s:SL}{f:Nat->Value}{d0:SL×List Int}{M M0:Nat->Prop}
def lessx(xs:List Int)(m:Int):List Int:=Zbk xs (tzl [m])
def Zu0(xs:List Int)(m:Int):Prop:=∃x:Rat,0<=x/\x<=1/\Zc xs x<(m:Rat)
theorem Yb3{m n:Int}(h:Zu0 xs m)(e:m<=n):Zu0 xs n:=by
 obtain⟨x,a,b,c⟩:=h;have:(m:Rat)<=(n):=by exact_mod_cast e
 exact⟨x,a,b,O4⟩
def lws:List Int->Int
 | []=>0
 | c::p=>-(c.natAbs:Int)+lws p
theorem Ygc{n:Nat} : ∀p:List Int,(∀c∈p,c.natAbs<=n)->-((p.length*n:Nat):Int)<=lws p/\lws p<=0
 | [],_=>by show -((0*n):Int)<=0/\(0)<=0;simp
 | c::p,h=>by have g:=Ygc p λd e=>h d (bN _ e);show -(((p.length+1)*n))<=-(c.natAbs)+lws p/\-(c.natAbs)+lws p<=0;grind
theorem Zy1{x:Rat}(e:0<=x)(g:x<=1):∀p:List Int,((lws p:Int):Rat)<=Zc p x
 | []=>by rfl
 | c::p=>by
  have r:=Zy1 e g p;have h:=(Ygc (n:=p.foldl (λm c=>max m c.natAbs) 0) p (λc k=>by
   have:∀(l:List Int) (a:Nat),(a<=l.foldl (λm c=>max m c.natAbs) a)/\∀c∈l,c.natAbs<=l.foldl (λm c=>max m c.natAbs) a:=λl=>by
    induction l with
    | nil=>simp
    | cons d l r=>
     grind
   grind)).2
  have j:((lws p):Rat)<=0:=by exact_mod_cast h
  have k:((-(c.natAbs:Int)))<=(c:Rat):=by exact_mod_cast (show -(c.natAbs)<=c by omega)
  have t:=aG (show 0<=1-x by grind) (show 0<=-((lws p):Rat) by grind);have o:=aG e (show 0<=Zc p x-((lws p)) by grind);show((-(c.natAbs)+lws p:Int))<=(c)+x*Zc p x;grind
theorem Ygf(xs:List Int):¬Zu0 xs (lws xs):=by rintro⟨x,a,b,c⟩;grind [Zy1]
theorem Yll(xs:List Int):Zc xs 0=((cf xs 0:Int):Rat):=by
 cases xs with
 | nil=>rfl
 | cons c p=>show(c)+0*Zc p 0=(c);grind
theorem Yb4(xs:List Int):Zu0 xs (cf xs 0+1):=by refine⟨0,by rfl,by rfl,?_⟩;grind [Yll]
theorem Yma{l h:Int}(e:¬Zu0 xs l)(g:Zu0 xs h):l<h:=by grind [Int.lt_or_le,Yb3]
def Zrk(hs:Sz 40 xs)(i:Nat):(cf xs i).natAbs<1099511627776:=(Qs 40 _).1 (hs i)
theorem Ygb(hs:Sz 40 xs)(o:xs.length<=9)(i:Nat):-9895604649984<=lws (xs.take i)/\lws (xs.take i)<=0:=by
 obtain⟨h,j⟩:=Ygc (n:=1099511627776) _ λc g=>by
  obtain⟨k,m,rfl⟩:=dG.1 g;have l:=Zrk hs k;have e:(xs.take i)[k]=cf xs k:=by unfold cf;grind
  omega
 grind
structure FlI (xs:List Int) (lo hi:Int):Prop where
 l:¬Zu0 xs lo
 h:Zu0 xs hi
 b1:-17592186044416<=lo
 b2:hi<=17592186044416
def FlI.lt{e hi:Int}(h:FlI xs e hi):e<hi:=Yma h.l h.h
theorem FlI.start(hs:Sz 40 xs)(e:xs.length<=9)(hi:xs.length<=i):FlI xs (lws (xs.take i)) (cf xs 0+1):=by have g:=Ygb hs e i;have h:=Zrk hs 0;refine⟨by grind [List.take_of_length_le,Ygf],Yb4 xs,O,O⟩
structure Ef (a:R2):Prop where
 p:0<a.2
 b1:bl a.1.natAbs<=512
 b2:bl a.2.natAbs<=512
def E32.ef{a:R2}(h:E32 a):Ef a:=⟨h.p,aB h.b1 O3,aB h.b2 O3⟩
def plx(a b:R2):Int:=a.1*b.2
def ply(a b:R2):Int:=b.1*a.2
def pld(a b:R2):Int:=a.2*b.2
def plc(xs:List Int)(a b:R2):List Int:=Kp xs (plx a b) (ply a b-plx a b) (pld a b)
def psum(c:List Int)(d j:Nat)(i:Nat):Int:=Yf (λi=>cf c i*(Oa (d-i) (j-i):Int)) i
def plainB(xs:List Int)(a b:R2):Bool:=if xs.length=0 then true else(List.range xs.length).all λj=>decide (0<=psum (plc xs a b) (xs.length-1) j (min (j+1) (plc xs a b).length))
abbrev PTs:=Int×R2×R2
abbrev P0:PTs:=(0,(0,0),(0,0))
abbrev encP9 (z:PTs):Value:= .agg #[.int .i64 z.1,.bool (decide (z.2.1.1<0)),.string (Xn z.2.1.1.natAbs),.bool (decide (z.2.1.2<0)),.string (Xn z.2.1.2.natAbs),.bool (decide (z.2.2.1<0)),.string (Xn z.2.2.1.natAbs),.bool (decide (z.2.2.2<0)),.string (Xn z.2.2.2.natAbs)]
def shw(xs:List Int)(z:PTs):Bool:=if z.1=1 then plainB xs z.2.1 z.2.2 else if xs.length=0\/cmp z.2.1 z.2.2=0 then decide (0<=vlu (Nd xs) z.2.1)else decide (0<aft (Nd xs) z.2.1) && !crb (chx xs) z.2.1 z.2.2
def okpB(xs:List Int)(l:R2)(z:PTs):Bool:=decide (cmp l z.2.1=0) && decide (¬0<cmp z.2.1 z.2.2) && shw xs z
def lst(a:R2)(ps:List PTs)(i:Nat):R2:=if i=0 then a else(ps.getD (i-1) P0).2.2
def chkP(xs:List Int)(ps:List PTs)(a b:R2):Bool:=decide (0<ps.length) && (List.range ps.length).all (λk=>okpB xs (lst a ps k) (ps.getD k P0)) && decide (cmp (lst a ps ps.length) b=0)
def ValP(ps:List PTs):Prop:=∀z∈ps,(z.1=1\/z.1=2)/\Ef z.2.1/\Ef z.2.2
theorem Ef.efit{a:R2}(h:Ef a):Go.Sky.efit a=true:=by have:=h.b1;have:=h.b2;unfold Go.Sky.efit;exact aD O
theorem Xw{b:Bool}(h:(!b)=true):b=false:=by cases b<;>simp_all
theorem Qj{b:Bool}(h:(!b)=false):b=true:=by cases b<;>simp_all
def Hr(f:Nat->Rat):Nat->Rat
 | 0=>0
 | n+1=>Hr f n+f n
def Nr(f:Nat->Rat)(n:Nat):Hr f (n+1)=Hr f n+f n:=rfl
theorem Ms{f g:Nat->Rat} : ∀n,(∀i,i<n->f i=g i)->Hr f n=Hr g n
 | 0,_=>rfl
 | n+1,h=>by rw [Nr,Nr,Ms n λi hi=>h i O,h n O]
theorem Dc(f:Nat->Rat):∀n,Hr f (n+1)=f 0+Hr (λi=>f (i+1)) n
 | 0=>by show 0+f 0=f 0+0;grind
 | n+1=>by rw [Nr,Dc f n,Nr];grind
theorem Zka(f g:Nat->Rat):∀n,Hr (λi=>f i+g i) n=Hr f n+Hr g n
 | 0=>by show(0:Rat)=0+0;grind
 | n+1=>by rw [Nr,Nr,Nr,Zka f g n];grind
theorem Fy(c:Rat)(f:Nat->Rat):∀n,Hr (λi=>c*f i) n=c*Hr f n
 | 0=>by show(0:Rat)=c*0;grind
 | n+1=>by rw [Nr,Nr,Fy c f n];grind
theorem Zls(n:Nat):Oa n 0=1:=by cases n<;>rfl
def chz_s(n k:Nat):Oa (n+1) (k+1)=Oa n k+Oa n (k+1):=rfl
theorem Yjb{u w:Rat}(h:u+w=1):∀n,Hr (λj=>(Oa n j:Rat)*(u^j*w^(n-j))) (n+1)=1
 | 0=>by rw [Dc];show((Oa 0 0:Nat):Rat)*(u^0*w^0)+0=1;rw [Zls,dM,dM];push_cast;grind
 | n+1=>by
  have e:=Yjb h n;rw [Dc];have g:Hr (λi=>(Oa (n+1) (i+1):Rat)*(u^(i+1)*w^(n+1-(i+1)))) (n+1)=Hr (λi=>u*((Oa n i:Rat)*(u^i*w^(n-i)))) (n+1)+Hr (λi=>(Oa n (i+1):Rat)*(u^(i+1)*w^(n-i))) (n+1):=by rw [<-Zka];refine Ms _ λi hi=>?_;rw [chz_s,show n+1-(i+1)=n-i by omega,dA];push_cast;grind
  have k:Hr (λi=>(Oa n (i+1):Rat)*(u^(i+1)*w^(n-i))) (n+1)=Hr (λi=>(Oa n (i+1):Rat)*(u^(i+1)*w^(n-i))) n:=by rw [Nr,Zlr n (n+1) O];push_cast;grind
  have l:w*Hr (λj=>(Oa n j:Rat)*(u^j*w^(n-j))) (n+1)=w^(n+1)+Hr (λi=>(Oa n (i+1):Rat)*(u^(i+1)*w^(n-i))) n:=by
   rw [<-Fy,Dc,Zls];congr 1
   .rw [iP,dM,dA];push_cast;grind
   .refine Ms _ λi hi=>?_;rw [show n-i=(n-(i+1))+1 by omega,dA w];grind
  rw [g,k,Fy,e];rw [e]at l;rw [Zls,dM,iP];push_cast;grind
def Iw(d:Nat)(c:List Int)(j:Nat):Int:=Yf (λi=>cf c i*(Oa (d-i) (j-i):Int)) (j+1)
theorem brS_0(d:Nat)(a:Int)(c:List Int):Iw d (a::c) 0=a:=by unfold Iw;rw [Yr,Fg];show 0+a*((Oa (d-0) (0-0):Nat):Int)=a;rw [show 0-0=0 from rfl,Zls];omega
theorem brS_s(d:Nat)(a:Int)(c:List Int)(j:Nat):Iw (d+1) (a::c) (j+1)=a*(Oa (d+1) (j+1):Int)+Iw d c j:=by unfold Iw;rw [La];congr 1;refine Xj λi hi=>?_;rw [show d+1-(i+1)=d-i by omega,show j+1-(i+1)=j-i by omega];rfl
theorem Yod(d j:Nat):Iw d [] j=0:=by unfold Iw;exact(Zgz (m:=0) (bH _) λi _ _=>by rw [show cf [] i=0 from rfl,cP]).trans (Fg _)
theorem bern{u w:Rat}(h:u+w=1):∀(d:Nat) (c:List Int),c.length<=d+1->Hr (λj=>(Iw d c j:Rat)*(u^j*w^(d-j))) (d+1)=Zc c u
 | d,[],_=>by
  rw [Ms (g:=λ_=>0) (d+1) λi hi=>by rw [Yod];push_cast;grind];show Hr (λ_=>0) (d+1)=0;have:∀n,Hr (λ_=>0) n=0:=λn=>by
   induction n with
   | zero=>rfl
   | succ n k=>rw [Nr,k];grind
  exact this _
 | 0,[a],_=>by rw [Nr,brS_0];show 0+(a:Rat)*(u^0*w^0)=(a:Rat)+u*0;rw [dM,dM];grind
 | 0,a::b::c,hl=>by simp at hl
 | d+1,a::c,hl=>by
  have k:=bern h d c (by simpa using hl);have e:=Yjb h (d+1);rw [Dc]at e;rw [Dc,brS_0];have l:Hr (λi=>(Iw (d+1) (a::c) (i+1):Rat)*(u^(i+1)*w^(d+1-(i+1)))) (d+1)=(a:Rat)*Hr (λi=>(Oa (d+1) (i+1):Rat)*(u^(i+1)*w^(d+1-(i+1)))) (d+1)+u*Hr (λj=>(Iw d c j:Rat)*(u^j*w^(d-j))) (d+1):=by rw [<-Fy,<-Fy,<-Zka];refine Ms _ λi hi=>?_;rw [brS_s,show d+1-(i+1)=d-i by omega,dA];push_cast;grind
  rw [l,k];show _=(a:Rat)+u*Zc c u;rw [Zls]at e;push_cast at e ⊢;grind
theorem Dx(a:Int):∀(c:List Int) (i:Nat),cf (c.map λx=>a*x) i=a*cf c i
 | [],i=>by rw [iL,show cf [] i=0 from rfl,dZ]
 | x::c,0=>rfl
 | x::c,i+1=>Dx a c i
theorem Zvl(c:List Int)(a b e:Int)(u:Rat):Zc (mk (c.length+1) λt=>cf c t*a+(if t=0 then e else cf c (t-1)*b)) u=Zc c u*((a:Rat)+(b:Rat)*u)+(e:Rat):=by
 have h:Zc (mk (c.length+1) λt=>cf c t*a+(if t=0 then e else cf c (t-1)*b)) u=Zc (Ma (c.map λx=>a*x) (e::c.map λx=>b*x)) u:=Ng u _ _ λi=>by
  rw [Mz,Dx,Ku]
  match i with
  | 0=>rw [aO O,aO rfl];show cf c 0*a+e=a*cf c 0+e;rw [iQ]
  | i+1=>
   show _=a*cf c (i+1)+cf (c.map λx=>b*x) i;rw [Dx];by_cases hi:i<c.length
   .rw [aO O,aJ O,lO,iQ,iQ (cf c i)]
   .rw [aJ O,Yw (p:=c) (i:=i+1) O,Yw (p:=c) (i:=i) O];omega
 rw [h,Xh,Zj];show _+((e:Rat)+u*Zc (c.map λx=>b*x) u)=_;rw [Zj];grind
theorem Zr8(p:List Int)(a b d:Int){t u:Rat}(g:t*(d:Rat)=(a:Rat)+(b:Rat)*u):∀j,j+1<=p.length->Zc (Kg p a b d j) u=(d:Rat)^j*Zc (p.drop (p.length-1-j)) t
 | 0,h=>by
  have e:p.drop (p.length-1-0)=[cf p (p.length-1)]:=by rw [iP,dU O,List.drop_of_length_le O];congr 1;unfold cf;rw [aN,aM O];rfl
  rw [Dl,e,dM,Pt,Pt];grind
 | j+1,h=>by
  have k:=Zr8 p a b d g j O;have e:p.drop (p.length-1-(j+1))=cf p (p.length-2-j)::p.drop (p.length-1-j):=by rw [dU O,show p.length-1-(j+1)+1=p.length-1-j by omega];congr 1;unfold cf;rw [aN,aM O];show p[p.length-1-(j+1)]=p[p.length-2-j];congr 1;omega
  rw [Ycu,Zvl,k,e,<-g];show _=(d:Rat)^(j+1)*((cf p (p.length-2-j):Rat)+t*Zc (p.drop (p.length-1-j)) t);rw [dA];push_cast;rw [dA];generalize (d:Rat)^j=D;grind
theorem Zj8(a b d:Int){t u:Rat}(g:t*(d:Rat)=(a:Rat)+(b:Rat)*u)(e:p.length≠0):Zc (Kp p a b d) u=(d:Rat)^(p.length-1)*Zc p t:=by unfold Kp;rw [aJ e,Ng u (tzl _) _ (λi=>Hc _ i),Zr8 p a b d g (p.length-1) O,jE,jP]
def Nl(c:List Int)(a b d:Int):List Int:=Yy (Kp (tzl c) a b d) (d^(6-c.length))
def Zlx(h:a.natAbs<=3600000):bl a.natAbs<=22:=(Qs 22 _).2 (aY h O3)
theorem Znx(h:bl d.natAbs<=22):∀k,k<=5->bl (d^k).natAbs<=132
 | 0,_=>by rw [eK];decide
 | k+1,g=>by
  have e:∀k,bl (d^k).natAbs<=22*k+1:=λk=>by
   induction k with
   | zero=>rw [eK];decide
   | succ k j=>rw [eC];have:=Xx (d^k) d;omega
  have:=e (k+1);omega
theorem Zqi(h:∀a∈c,My a)(D:1<=c.length/\c.length<=6)(w:a.natAbs<=3600000)(B:b.natAbs<=3600000)(P:1<=d/\d<=3600000) :
  Vp (tzl c)/\¬Zlo (tzl c) a b d/\Vp (Kp (tzl c) a b d)/\bl (d^(6-c.length)).natAbs<=132/\(∀i,bl (cf (Kp (tzl c) a b d) i*d^(6-c.length)).natAbs<=65536)/\Vp (Nl c a b d)/\Sz 1000 (Nl c a b d)/\(Nl c a b d).length<=6:=by
 have H:(tzl c).length<=6:=aB (Hm c) D.2;have n:Sz 64 (tzl c):=(ab_in h).sz O3;have o:=Zlx w;have r:=Zlx B;have g:bl d.natAbs<=22:=Zlx O;have l:=cp_not (cp_nf n o r g O O);have hs:Sz 300 (Kp (tzl c) a b d):=by
  have h:=Zij (x:=a) (y:=b) (z:=d) (m:=22) n o r g ((tzl c).length-1);unfold Kp;split
  .exact Sz.nil _
  .refine(Sz.tzl h).mono ?_;have:((tzl c).length-1)*(22+1)<=5*23:=aS O O;omega
 have G:Tr (Kp (tzl c) a b d):=by
  unfold Kp;split
  .exact .inl rfl
  .exact Qp _
 have j:(Kp (tzl c) a b d).length<=6:=aB (Zet _ _ _ _) H;have F:=Znx g (6-c.length) O;have t:∀i,bl (cf (Kp (tzl c) a b d) i*d^(6-c.length)).natAbs<=500:=λi=>by have I:=hs i;have N:=Xx (cf (Kp (tzl c) a b d) i) (d^(6-c.length));omega
 have e:Sz 1000 (Nl c a b d):=λi=>by unfold Nl;rw [Qn];have:=t i;omega
 have k:(Nl c a b d).length<=6:=aB Lv j;exact⟨⟨n.mono O,Qp _,O⟩,l,⟨hs.mono O,G,O⟩,F,λi=>by have:=t i;omega,⟨e.mono O,Nq _ _,O⟩,e,k⟩
def Zsl(zs:List (SL×List Int)):List (SL×List Int):=zs ++ List.replicate (3-zs.length) ((none,0,0),[])
theorem Ygi(h:zs.length<=3):(Zsl zs).length=3:=by unfold Zsl;rw [cF,aT];omega
theorem Yfj{z:SL×List Int}(hi:i<3)(h:zs.length=i):(Zsl zs).set i z=Zsl (zs ++ [z]):=by subst h;unfold Zsl;rw [List.set_append_right _ _ (aI _),jE,cF,fQ];congr 1;obtain⟨k,e⟩:∃k,3-zs.length=k+1:=⟨2-zs.length,O⟩;rw [e,iB,lJ,show 3-(zs.length+[z].length)=k by simp;omega];rfl
theorem Zuh{t:Nat}{f:Nat->List Int}(g:zs.length=i)(h:∀t,t<i->(zs.getD t d0).2=f t)(j:t<i+1):((zs ++ [(s,f i)]).getD t d0).2=f t:=by
 subst g;rw [aN];rcases aC.1 j with e|e
 .rw [eX e,<-aN];exact h t e
 .subst e;simp
theorem Ydk{x:List Int}(k:zs.length=3)(h:∀t,t<3->(zs.getD t d0).2=Nl (Yg t x y z) a b d):∃l m n:SL,zs=[(l,Nl x a b d),(m,Nl y a b d),(n,Nl z a b d)]:=by
 match zs,k with
 | [o,r,w],_=>
  have e:=h 0 O3;have g:=h 1 O3;have j:=h 2 O3;simp [Yg]at e g j;exact⟨o.1,r.1,w.1,by rw [<-e,<-g,<-j]⟩
def Yib:List Int->List Int
 | []=>[]
 | a::p=>a::0::Yib p
theorem Zoq(x:Rat):∀p:List Int,Zc (Yib p) x=Zc p (x*x)
 | []=>rfl
 | a::p=>by show(a:Rat)+x*(((0:Int):Rat)+x*Zc (Yib p) x)=(a:Rat)+x*x*Zc p (x*x);rw [Zoq x p];push_cast;grind
theorem Zwz:∀(p:List Int) (i:Nat),cf (Yib p) (2*i)=cf p i
 | [],i=>rfl
 | a::p,0=>rfl
 | a::p,i+1=>by show cf (0::Yib p) (2*i+1)=cf p i;exact Zwz p i
theorem sq_nn(x:Rat):0<=x*x:=by
 rcases(show 0<=x\/x<=0 by grind)with h|h
 .exact aG h h
 .have:=aG (show 0<=-x by grind) (show 0<=-x by grind);grind
theorem Zr7(h:∀x:Rat,0<=x->Zc p x=Zc q x)(i:Nat):cf p i=cf q i:=by rw [<-Zwz p,<-Zwz q];exact Ml (λx=>by rw [Zoq,Zoq];exact h _ (sq_nn x)) _
theorem Ziq(f:Nat->Int)(x:Rat):∀n,Zc (mk n f) x=Hr (λj=>(f j:Rat)*x^j) n
 | 0=>rfl
 | n+1=>by rw [Yl9,Zr6,Ziq f x n,Yz,Nr]
def NN(p:List Int):Prop:=∀i,0<=cf p i
theorem NN.smul{c:Int}(e:0<=c)(h:NN p):NN (p.map λa=>c*a):=λi=>by rw [Dx];exact cZ e (h i)
theorem NN.add(e:NN p)(g:NN q):NN (Ma p q):=λi=>by rw [Mz];exact Int.add_nonneg (e i) (g i)
theorem NN.lmul{q:List Int}(e:NN q):∀{p:List Int},NN p->NN (lmul p q)
 | [],_=>λi=>by show 0<=cf [] i;rw [show cf [] i=0 from rfl];exact eV _
 | c::p,h=>NN.add (NN.smul (h 0) e) λi=>by
  match i with
  | 0=>exact eV _
  | i+1=>exact NN.lmul e (p:=p) (λj=>h (j+1)) i
def lpw(l:List Int):Nat->List Int
 | 0=>[1]
 | k+1=>lmul l (lpw l k)
theorem Zon(l:List Int)(x:Rat):∀k,Zc (lpw l k) x=Zc l x^k
 | 0=>by rw [dM];show((1:Int):Rat)+x*0=1;push_cast;grind
 | k+1=>by rw [show lpw l (k+1)=lmul l (lpw l k)from rfl,Zz,Zon l x k,dA,kG]
theorem NN.lpw{l:List Int}(h:NN l):∀k,NN (lpw l k)
 | 0=>λi=>by
  show 0<=cf [1] i
  match i with
  | 0=>exact Int.one_nonneg
  | i+1=>exact eV _
 | k+1=>NN.lmul (NN.lpw h k) h
theorem NN.two(e:0<=a)(g:0<=b):NN [a,b]:=λi=>by
 match i with
 | 0=>exact e
 | 1=>exact g
 | i+2=>exact eV _
def sQ(f:Nat->Int)(W:Nat->List Int):Nat->List Int
 | 0=>[]
 | k+1=>Ma (sQ f W k) ((W k).map λa=>f k*a)
theorem Zvj(f:Nat->Int)(W:Nat->List Int)(x:Rat):∀k,Zc (sQ f W k) x=Hr (λi=>(f i:Rat)*Zc (W i) x) k
 | 0=>rfl
 | k+1=>by rw [show sQ f W (k+1)=Ma (sQ f W k) ((W k).map λa=>f k*a)from rfl,Xh,Zvj f W x k,Zj,Nr]
theorem sQ_le{f g:Nat->Int}{W:Nat->List Int}{B:Int}(l:∀i,NN (W i)):∀k,(∀i,i<k->((f i).natAbs:Int)<=B*g i)->∀j,((cf (sQ f W k) j).natAbs:Int)<=B*cf (sQ g W k) j
 | 0,_,j=>by show((cf [] j).natAbs:Int)<=B*cf [] j;rw [show cf [] j=0 from rfl];simp
 | k+1,h,j=>by
  have w:=sQ_le l k (λi hi=>h i O) j;have m:=h k O;show((cf (Ma (sQ f W k) ((W k).map λa=>f k*a)) j).natAbs:Int)<=B*cf (Ma (sQ g W k) ((W k).map λa=>g k*a)) j;rw [Mz,Mz,Dx,Dx,jW,<-fR];have n:=l k j;have o:((f k*cf (W k) j).natAbs:Int)<=B*g k*cf (W k) j:=by rw [bQ];push_cast;have e:((cf (W k) j).natAbs:Int)=cf (W k) j:=O;rw [e];exact eN m n
  generalize B*g k*cf (W k) j=t at *;generalize f k*cf (W k) j=s at *;generalize B*cf (sQ g W k) j=r at *;omega
theorem Zkq(a b:Rat):∀n:Nat,(a*b)^n=a^n*b^n
 | 0=>by rw [dM,dM,dM];grind
 | n+1=>by rw [dA,dA,dA,Zkq a b n];grind
theorem Ya1(a:Rat)(m:Nat):∀n:Nat,a^(m+n)=a^m*a^n
 | 0=>by rw [fY,dM];grind
 | n+1=>by rw [<-iD,dA,dA,Ya1 a m n];grind
theorem Yjc{U V S:Rat}(h:U+V=S)(m:S≠0){d:Nat}(l:c.length<=d+1):Hr (λj=>(Iw d c j:Rat)*(U^j*V^(d-j))) (d+1)=S^d*Zc c (U/S):=by
 rw [<-bern (u:=U/S) (w:=V/S) (by rw [<-h];grind) d c l,<-Fy];refine Ms _ λj n=>?_;have e:U^j=S^j*(U/S)^j:=by rw [<-Zkq];congr 1;grind
 have g:V^(d-j)=S^(d-j)*(V/S)^(d-j):=by rw [<-Zkq];congr 1;grind
 have k:S^d=S^j*S^(d-j):=by rw [<-Ya1];congr 1;omega
 rw [e,g,k];grind
theorem Yav{U V S:Rat}(h:U+V=S)(l:S≠0)(d:Nat):Hr (λj=>(Oa d j:Rat)*(U^j*V^(d-j))) (d+1)=S^d:=by
 have:=Yjb (u:=U/S) (w:=V/S) (by rw [<-h];grind) d;rw [<-Rat.mul_one (S^d),<-this,<-Fy];refine Ms _ λj m=>?_;have e:U^j=S^j*(U/S)^j:=by rw [<-Zkq];congr 1;grind
 have g:V^(d-j)=S^(d-j)*(V/S)^(d-j):=by rw [<-Zkq];congr 1;grind
 have k:S^d=S^j*S^(d-j):=by rw [<-Ya1];congr 1;omega
 rw [e,g,k];grind
theorem Zx9(a b:Int)(x:Rat):Zc [a,b] x=(a:Rat)+(b:Rat)*x:=by show(a:Rat)+x*((b:Rat)+x*0)=_;grind
theorem onepw(n:Nat):(1:Rat)^n=1:=by
 induction n with
 | zero=>rw [dM]
 | succ n e=>rw [dA,e];grind
theorem Zc3(d:Int)(n:Nat):((d^n:Int):Rat)=(d:Rat)^n:=by
 induction n with
 | zero=>rw [eK,dM];rfl
 | succ n e=>rw [eC,dA,<-e];push_cast;rfl
def Wij(a e d:Int)(n i:Nat):List Int:=lmul (lpw [a,e] i) (lpw [d-a,d-e] (n-i))
def Wij_nn{e:Int}(g:0<=a)(h:0<=e)(j:a<=d)(k:e<=d)(n i:Nat):NN (Wij a e d n i):=NN.lmul (NN.lpw (NN.two O O) _) (NN.lpw (NN.two g h) _)
theorem Zya(a e d:Int)(n i:Nat)(x:Rat):Zc (Wij a e d n i) x=((a:Rat)+(e:Rat)*x)^i*(((d-a:Int):Rat)+((d-e:Int):Rat)*x)^(n-i):=by unfold Wij;rw [Zz,Zon,Zon,Zx9,Zx9]
theorem Yof {X:List Int} {n m:Nat} (hl:c.length<=n+1) (hX:X.length<=n+1) {B:Int} (ha:0<=a) (hb:0<=b) (N:a+b<=d) (R:0<d) (hr:∀t u:Rat,t*(d:Rat)=(a:Rat)+(b:Rat)*u->Zc X u=(d:Rat)^m*Zc c t)
  (hB:∀j,j<n+1->((Iw n c j).natAbs:Int)<=B*(Oa n j:Int)):∀j,j<n+1->((Iw n X j).natAbs:Int)<=B*d^m*(Oa n j:Int):=by
 have a0:(0:Rat)<(d:Rat):=by exact_mod_cast R
 have k:∀x:Rat,0<=x->(x+1)≠0:=λx e h=>O4;have o:∀x:Rat,((a:Rat)+((a+b:Int):Rat)*x)+(((d-a:Int):Rat)+((d-(a+b):Int):Rat)*x)=(d:Rat)*(x+1):=λx=>by push_cast;grind
 have l:∀x:Rat,0<=x->(d:Rat)*(x+1)≠0:=λx e h=>by have:=aV a0 (show(0:Rat)<x+1 by grind);grind
 have a1:∀x:Rat,0<=x->Zc (sQ (λi=>(Oa n i:Int)) (Wij a (a+b) d n) (n+1)) x=Zc (mk (n+1) λj=>d^n*(Oa n j:Int)) x:=λx e=>by
  rw [Zvj,Ziq];have F:=Yav (o x) (l x e) n;have G:=Yav (U:=x) (V:=1) (S:=x+1) rfl (k x e) n;have H:Hr (λi=>(((Oa n i:Nat):Int):Rat)*Zc (Wij a (a+b) d n i) x) (n+1)=((d:Rat)*(x+1))^n:=by rw [<-F];exact Ms _ λj w=>by rw [Zya];push_cast;rfl
  rw [H,Zkq,<-G,<-Fy];refine Ms _ λj w=>?_;rw [onepw];push_cast;rw [<-Zc3];push_cast;grind
 have a2:∀x:Rat,0<=x->Zc (mk (n+1) λj=>d^n*Iw n X j) x=Zc ((sQ (Iw n c) (Wij a (a+b) d n) (n+1)).map λq=>d^m*q) x:=λx e=>by
  rw [Zj,Zvj,Ziq];have F:=Yjc (o x) (l x e) hl;have G:=Yjc (U:=x) (V:=1) (S:=x+1) rfl (k x e) hX;have H:Hr (λi=>((Iw n c i:Int):Rat)*Zc (Wij a (a+b) d n i) x) (n+1)=((d:Rat)*(x+1))^n*Zc c (((a:Rat)+((a+b:Int):Rat)*x)/((d:Rat)*(x+1))):=by rw [<-F];exact Ms _ λj w=>by rw [Zya]
  have e4:Hr (λj=>((d^n*Iw n X j:Int):Rat)*x^j) (n+1)=(d:Rat)^n*Hr (λj=>(Iw n X j:Rat)*(x^j*1^(n-j))) (n+1):=by rw [<-Fy];refine Ms _ λj w=>?_;rw [onepw,<-Zc3];push_cast;grind
  rw [H,e4,G,hr (((a:Rat)+((a+b:Int):Rat)*x)/((d:Rat)*(x+1))) (x/(x+1)) ?_,Zkq,Zc3]
  .grind
  .have I:=k x e;have D:(d:Rat)≠0:=O4;push_cast;grind
 have P:=Zr7 a1;have Q:=Zr7 a2;intro j w;have I:=P j;have D:=Q j;rw [Ku,aO w]at I D;rw [Dx]at D;have h3:=sQ_le (f:=Iw n c) (g:=λi=>(Oa n i:Int)) (W:=Wij a (a+b) d n) (B:=B) (Wij_nn ha O O N n) (n+1) hB j;rw [I]at h3;have Z:0<d^n:=iI R;have Y:0<=d^m:=eA (iI R);have h4:((d^n*Iw n X j).natAbs:Int)=d^n*((Iw n X j).natAbs:Int):=by rw [bQ];push_cast;rw [show((d^n).natAbs:Int)=d^n by omega]
 have h5:((d^m*cf (sQ (Iw n c) (Wij a (a+b) d n) (n+1)) j).natAbs:Int)=d^m*((cf (sQ (Iw n c) (Wij a (a+b) d n) (n+1)) j).natAbs:Int):=by rw [bQ];push_cast;rw [show((d^m).natAbs:Int)=d^m by omega]
 have h6:=fW h3 Y;rw [<-h5,<-D,h4]at h6;refine jT (a:=d^n) ?_ Z;refine kH h6 (Int.le_of_eq ?_);generalize d^n=p;generalize d^m=q;generalize (Oa n j:Int)=r;grind
theorem Ycc{s:Bool}(j:x.natAbs<=9223372036854775807)(h:sg s x):(x=0/\dg U x.natAbs=[])\/(s=true/\x<0/\dg U x.natAbs=[x.natAbs])\/(s=false/\0<x/\dg U x.natAbs=[x.natAbs]):=by
 have g:x.natAbs≠0->dg U x.natAbs=[x.natAbs]:=λk=>by have e:x.natAbs<U:=aY j O3;rw [Zcu O3 O,bG e,dS e];rfl
 rcases mA x 0 with q|q|q
 .right;left;refine⟨?_,q,g O⟩;cases s
  .have:=h.2 rfl;omega
  .rfl
 .subst q;exact .inl ⟨rfl,rfl⟩
 .right;right;refine⟨?_,q,g O⟩;cases s
  .rfl
  .have:=h.1 rfl;omega
theorem int_wn(e:x.natAbs<=9223372036854775807)(h:x<0):IntKind.i64.wrap (18446744073709551616-(x.natAbs:Int))=x:=by simp only [IntKind.wrap,IntKind.bits,IntKind.signed];simp;omega
theorem int_wp(e:x.natAbs<=9223372036854775807)(h:0<x):IntKind.i64.wrap ((([x.natAbs]:List Nat).getD 0 0:Nat):Int)=x:=by show IntKind.i64.wrap (x.natAbs:Int)=x;rw [Zeg ⟨O,O⟩];omega
theorem int_d0(e:x.natAbs<=9223372036854775807):¬((([x.natAbs]:List Nat).getD 0 0:Nat):Int)>=9223372036854775808:=by show ¬(x.natAbs:Int)>=_;omega
theorem Ygm(e:x.natAbs<=9223372036854775807):¬((([x.natAbs]:List Nat).getD 0 0:Nat):Int)>9223372036854775808:=by show ¬(x.natAbs:Int)>_;omega
theorem int_m(h:x<0)(e:x.natAbs<=9223372036854775807):(-((([x.natAbs]:List Nat).getD 0 0:Nat):Int))%18446744073709551616=18446744073709551616-(x.natAbs:Int):=by show(-(x.natAbs:Int))%_=_;omega
abbrev Yha (o:Nat) (m:Int) (g:Ze):List Int:=formP o m g.1.2.2 (g.1.2.1-g.1.1) g.2.1.2 g.2.2.1.2 g.2.2.2.2
def Ygk(o:Nat)(ps:List Ze)(m:Int):Bool:=ps.all λg=>!Zes (Yha o m g)
def Ykz(p:Nat->Bool):Nat->Nat->Nat->Nat
 | 0,i,_=>i
 | f+1,i,j=>if i<j then(if p ((i+j)/2)then Ykz p f i ((i+j)/2)else Ykz p f ((i+j)/2+1) j)else i
def Ykr(o:Nat)(ps:List Ze):Nat:=Ykz (λn=>Ygk o ps (n:Int)) 14 0 10001
def joG(g h:Ze):Bool:=joinB g.1.1 g.1.2.1 g.1.2.2 g.2.1.2 g.2.2.1.2 g.2.2.2.2 h.1.1 h.1.2.1 h.1.2.2 h.2.1.2 h.2.2.1.2 h.2.2.2.2
def joAll(ps:List Ze):Bool:=(List.range ps.length).all λi=>decide (i=0) || joG (ps.getD (i-1) G0) (ps.getD i G0)
def topV(ps:List Ze):Int×Int×Int:=
 if 10000<Ykr 1 ps\/10000<Ykr 2 ps then(0,0,3)else if joAll ps then((Ykr 1 ps:Int),(Ykr 2 ps:Int),0)else(0,0,10)
theorem Zyj{ps:List Ze}(l:∀g∈ps,Gin g)(k:Xc ps=true):∀g∈ps,SgG g:=λg j=>by obtain⟨i,hi,e⟩:=dG.1 j;have h:=Cz ((Oi k).1 i hi);rw [aN,aM hi,eY,e]at h;exact Ie (l g j) h
def g8(g:Ze):Bool:=decide (g.2.1.2.length<=8) && decide (g.2.2.1.2.length<=8) && decide (g.2.2.2.2.length<=8)
def fewB(ps:List Ze)(m:Nat):Bool:=(List.range ps.length).all (λi=>decide (m<i) || g8 (ps.getD i G0)) && decide (ps.length<=m)
def axc(c:List Int):Bool:=!(decide (1<=c.length) && decide (c.length<=6) && !(decide (1<c.length) && decide (c.getD (c.length-1) 0=0)))
variable {P:Program} {N:Nat} {sc:Nat->Prop} {env env':Qk} {H H':Hp}
def Cl(c:List Int)(g:Int):List Int:=if c.length=0 then [0]else c.map (· / g)
def mdO(ov g:Int):Int:=if ov/g<=4294967296 then ov/g else 0
def mdL(ov g:Int)(c:List Int):List Int:=if ov/g<=4294967296 then Cl c g else []
def Fp(ov:Int)(x y z:List Int):Int:=Lm ov (Ij 3 x y z)
structure Mdh (ov:Int) (x y z:List Int):Prop where
 o:0<ov
 b:bl ov.natAbs<=1000
 s:∀i,Sz 1000 (Yg i x y z)
 l:∀i,(Yg i x y z).length<=6
 c:∀i k,(cf (Yg i x y z) k).natAbs<=ov.natAbs*2146435072
def Zf6:∀(l:List Int) (g:Int),0<=g->0<=Lm g l
 | [],_,h=>h
 | x::l,g,h=>Zf6 l _ (jQ _)
theorem Zzi:∀(l:List Int) (g:Int),Lm g l∣g/\∀x∈l,Lm g l∣x
 | [],g=>⟨kF _,λx h=>nomatch h⟩
 | x::l,g=>by
  obtain⟨j,k⟩:=Zzi l _;exact⟨fB j (Int.gcd_dvd_left ..),λy e=>by
   rcases aU.1 e with rfl|e
   .exact fB j (iN ..)
   .exact k y e⟩
theorem Zvv{x:List Int}(hi:i<3)(h:a∈Yg i x y z):a∈Ij 3 x y z:=by
 match i,hi with
 | 0,_=>exact cW.2 (.inl (cW.2 (.inl h)))
 | 1,_=>exact cW.2 (.inl (cW.2 (.inr h)))
 | 2,_=>exact cW.2 (.inr h)
theorem Mdh.g{x:List Int}(h:Mdh ov x y z):0<Fp ov x y z/\Fp ov x y z∣ov/\∀i,i<3->∀a∈Yg i x y z,Fp ov x y z∣a:=by
 obtain⟨e,g⟩:=Zzi _ ov;have j:=Zf6 (Ij 3 x y z) ov (eA h.o);have l:=h.o;refine⟨?_,e,λi hi a k=>g a (Zvv hi k)⟩;rcases Int.lt_or_eq_of_le j with q|q
 .exact q
 .exact absurd (Int.zero_dvd.1 (q▸e)) O
theorem Mdh.fc{x:List Int}(h:Mdh ov x y z)(i k:Nat):bl (Lm (Lm ov (Ij i x y z)) ((Yg i x y z).take k)).natAbs<=1000:=by
 have g:∀i,∀a∈Yg i x y z,bl a.natAbs<=1000:=λi a e=>by obtain⟨j,r⟩:=eO.1 e;have:=h.s i j;unfold cf at this;grind
 have o:∀a∈Ij i x y z,bl a.natAbs<=1000:=λa e=>by unfold Ij at e;have l:=g 0;have m:=g 1;have n:=g 2;simp only [Yg]at l m n;grind
 exact Zgm (λa e=>g i a (fP e)) (Zgm o h.b)
theorem Mdh.fit{x:List Int}(h:Mdh ov x y z)(hs:ov/Fp ov x y z<=4294967296)(hi:i<3)(k:Nat):((Yg i x y z).getD k 0/Fp ov x y z).natAbs<=9223372036854775807:=by
 obtain⟨m,⟨s,e⟩,n⟩:=h.g;have o:Fp ov x y z∣(Yg i x y z).getD k 0:=by
  rcases aW k _ with q|q
  .exact n i hi _ (Zk q)
  .rw [aN,cQ q];exact jF _
 obtain⟨t,l⟩:=o;have j:((Yg i x y z).getD k 0).natAbs<=ov.natAbs*2146435072:=h.c i k;generalize Fp ov x y z=g at *;rw [l,fA _ O];rw [e,fA _ O]at hs;rw [l,e,bQ,bQ,eR]at j;have w:=Nat.le_of_mul_le_mul_left j O;have B:=h.o;have r:0<s:=by
  by_cases q:0<s
  .omega
  .have:=fG (eA m) (show s<=0 by omega);omega
 omega
def mdO_t{g:Int}(h:ov/g<=4294967296):mdO ov g=ov/g:=aO h
def Zna{g:Int}(h:ov/g<=4294967296):mdL ov g c=Cl c g:=aO h
def mdO_f{g:Int}(h:¬ov/g<=4294967296):mdO ov g=0:=aJ h
def Yf7{g:Int}(h:¬ov/g<=4294967296):mdL ov g c=[]:=aJ h
def dvL_0{g:Int}(h:c.length=0):Cl c g=[0]:=aO h
def dvL_n{g:Int}(h:c.length≠0):Cl c g=c.map (· / g):=aJ h
theorem Yf9{g:Int}{k:Nat}(h:k<c.length):(c.take k).map (· / g) ++ [c.getD k 0/g]=(c.take (k+1)).map (· / g):=by rw [Pr 0 _ _ h,dW];rfl
abbrev C6 (a b c:Value) (f:Nat->Value):Array Value:=#[a,b,c,f 0,f 1,f 2]
def upd(f:Nat->Value)(i:Nat)(v:Value)(j:Nat):Value:=if j=i then v else f j
theorem c6_get{a b c:Value}(h:i<3):(C6 a b c f)[3+i]? = some (f i):=by
 match i,h with
 | 0,_=>rfl
 | 1,_=>rfl
 | 2,_=>rfl
theorem Yi3{a b c:Value}(h:i<3):(C6 a b c (upd f i v))[3+i]? = some v:=by rw [c6_get h];unfold upd;simp
theorem c6_lay{a b c:Value}(h:i<3):Gt (C6 a b c (upd f i u)) (3+i) [v]=C6 a b c (upd f i v):=by
 match i,h with
 | 0,_=>rfl
 | 1,_=>rfl
 | 2,_=>rfl
theorem Zw1{a b c:Value}{g:Nat->Value}(h:∀j,j<3->f j=g j):C6 a b c f=C6 a b c g:=by grind
theorem p3_sel{b:Nat}(h:i<3):Yg i (Value.pointer (some ⟨b,3,none⟩)) (Value.pointer (some ⟨b,4,none⟩)) (Value.pointer (some ⟨b,5,none⟩))= .pointer (some ⟨b,3+i,none⟩):=by
 match i,h with
 | 0,_=>rfl
 | 1,_=>rfl
 | 2,_=>rfl
theorem c3_get{a b c:Value}(h:i<3):(#[a,b,c]:Array Value)[0+i*1]? = some (Yg i a b c):=by
 match i,h with
 | 0,_=>rfl
 | 1,_=>rfl
 | 2,_=>rfl
def fz(zs:List (SL×List Int))(j:Nat):Value:=Yx (zs.getD j ((none,0,0),[])).1
theorem fz_upd(h:zs.length=i)(j:Nat):fz zs j=upd (fz zs) i (.slice none 0 0) j:=by
 unfold upd;split
 .rename_i e;subst e;subst h;unfold fz;simp
 rfl
theorem Zzk(h:zs.length=i)(j:Nat):upd (fz zs) i (Yx s) j=fz (zs ++ [(s,c)]) j:=by unfold upd fz;grind
def Zsw{t:Nat}{f:Nat->List Int}(g:zs.length=i)(h:∀t,t<i->(zs.getD t d0).2=f t)(e:c=f i)(j:t<i+1):((zs ++ [(s,c)]).getD t d0).2=f t:=e▸Zuh g h j
theorem mds_of{x:List Int}{g:Int}(l:zs.length=3)(h:∀t,t<3->(zs.getD t d0).2=Cl (Yg t x y z) g):∃m n o:SL,zs=[(m,Cl x g),(n,Cl y g),(o,Cl z g)]:=by
 match zs,l with
 | [r,w,B],_=>
  have e:=h 0 O;have j:=h 1 O;have k:=h 2 O;simp [Yg]at e j k;grind
def Yei : 0<(a-b).sign↔¬a<=b:=O7
theorem t_st6 (i:Nat)(n:Nat)  {o:Oper} {x y:Operand} {t k:TypeId} {b:Nat} {g h j:Value}   {w0:World}  (I:o.op= .store t x y) (D:o.dst=none)
  (R:ev env x=some (.pointer (some ⟨b,3+n,none⟩))) (S:ev env y=some v) (r:lk H i=some (box b k (C6 g h j (upd f n u)))) (e:i≠0) (F:∀w,(sizeOf t).run P w= .ok 1 w) (V:n<3) (m:One N sc env H v)
  (l:lk H 0=some (Zt w0 M0)) (Q:∀b,w0.heap.size<=b->sc b) (B:M b) :
  T P N sc M o env H (G:=Unit) (λ_=>True) (λ_=>env) (λ_=>(i,box b k (C6 g h j (upd f n v)))::H):=by
 have:=t_stp1 I D R S r e F (by simp<;>omega) m l Q B;grind [c6_lay]
theorem bl_dlq{n:Nat}(h:bl a.natAbs<=n)(j:0<b)(e:0<=a):bl (a/b).natAbs<=n:=(Qs n _).2 (aY (by have g:=jZ b e;grind [Int.ediv_nonneg,Int.le_of_lt]) ((Qs n _).1 h))
theorem Yg7{n:Nat}(h:∀z∈zs,∀b,(Yx z.1).ownBlock=some b->n<=b)(e:∀b,(Yx s).ownBlock=some b->n<=b):∀z∈zs ++ [(s,c)],∀b,(Yx z.1).ownBlock=some b->n<=b:=λz g=>by grind
theorem fr3{n:Nat}{g j k:SL}{l m o l3:List Int}(h:∀z∈[(g,l),(j,m),(k,o)],∀b,(Yx z.1).ownBlock=some b->n<=b):∀p∈[Yn 1 Xi (Yx g) l1,Yn 1 Xi (Yx j) l2,Yn 1 Xi (Yx k) l3],∀b,p.fp b->n<=b:=λp r b e=>by
 simp only [aU,cT,fF]at r;rcases r with rfl|rfl|rfl
 .exact h (g,l) O7 b e.2
 .exact h (j,m) O7 b e.2
 .exact h (k,o) O7 b e.2
theorem fr0{n:Nat}{l3:List Int} : ∀p∈[Yn 1 Xi (Yx (none,0,0)) l1,Yn 1 Xi (Yx (none,0,0)) l2,Yn 1 Xi (Yx (none,0,0)) l3],∀b,p.fp b->n<=b:=λp e b g=>by simp only [aU,cT,fF]at e;rcases e with rfl|rfl|rfl<;>cases g.2
end Go.Sky
namespace Go.Sky
variable{p:Ze->Bool}{i b k off:Nat}{d ov a G m:Int}{c xs:List Int}{x y:Operand}{t tb:TypeId}{zs:List Ze}{o:Oper}{r:List Value}{v:Value}{w0 w:World}{M0:Nat->Prop}{kd:IntKind}
abbrev Zht:=(Int×Int×Int)×List Int×List Int×List Int
def Ds(g:Ze):Zht:=(g.1,g.2.1.2,g.2.2.1.2,g.2.2.2.2)
abbrev cA (fr:Int) (g:Ze):Int:=max fr g.1.1
abbrev cB (e:Int) (g:Ze):Int:=min e g.1.2.1
abbrev cX (fr e:Int) (g:Ze) (c:List Int):List Int:=Nl c (cA fr g-g.1.1) (cB e g-cA fr g) (g.1.2.1-g.1.1)
abbrev cO (g:Ze):Int:=g.1.2.2*(g.1.2.1-g.1.1)^5
def cG(fr e:Int)(g:Ze):Int:=Fp (cO g) (cX fr e g g.2.1.2) (cX fr e g g.2.2.1.2) (cX fr e g g.2.2.2.2)
def Lp(fr e:Int)(g:Ze):Bool:=decide (cA fr g<cB e g)
def Zgj(fr e:Int)(g:Ze):Bool:=decide (cO g/cG fr e g<=4294967296)
def Zwr(fr e:Int)(g:Ze):Zht:=((cA fr g,cB e g,mdO (cO g) (cG fr e g)),mdL (cO g) (cG fr e g) (cX fr e g g.2.1.2),mdL (cO g) (cG fr e g) (cX fr e g g.2.2.1.2),mdL (cO g) (cG fr e g) (cX fr e g g.2.2.2.2))
def MdG(fr e:Int)(g:Ze):Prop:=Mdh (cO g) (cX fr e g g.2.1.2) (cX fr e g g.2.2.1.2) (cX fr e g g.2.2.2.2)
theorem fl_get{ps:List Ze}{d:Ze}(hi:i<ps.length)(f:p (ps.getD i d)=true):(ps.filter p)[((ps.take i).filter p).length]? = some (ps.getD i d):=by
 have h:=fJ i ps;have e:ps.drop i=ps.getD i d::ps.drop (i+1):=by rw [aN,aM hi,eY];exact dU hi
 conv=>lhs;arg 1;rw [<-h,e]
 rw [fI,eG f];simp
theorem fl_t{ps:List Ze}{d:Ze}(hi:i<ps.length)(e:p (ps.getD i d)=true):((ps.take (i+1)).filter p).length=((ps.take i).filter p).length+1:=by rw [Pr d _ _ hi,fI,eG e,cF];rfl
theorem fl_f{ps:List Ze}{d:Ze}(hi:i<ps.length)(e:p (ps.getD i d)=false):((ps.take (i+1)).filter p).length=((ps.take i).filter p).length:=by rw [Pr d _ _ hi,fI,fV (by rw [e];exact bF),cF];rfl
def Zm2(h:1<=d/\d<=3600000):bl (d^5).natAbs<=132:=Znx (Zlx O) 5 (aI _)
theorem Yik{W:Nat}{H:Hp}{l n q:SL}{g j l3:List Int}(h:∀p∈[Yn 1 Xi (Yx l) g,Yn 1 Xi (Yx n) j,Yn 1 Xi (Yx q) l3],∀b,p.fp b->W<=b)(i:Nat)(u:lk H i=some (Yn 1 Xi (Yx l) g))(z:lk H (i+1)=some (Yn 1 Xi (Yx n) j))(B:lk H (i+2)=some (Yn 1 Xi (Yx q) l3)) :
  ∀p∈[Yn 1 Xi (Yx l) g,Yn 1 Xi (Yx n) j,Yn 1 Xi (Yx q) l3],p.own=false/\(∀b,p.fp b->W<=b)/\∃i s,lk H i=some s/\∀w,s.holds w->p.holds w:=λp f=>by
 have e:=h p f;simp only [aU,cT,fF]at f;rcases f with rfl|rfl|rfl
 .exact⟨rfl,e,_,_,u,λ_ h=>h⟩
 .exact⟨rfl,e,_,_,z,λ_ h=>h⟩
 .exact⟨rfl,e,_,_,B,λ_ h=>h⟩
theorem cut_b{fr f:Int}{g:Ze}(e:SgG g)(h:Lp fr f g=true):(cA fr g-g.1.1).natAbs<=3600000/\(cB f g-cA fr g).natAbs<=3600000/\My (cA fr g-g.1.1)/\My (cB f g-cA fr g):=by have q:=cH h;have j:=e.t1;have l:=e.t2;have n:=e.t3;unfold cA cB at *;exact⟨O,O,⟨O,O⟩,⟨O,O⟩⟩
def Ykg:∀n,n<6->∀j,j<n+1->∀k,k<j+1->(Oa n j:Int)*w60 n j k=60*(Oa (n-k) (j-k):Int):=O3
theorem Zej(f:Nat->Int)(a:Int):∀m,Yf (λk=>a*f k) m=a*Yf f m
 | 0=>by show(0)=a*0;simp
 | m+1=>by rw [Yr,Yr,Zej f a m,jW]
theorem Ynp(g:1<=c.length/\c.length<=6){j:Nat}(e:j<c.length):(Oa (c.length-1) j:Int)*ctl c j (j+1)=60*Iw (c.length-1) c j:=by unfold ctl Iw;rw [<-Zej,<-Zej];refine Xj λk f=>?_;have:=Ykg (c.length-1) O j O k O;show(Oa _ j)*(cf c k*w60 _ j k)=60*(cf c k*_);grind
theorem Yiw{n j:Nat}(h:j<n+1):(0:Int)<(Oa n j:Int):=by grind [Zqj]
theorem Yar(z:1<=c.length/\c.length<=6) : Zhn c ov=true↔∀j,j<c.length->((Iw (c.length-1) c j).natAbs:Int)<=1048576*ov*(Oa (c.length-1) j:Int):=by
 have B:∀j,j<c.length->((((ctl c j _).natAbs)<=62914560*ov)↔((Iw _ c j).natAbs)<=1048576*ov*(Oa _ j)):=λj g=>by
  have l:=Ynp z g;have f:=Yiw (n:=c.length-1) (j:=j) O;have s:=aE Int.natAbs l;rw [bQ,bQ]at s;generalize (ctl c j _).natAbs=x at *;generalize (Iw _ c j).natAbs=y at *;generalize Oa _ j=q at *;have u:(q:Int)*(x)=60*(y):=O4;constructor
  .intro h;have e:=fW h (eA f);grind
  .intro h;have e:60*(y)<=(q)*(62914560*ov):=by grind
   rw [<-u]at e;exact jT e f
 constructor
 .intro h j g;unfold Zhn at h;grind
 grind [Zqr]
def Xo{x b:Int} : ((x.natAbs:Int)<=b)↔(-b<=x/\x<=b):=O
def bre00(c:List Int):Iw 0 c 0=cf c 0*1:=O12
def bre10(c:List Int):Iw 1 c 0=cf c 0*1:=O12
def bre11(c:List Int):Iw 1 c 1=cf c 0*1+cf c 1*1:=O12
def bre20(c:List Int):Iw 2 c 0=cf c 0*1:=O12
def bre21(c:List Int):Iw 2 c 1=cf c 0*2+cf c 1*1:=O12
def bre22(c:List Int):Iw 2 c 2=cf c 0*1+cf c 1*1+cf c 2*1:=O12
def bre30(c:List Int):Iw 3 c 0=cf c 0*1:=O12
def bre31(c:List Int):Iw 3 c 1=cf c 0*3+cf c 1*1:=O12
def bre32(c:List Int):Iw 3 c 2=cf c 0*3+cf c 1*2+cf c 2*1:=O12
def bre33(c:List Int):Iw 3 c 3=cf c 0*1+cf c 1*1+cf c 2*1+cf c 3*1:=O12
def bre40(c:List Int):Iw 4 c 0=cf c 0*1:=O12
def bre41(c:List Int):Iw 4 c 1=cf c 0*4+cf c 1*1:=O12
def bre42(c:List Int):Iw 4 c 2=cf c 0*6+cf c 1*3+cf c 2*1:=O12
def bre43(c:List Int):Iw 4 c 3=cf c 0*4+cf c 1*3+cf c 2*2+cf c 3*1:=O12
def bre44(c:List Int):Iw 4 c 4=cf c 0*1+cf c 1*1+cf c 2*1+cf c 3*1+cf c 4*1:=O12
def bre50(c:List Int):Iw 5 c 0=cf c 0*1:=O12
def bre51(c:List Int):Iw 5 c 1=cf c 0*5+cf c 1*1:=O12
def bre52(c:List Int):Iw 5 c 2=cf c 0*10+cf c 1*4+cf c 2*1:=O12
def bre53(c:List Int):Iw 5 c 3=cf c 0*10+cf c 1*6+cf c 2*3+cf c 3*1:=O12
def bre54(c:List Int):Iw 5 c 4=cf c 0*5+cf c 1*4+cf c 2*3+cf c 3*2+cf c 4*1:=O12
def bre55(c:List Int):Iw 5 c 5=cf c 0*1+cf c 1*1+cf c 2*1+cf c 3*1+cf c 4*1+cf c 5*1:=O12
theorem cf_brS{n:Nat}(u:n<6)(D:c.length<=n+1){M:Int}(h:∀j,j<n+1->((Iw n c j).natAbs:Int)<=M*(Oa n j:Int))(k:Nat):((cf c k).natAbs:Int)<=2047*M:=by
 have z:0<=M:=by have e:=h 0 O7;grind [Zls]
 by_cases B:k<n+1
 .rw [Xo]
  match n,u with
  | 0,_=>
   have e:=Xo.1 (h 0 O);rw [bre00,show(Oa 0 0:Int)=1 from rfl]at e;grind
  | 1,_=>
   have e:=Xo.1 (h 0 O);rw [bre10,show(Oa 1 0:Int)=1 from rfl]at e;have f:=Xo.1 (h 1 O);rw [bre11,show(Oa 1 1:Int)=1 from rfl]at f;grind
  | 2,_=>
   have e:=Xo.1 (h 0 O);rw [bre20,show(Oa 2 0:Int)=1 from rfl]at e;have f:=Xo.1 (h 1 O);rw [bre21,show(Oa 2 1:Int)=2 from rfl]at f;have g:=Xo.1 (h 2 O);rw [bre22,show(Oa 2 2:Int)=1 from rfl]at g;grind
  | 3,_=>
   have e:=Xo.1 (h 0 O);rw [bre30,show(Oa 3 0:Int)=1 from rfl]at e;have f:=Xo.1 (h 1 O);rw [bre31,show(Oa 3 1:Int)=3 from rfl]at f;have g:=Xo.1 (h 2 O);rw [bre32,show(Oa 3 2:Int)=3 from rfl]at g;have l:=Xo.1 (h 3 O);rw [bre33,show(Oa 3 3:Int)=1 from rfl]at l;grind
  | 4,_=>
   have e:=Xo.1 (h 0 O);rw [bre40,show(Oa 4 0:Int)=1 from rfl]at e;have f:=Xo.1 (h 1 O);rw [bre41,show(Oa 4 1:Int)=4 from rfl]at f;have g:=Xo.1 (h 2 O);rw [bre42,show(Oa 4 2:Int)=6 from rfl]at g;have l:=Xo.1 (h 3 O);rw [bre43,show(Oa 4 3:Int)=4 from rfl]at l;have q:=Xo.1 (h 4 O);rw [bre44,show(Oa 4 4:Int)=1 from rfl]at q;grind
  | 5,_=>
   have e:=Xo.1 (h 0 O);rw [bre50,show(Oa 5 0:Int)=1 from rfl]at e;have f:=Xo.1 (h 1 O);rw [bre51,show(Oa 5 1:Int)=5 from rfl]at f;have g:=Xo.1 (h 2 O);rw [bre52,show(Oa 5 2:Int)=10 from rfl]at g;have l:=Xo.1 (h 3 O);rw [bre53,show(Oa 5 3:Int)=10 from rfl]at l;have q:=Xo.1 (h 4 O);rw [bre54,show(Oa 5 4:Int)=5 from rfl]at q;have s:=Xo.1 (h 5 O);rw [bre55,show(Oa 5 5:Int)=1 from rfl]at s;grind
 grind [Yw]
structure AxC (c:List Int) (ov:Int):Prop where
 l:1<=c.length/\c.length<=6
 t:¬(1<c.length/\c.getD (c.length-1) 0=0)
 b:∀j,j<c.length->((Iw (c.length-1) c j).natAbs:Int)<=1048576*ov*(Oa (c.length-1) j:Int)
theorem AxC.of(h:axB c ov=true):AxC c ov:=by unfold axB at h;simp only [aQ,fN,iS,cS,fU]at h;have e:1<=c.length/\c.length<=6:=⟨h.1.1.1,h.1.1.2⟩;exact⟨e,λf=>O,(Yar e).1 h.2⟩
def AxC.to(h:AxC c ov):axB c ov=true:=Yjk h.l.1 h.l.2 h.t ((Yar h.l).2 h.b)
def tzl_nz(e:c.getD (c.length-1) 0≠0):tzl c=c:=Zam (.inr e)
theorem ax_tzl(h:AxC c ov):(tzl c=c)\/c=[0]:=by
 by_cases e:c.getD (c.length-1) 0=0
 .have j:c.length=1:=by
   have l:=h.l;have f:=h.t;by_cases g:1<c.length
   .exact absurd ⟨g,e⟩ f
   .omega
  right
  match c,j with
  | [x],_=>simp at e;rw [e]
 .exact .inl (tzl_nz e)
theorem Zfk(h:AxC c ov){b:Int}{t u:Rat}(f:t*(d:Rat)=(a:Rat)+(b:Rat)*u):Zc (Nl c a b d) u=(d:Rat)^5*Zc c t:=by
 unfold Nl;rw [Zvk];rcases ax_tzl h with e|e
 .have g:=h.l;rw [e,Zj8 a b d f O,Zc3];have:(d:Rat)^5=(d:Rat)^(6-c.length)*(d:Rat)^(c.length-1):=by rw [<-Ya1];congr 1;omega
  rw [this];grind
 .subst e;rw [show tzl [0]=[]from by decide,show Kp [] a b d=[]from rfl];show _*(0:Rat)=_*(((0:Int):Rat)+t*0);push_cast;grind
def Zf4 (c:List Int)(a b d:Int):(Nl c a b d).length<=c.length:=aB Lv (aB (Zet _ _ _ _) (Hm c))
theorem Yaq(h:AxC c ov){b:Int}(f:0<=a)(g:0<=b)(e:a+b<=d)(l:0<d):∀j,j<c.length->((Iw (c.length-1) (Nl c a b d) j).natAbs:Int)<=1048576*(ov*d^5)*(Oa (c.length-1) j:Int):=λj q=>by have D:=h.l;have z:=Zf4 c a b d;have:=Yof (c:=c) (X:=Nl c a b d) (n:=c.length-1) (m:=5) (B:=1048576*ov) O O f g e l (λt u s=>Zfk h s) (λj q=>h.b j O) j O;rw [fR]at this;rw [fR];rw [fR,<-fR ov]at this;exact this
theorem cf_cmp(h:AxC c ov){b:Int}(f:0<=a)(g:0<=b)(e:a+b<=d)(l:0<d)(k:Nat):((cf (Nl c a b d) k).natAbs:Int)<=ov*d^5*2146435072:=by have u:=h.l;have q:=Zf4 c a b d;have:=cf_brS (n:=c.length-1) O (c:=Nl c a b d) O (M:=1048576*(ov*d^5)) (λj s=>Yaq h f g e l j O) k;omega
theorem Yep{g:Ze}(h:seB g=true):AxC g.2.1.2 g.1.2.2/\AxC g.2.2.1.2 g.1.2.2/\AxC g.2.2.2.2 g.1.2.2:=by have e:Zap g.1.1 g.1.2.1 g.1.2.2 g.2.1.2 g.2.2.1.2 g.2.2.2.2=true:=h;unfold Zap at e;simp only [aQ]at e;exact⟨.of e.1.1.1.2,.of e.1.1.2,.of e.1.2⟩
theorem Yij{fr e:Int}{g:Ze}(f:SgG g)(h:Lp fr e g=true):0<=cA fr g-g.1.1/\0<cB e g-cA fr g/\(cA fr g-g.1.1)+(cB e g-cA fr g)<=g.1.2.1-g.1.1/\0<g.1.2.1-g.1.1:=by have n:=cH h;have j:=f.t1;have l:=f.t2;unfold cA cB at *;exact⟨O,O,O,O⟩
theorem Yf8{fr B:Int}{g:Ze}(hi:Gin g)(hs:seB g=true)(h:Lp fr B g=true):MdG fr B g:=by
 have f:SgG g:=Ie hi hs;obtain⟨I,M,N⟩:=Yep hs;obtain⟨P,Q,R,S⟩:=Yij f h;obtain⟨u,z,-,-⟩:=cut_b f h;have a0:=f.t3;have Z:=f.t1;have W:=f.o1;have Y:=f.o2;have j:1<=g.1.2.1-g.1.1/\g.1.2.1-g.1.1<=3600000:=⟨O,O⟩;have D:=Zqi f.hx f.lx u z j;have F:=Zqi f.hy f.ly u z j;have H:=Zqi f.hz f.lz u z j;have s:0<cO g:=fC O (iI O);have q:((cO g).natAbs:Int)=cO g:=O;have n:∀{c:List Int},AxC c g.1.2.2->∀k,(cf (cX fr B g c) k).natAbs<=(cO g).natAbs*2146435072:=λV k=>by
  have:=cf_cmp V P (eA Q) R S k;have e:(((cO g).natAbs*2146435072:Nat):Int)=cO g*2146435072:=by rw [gD,q];rfl
  refine Int.ofNat_le.1 ?_;rw [e];exact this
 refine⟨s,?_,λi=>?_,λi=>?_,λi k=>?_⟩
 .have h1:bl g.1.2.2.natAbs<=40:=(Qs 40 _).2 O;have h2:=Zm2 j;have:=Xx g.1.2.2 ((g.1.2.1-g.1.1)^5);show bl (g.1.2.2*(g.1.2.1-g.1.1)^5).natAbs<=1000;omega
 .exact Bn (p:=λl:List Int=>Sz 1000 l) D.2.2.2.2.2.2.1 F.2.2.2.2.2.2.1 H.2.2.2.2.2.2.1
 .exact Bn (p:=λl:List Int=>l.length<=6) D.2.2.2.2.2.2.2 F.2.2.2.2.2.2.2 H.2.2.2.2.2.2.2
 .exact Bn (p:=λl:List Int=>(cf l k).natAbs<=(cO g).natAbs*2146435072) (n I k) (n M k) (n N k)
theorem Yhk{n q s u z B e f g h j l:Value}:Instr.fill (λi=>some (i*6,6)) ((List.range (1*6)).map ((Value.agg #[n,q,s,u,z,B]).cells[· % (Value.agg #[n,q,s,u,z,B]).cells.size]!)).toArray [(0,.agg #[e,f,g,h,j,l])]=some #[e,f,g,h,j,l]:=by
 simp [Instr.fill,Value.cells,List.range,List.range.loop]
 try rfl
def Pp(fr e:Int)(ps:List Ze):Bool:=(ps.filter (Lp fr e)).all (Zgj fr e)
def Be(fr e:Int)(ps:List Ze):List Zht:=if Pp fr e ps=true then(ps.filter (Lp fr e)).map (Zwr fr e)else []
def Zcy(fr e:Int)(ps:List Ze):Int:=if Pp fr e ps=true then 0 else 7
def Zvf(fr e:Int)(x:Ze)(g:SL×SL×SL):Ze:=((cA fr x,cB e x,mdO (cO x) (cG fr e x)),(g.1,mdL (cO x) (cG fr e x) (cX fr e x x.2.1.2)),(g.2.1,mdL (cO x) (cG fr e x) (cX fr e x x.2.2.1.2)),(g.2.2,mdL (cO x) (cG fr e x) (cX fr e x x.2.2.2.2)))
def Ycs(fr e:Int)(ps:List Ze)(k:Nat)(zs:List Ze):Prop:=zs.map Ds=((ps.filter (Lp fr e)).take k).map (Zwr fr e)/\((ps.filter (Lp fr e)).take k).all (Zgj fr e)=true
theorem Zoc{α:Type}{xs:List α}{x:α}(h:xs[k]? = some x):xs.take (k+1)=xs.take k ++ [x]:=by rw [gK,h];rfl
theorem cutI_0(fr e:Int)(ps:List Ze):Ycs fr e ps 0 []:=⟨by rw [fT];rfl,by rw [fT];rfl⟩
theorem cutI_s{fr e:Int}{ps:List Ze}{x:Ze}{g:SL×SL×SL}(h:Ycs fr e ps k zs)(f:(ps.filter (Lp fr e))[k]? = some x)(n:Zgj fr e x=true):Ycs fr e ps (k+1) (zs ++ [Zvf fr e x g]):=by
 obtain⟨j,l⟩:=h;refine⟨?_,?_⟩
 .rw [Zoc f,dW,dW,j];rfl
 .rw [Zoc f,List.all_append,l];simp [n]
theorem cutI_l{fr e:Int}{ps:List Ze}(h:Ycs fr e ps k zs)(f:k<=ps.length):zs.length<=ps.length:=by have:=aE List.length h.1;rw [bJ,bJ,dO]at this;have:=gF (Lp fr e) ps;omega
theorem cut_no{fr e:Int}{ps:List Ze}{x:Ze}(g:(ps.filter (Lp fr e))[k]? = some x)(f:Zgj fr e x=false):Pp fr e ps=false:=by
 unfold Pp;cases hb:(ps.filter (Lp fr e)).all (Zgj fr e)with
 | false=>rfl
 | true=>
  have:=bA.1 hb x (dH g);rw [f]at this;cases this
theorem cutI_e{fr e:Int}{ps:List Ze}(h:Ycs fr e ps (ps.filter (Lp fr e)).length zs):zs.map Ds=Be fr e ps/\Zcy fr e ps=0:=by obtain⟨g,f⟩:=h;rw [cE]at g f;exact⟨by unfold Be Pp;rw [aO f];exact g,by unfold Zcy Pp;rw [aO f]⟩
theorem cut_f{fr e:Int}{ps:List Ze}(h:Pp fr e ps=false):([]:List Ze).map Ds=Be fr e ps/\Zcy fr e ps=7:=by unfold Be Zcy;rw [aJ (by rw [h];exact bF),aJ (by rw [h];exact bF)];exact⟨rfl,rfl⟩
def spF(ps:List Ze):Int:=(ps.getD 0 G0).1.1
def spL(ps:List Ze):Int:=(ps.getD (ps.length-1) G0).1.2.1
theorem Ymh(h:AxC c ov)(s:c.getD (c.length-1) 0≠0){b:Int}(B:0<b)(F:0<d):(Nl c a b d).length=c.length:=by
 have M:=h.l;have I:=Zf4 c a b d;rcases aW (Nl c a b d).length c.length with q|q
 .exfalso;have D:(b:Rat)≠0:=by
    have:(0:Rat)<(b:Rat):=by exact_mod_cast B
    grind
  have H:(d:Rat)≠0:=by
    have:(0:Rat)<(d:Rat):=by exact_mod_cast F
    grind
  have n:∀t:Rat,t*(d:Rat)=(a:Rat)+(b:Rat)*((t*d-a)/b):=λt=>O4;by_cases j:(Nl c a b d).length=0
  .have z:=aH j;have:∀t:Rat,Zc c t=0:=λt=>by
    have e:=Zfk h (n t);rw [z]at e;have f:(d:Rat)^5*Zc c t=0:=e.symm;have l:(d:Rat)^5≠0:=by rw [show(d:Rat)^5=d*d*d*d*d by rw [dA,dA,dA,dA,dA,dM];grind];grind
    grind
   exact s (Zor this _)
  .have g:∀t:Rat,Zc ((Kp (Nl c a b d) (-a) d b).map λq=>1*q) t=Zc (c.map λq=>b^((Nl c a b d).length-1)*d^5*q) t:=λt=>by rw [Zj,Zj];have e:=Zfk h (n t);have f:=Zj8 (p:=Nl c a b d) (-a) d b (t:=(t*d-a)/b) (u:=t) (by push_cast;grind) j;rw [f,e];push_cast;rw [<-Zc3,<-Zc3];push_cast;grind
   have e:=Ml g (c.length-1);rw [Dx,Dx,Yw (by have:=Zet (Nl c a b d) (-a) d b;omega)]at e;have f:b^((Nl c a b d).length-1)*d^5≠0:=bD (Int.pow_ne_zero O) (Int.pow_ne_zero O);have l:b^((Nl c a b d).length-1)*d^5*cf c (c.length-1)=0:=O;rcases Int.mul_eq_zero.1 l with q|q
   .exact f q
   .exact s q
 .omega
theorem Zwy{X:List Int}(f:0<G)(e:∀x∈X,G∣x)(i:Nat):cf (Cl X G) i*G=cf X i:=by
 unfold Cl;split
 .rename_i h;rw [aH h]
  match i with
  | 0=>show(0:Int)*G=cf [] 0;rw [cP];rfl
  | i+1=>show(0:Int)*G=cf [] (i+1);rw [cP];rfl
 .rw [Ze2 _ _ O7];by_cases hi:i<X.length
  .have:cf X i∈X:=Zk hi;exact lD (e _ this)
  .rw [Yw O];simp
theorem Ylj{X:List Int}(e:0<G)(f:∀x∈X,G∣x)(u:Rat):Zc (Cl X G) u*(G:Rat)=Zc X u:=by rw [kG,<-Zj];exact Ng u _ _ λi=>by rw [Dx,iQ,Zwy e f]
theorem Zhw(f g:Nat->Int)(a:Int)(h:∀k,f k*a=g k):∀m,Yf f m*a=Yf g m
 | 0=>cP _
 | m+1=>by rw [Yr,Yr,kY,Zhw f g a h m,h]
theorem Yoe{X:List Int}(e:0<G)(f:∀x∈X,G∣x)(n j:Nat):Iw n (Cl X G) j*G=Iw n X j:=by unfold Iw;exact Zhw _ _ _ (λk=>by rw [jR,Zwy e f]) _
theorem Ymg(X:List Int)(G:Int):(Cl X G).length=max X.length 1:=by
 unfold Cl;split
 .rename_i h;rw [h];rfl
 .rw [bJ];omega
theorem Zxb(h:AxC c ov){b o:Int}(P:0<=a)(D:0<b)(s:a+b<=d)(F:0<d)(q:0<G)(I:∀x∈Nl c a b d,G∣x)(R:o*G=ov*d^5):AxC (Cl (Nl c a b d) G) o/\(Cl (Nl c a b d) G).length=c.length:=by
 have V:=h.l;have f:(Cl (Nl c a b d) G).length=c.length/\(1<c.length->(Nl c a b d).length=c.length):=by
  rw [Ymg];by_cases M:c.getD (c.length-1) 0=0
  .have:=h.t;have Q:=Zf4 c a b d;have g:c.length=1:=by
    by_cases l:1<c.length
    .exact absurd ⟨l,M⟩ this
    .omega
   exact⟨O,λl=>O⟩
  .have:=Ymh h M (a:=a) D F;exact⟨O,λ_=>this⟩
 refine⟨⟨O,λ⟨g,u⟩=>?_,λj H=>?_⟩,f.1⟩
 .rw [f.1]at g u;have l:cf (Cl (Nl c a b d) G) (c.length-1)=0:=u;have z:=Zwy q I (c.length-1);rw [l,cP]at z;have n:=f.2 g;have S:Tr (Nl c a b d):=Nq _ _;have B:=S.mem (λe=>by rw [e]at n;simp at n;omega);rw [n]at B;exact B z.symm
 .rw [f.1]at H ⊢;have g:=Yaq h P (eA D) s F j H;rw [<-Yoe q I,<-R,bQ]at g;have N:((G.natAbs:Nat):Int)=G:=O;push_cast at g;rw [N]at g;refine Int.le_of_mul_le_mul_right (a:=G) ?_ q;refine kH g (Int.le_of_eq ?_);grind
theorem Zti{G:Int}(e:0<G):∀(l:List Int) (o:Int),Lm (G*o) (l.map (G*·))=G*Lm o l
 | [],o=>rfl
 | x::l,o=>by show Lm ((Int.gcd _ _)) _=G*Lm _ l;rw [Int.gcd_mul_left];push_cast;rw [show((G.natAbs))=G by omega];exact Zti e l _
theorem Zk8{X:List Int}{o:Int}(e:0<G)(f:∀x∈X,G∣x)(g:0<=o):Lm o ((Cl X G).map (G*·))=Lm o X:=by
 unfold Cl;split
 .rename_i h;rw [aH h];show((Int.gcd o (G*0)))=o;rw [dZ,Int.gcd_zero_right];omega
 .conv=>rhs;rw [<-kW X]
  grind [List.map_congr_left,Int.mul_ediv_cancel']
theorem Ymz{X Y Z:List Int}{o f:Int}(g:0<o)(e:0<Fp o X Y Z)(n:∀x∈X,Fp o X Y Z∣x)(q:∀x∈Y,Fp o X Y Z∣x)(s:∀x∈Z,Fp o X Y Z∣x)(h:Fp o X Y Z*f=o) :
  Lm f (Cl X (Fp o X Y Z) ++ Cl Y (Fp o X Y Z) ++ Cl Z (Fp o X Y Z))=1:=by
 have j:=Zti e (Cl X (Fp o X Y Z) ++ Cl Y (Fp o X Y Z) ++ Cl Z (Fp o X Y Z)) f;rw [h,dW,dW,Ch,Ch,Zk8 e n (eA g),Zk8 e q (Zf6 _ _ (eA g)),Zk8 e s (Zf6 _ _ (Zf6 _ _ (eA g)))]at j;have u:Fp o X Y Z=Lm (Lm (Lm o X) Y) Z:=by show Lm o (X ++ Y ++ Z)=_;grind [Ch]
 generalize Lm f _=r at *;have l:Fp o X Y Z*r=Fp o X Y Z*1:=O;exact iA O l
structure Prt (q g:Ze) (G:Int):Prop where
 g0:0<G
 a0:0<=q.1.1-g.1.1
 b0:0<q.1.2.1-q.1.1
 ab:(q.1.1-g.1.1)+(q.1.2.1-q.1.1)<=g.1.2.1-g.1.1
 o:q.1.2.2*G=g.1.2.2*(g.1.2.1-g.1.1)^5
 x:∀i (t u:Rat),t*((g.1.2.1-g.1.1:Int):Rat)=((q.1.1-g.1.1:Int):Rat)+((q.1.2.1-q.1.1:Int):Rat)*u->Zc (Yg i q.2.1.2 q.2.2.1.2 q.2.2.2.2) u*(G:Rat)=((g.1.2.1-g.1.1:Int):Rat)^5*Zc (Yg i g.2.1.2 g.2.2.1.2 g.2.2.2.2) t
theorem Zv6{X:List Int}(h:∀k,(X.getD k 0/G).natAbs<=9223372036854775807):∀a∈Cl X G,My a:=λa e=>by
 unfold Cl at e;split at e
 .rw [bZ.1 e];exact⟨O,O⟩
 .obtain⟨x,g,rfl⟩:=eJ.1 e;obtain⟨k,f⟩:=eO.1 g;have:=h k;rw [aN,f]at this;simp only [eY]at this;exact⟨O,O⟩
theorem Zou{b:Int}{t u:Rat}(f:AxC c ov)(e:0<G)(g:∀x∈Nl c a b d,G∣x)(h:t*(d:Rat)=(a:Rat)+(b:Rat)*u):Zc (Cl (Nl c a b d) G) u*(G:Rat)=(d:Rat)^5*Zc c t:=by grind [Ylj,Zfk]
theorem Yaa{fr e:Int}{g q:Ze}(hi:Gin g)(hs:seB g=true)(hp:Lp fr e g=true)(hk:Zgj fr e g=true)(hu:Ds q=Zwr fr e g):Gin q/\seB q=true/\Prt q g (cG fr e g):=by
 have W:SgG g:=Ie hi hs;obtain⟨a1,a2,a3⟩:=Yep hs;obtain⟨M,N,Q,R⟩:=Yij W hp;have V:=Yf8 hi hs hp;obtain⟨g1,⟨z,a6⟩,S⟩:=V.g;have n:0<cG fr e g:=g1;have D:∀x∈cX fr e g g.2.1.2,cG fr e g∣x:=S 0 O;have F:∀x∈cX fr e g g.2.2.1.2,cG fr e g∣x:=S 1 O;have H:∀x∈cX fr e g g.2.2.2.2,cG fr e g∣x:=S 2 O;have a8:cG fr e g*z=cO g:=a6.symm;have B:cO g/cG fr e g=z:=by grind [Int.mul_ediv_cancel_left]
 have f:cO g/cG fr e g<=4294967296:=cH hk;have a7:0<cO g:=V.o;have b2:0<z:=by
  by_cases h:0<z
  .omega
  .have:=fG (eA n) (show z<=0 by omega);omega
 have s:z*cG fr e g=g.1.2.2*(g.1.2.1-g.1.1)^5:=O4;obtain⟨x1,x2⟩:=Zxb a1 M N Q R n D s;obtain⟨y1,y2⟩:=Zxb a2 M N Q R n F s;obtain⟨z1,z2⟩:=Zxb a3 M N Q R n H s;obtain⟨⟨qf,qt,qo⟩,⟨sx,qx⟩,⟨sy,qy⟩,⟨sz,qz⟩⟩:=q;unfold Ds Zwr at hu;rw [mdO_t f,Zna f,Zna f,Zna f,B]at hu;injection hu with h1 h2;injection h1 with hf h1;injection h1 with ht P;injection h2 with hx h2;injection h2 with hy hz;dsimp only at hf ht P hx hy hz;subst hf ht hx hy hz;have P:=P.symm;subst P;have j:=λi (hi:i<3) k=>V.fit (i:=i) f hi k;have b0:=cH hp;have b3:=W.t1;have b4:=W.t3;have a0:∀a∈Cl (cX fr e g g.2.1.2) (cG fr e g),My a:=Zv6 (j 0 O);have a4:∀a∈Cl (cX fr e g g.2.2.1.2) (cG fr e g),My a:=Zv6 (j 1 O);have a5:∀a∈Cl (cX fr e g g.2.2.2.2) (cG fr e g),My a:=Zv6 (j 2 O);have b1:z<=4294967296:=B▸f;have a9:0<=cA fr g/\cB e g<=3600000:=O;have i1:My (cA fr g):=⟨O,O⟩;have i2:My (cB e g):=⟨O,O⟩;have i3:My z:=⟨O,O⟩;refine⟨⟨i1,i2,i3,a0,a4,a5⟩,?_,⟨n,M,N,O,s,λi t u I=>?_⟩⟩
 .show Zap (cA fr g) (cB e g) z _ _ _=true;unfold Zap Zu5;simp only [aQ,cS];exact⟨⟨⟨⟨⟨⟨⟨⟨O,O⟩,O⟩,O⟩,O⟩,x1.to⟩,y1.to⟩,z1.to⟩,Ymz a7 n D F H a8⟩
 .have l:t*((g.1.2.1-g.1.1:Int):Rat)=((cA fr g-g.1.1:Int):Rat)+((cB e g-cA fr g:Int):Rat)*u:=I;clear I;have k0:=Zou a1 n D l;have k1:=Zou a2 n F l;have k2:=Zou a3 n H l;dsimp only;generalize Cl (cX fr e g g.2.1.2) (cG fr e g)=X at *;generalize Cl (cX fr e g g.2.2.1.2) (cG fr e g)=Y at *;generalize Cl (cX fr e g g.2.2.2.2) (cG fr e g)=Z at *;generalize ((cG fr e g:Int):Rat)=GG at *;generalize ((g.1.2.1-g.1.1:Int):Rat)^5=DD at *
  match i with
  | 0=>exact k0
  | 1=>exact k1
  | i+2=>exact k2
theorem cg_brS{n:Nat}(u:n<6)(D:c.length<=n+1){M:Int}(h:∀j,j<n+1->((Iw n c j).natAbs:Int)<=M*(Oa n j:Int))(k:Nat):((cf c k).natAbs:Int)<=80*M:=by
 have z:0<=M:=by have e:=h 0 O7;grind [Zls]
 by_cases B:k<n+1
 .rw [Xo]
  match n,u with
  | 0,_=>
   have e:=Xo.1 (h 0 O);rw [bre00,show(Oa 0 0:Int)=1 from rfl]at e;grind
  | 1,_=>
   have e:=Xo.1 (h 0 O);rw [bre10,show(Oa 1 0:Int)=1 from rfl]at e;have f:=Xo.1 (h 1 O);rw [bre11,show(Oa 1 1:Int)=1 from rfl]at f;grind
  | 2,_=>
   have e:=Xo.1 (h 0 O);rw [bre20,show(Oa 2 0:Int)=1 from rfl]at e;have f:=Xo.1 (h 1 O);rw [bre21,show(Oa 2 1:Int)=2 from rfl]at f;have g:=Xo.1 (h 2 O);rw [bre22,show(Oa 2 2:Int)=1 from rfl]at g;grind
  | 3,_=>
   have e:=Xo.1 (h 0 O);rw [bre30,show(Oa 3 0:Int)=1 from rfl]at e;have f:=Xo.1 (h 1 O);rw [bre31,show(Oa 3 1:Int)=3 from rfl]at f;have g:=Xo.1 (h 2 O);rw [bre32,show(Oa 3 2:Int)=3 from rfl]at g;have l:=Xo.1 (h 3 O);rw [bre33,show(Oa 3 3:Int)=1 from rfl]at l;grind
  | 4,_=>
   have e:=Xo.1 (h 0 O);rw [bre40,show(Oa 4 0:Int)=1 from rfl]at e;have f:=Xo.1 (h 1 O);rw [bre41,show(Oa 4 1:Int)=4 from rfl]at f;have g:=Xo.1 (h 2 O);rw [bre42,show(Oa 4 2:Int)=6 from rfl]at g;have l:=Xo.1 (h 3 O);rw [bre43,show(Oa 4 3:Int)=4 from rfl]at l;have q:=Xo.1 (h 4 O);rw [bre44,show(Oa 4 4:Int)=1 from rfl]at q;grind
  | 5,_=>
   have e:=Xo.1 (h 0 O);rw [bre50,show(Oa 5 0:Int)=1 from rfl]at e;have f:=Xo.1 (h 1 O);rw [bre51,show(Oa 5 1:Int)=5 from rfl]at f;have g:=Xo.1 (h 2 O);rw [bre52,show(Oa 5 2:Int)=10 from rfl]at g;have l:=Xo.1 (h 3 O);rw [bre53,show(Oa 5 3:Int)=10 from rfl]at l;have q:=Xo.1 (h 4 O);rw [bre54,show(Oa 5 4:Int)=5 from rfl]at q;have s:=Xo.1 (h 5 O);rw [bre55,show(Oa 5 5:Int)=1 from rfl]at s;grind
 grind [Yw]
theorem AxC.cg(h:AxC c ov)(k:Nat):((cf c k).natAbs:Int)<=83886080*ov:=by have f:=h.l;have:=cg_brS O O (λj e=>h.b j O) k;omega
open Go.RowKit Below
variable {P:Program} {N:Nat} {sc:Nat->Prop} {env env':Qk} {H H':Hp} {Q Q':Exit->Act->World->Prop} {M:Nat->Prop}
def wcr(l:List Int)(r:List Value):Array Value:=(l.map (Value.int .i64) ++ r).toArray
theorem Zjh(l:List Int)(r:List Value):(wcr l r).size=l.length+r.length:=by simp [wcr]
theorem Ykf{l:List Int}{j:Nat}(h:j<l.length):(wcr l r)[j]? = some (.int .i64 (l.getD j 0)):=by simp [wcr,eX,h,aN]
theorem Yke{l:List Int}{j:Nat}{v:Int}(h:j<l.length):Gt (wcr l r) j [.int .i64 v]=wcr (l.set j v) r:=by unfold Gt wcr;congr 1;rw [List.set_eq_take_append_cons_drop,aO h,dW,cI,List.map_take,List.map_drop];grind
theorem Zw0(l:List Int):cellsOf Xi l=l.map (Value.int .i64):=by
 induction l with
 | nil=>rfl
 | cons x l e=>rw [show cellsOf _ _=(Xi x).cells.toList ++ cellsOf _ l from rfl,e];rfl
theorem f_obox{e:TypeId}(i:Nat)(hi:lk H i=some (Nc 1 e Xi v xs))(D:xs≠[]):∀a w,Sat N sc env H a w->∃y:Nat×Nat×List Value,
  v= .slice (some ⟨y.1,0,none⟩) xs.length y.2.1/\xs.length+y.2.2.length=y.2.1/\y.2.1<=maxLen/\w.heap[y.1]? = some (.cells (wcr xs y.2.2) e (0,0)):=λa w hs=>by
 have h:=hs.hold i _ hi;rcases h.2 with⟨rfl,B⟩|⟨g,j,f,rfl,u,z,s,l,q,n⟩
 .grind
 .refine⟨(g,j,f.toList.drop xs.length),rfl,?_,l,?_⟩
  .grind
  .rw [show wcr xs _=f by unfold wcr;grind [Zw0,List.take_append_drop]]
   omega
theorem s_obox {e:TypeId} {c:Nat}     (i:Nat) (hi:lk H i=some (Nc 1 e Xi (.slice (some ⟨b,0,none⟩) xs.length c) xs)) (h:Nat.beq i 0=false) (f:lk H 0=some (Zt w0 M0)) (l:∀b,w0.heap.size<=b->sc b)
  {a:Act}  (hs:Sat N sc env H a w) (g:w.heap[b]? = some (.cells (wcr xs r) e (0,0))):Sat N sc env ((i,box b e (wcr xs r))::H) a w:=
 hs.upd hi rfl (λe=>O10) (Chg.refl _ w) g (λk j=> .inl (by show some b=some k;rw [show k=b from j])) f l
theorem e_obox {g:Code} {e:TypeId}     (i:Nat) (hi:lk H i=some (Nc 1 e Xi v xs)) (f:Nat.beq i 0=false) (z:xs≠[]) (j:lk H 0=some (Zt w0 M0)) (u:∀b,w0.heap.size<=b->sc b)
  (h:∀(b c:Nat) (r:List Value),v= .slice (some ⟨b,0,none⟩) xs.length c->xs.length+r.length=c->c<=maxLen->E P N sc g Q env ((i,box b e (wcr xs r))::H)):E P N sc g Q env H:=λa w hs=>by
 obtain⟨⟨b,c,r⟩,s,l,n,q⟩:=f_obox i hi z a w hs;subst s;exact h b c r rfl l n a w (s_obox i hi f j u hs q)
theorem Ylf{e:TypeId}{c:Nat}(i:Nat)(hi:lk H i=some (box b e (wcr xs r)))(h:Nat.beq i 0=false)(q:xs.length+r.length=c)(l:c<=maxLen)(f:lk H 0=some (Zt w0 M0))(n:∀b,w0.heap.size<=b->sc b) :
  ∀a w,Sat N sc env H a w->Sat N sc env ((i,Nc 1 e Xi (.slice (some ⟨b,0,none⟩) xs.length c) xs)::H) a w:=λa w hs=>by
 have g:=hs.hold i _ hi;refine hs.upd hi rfl (λe=>O10) (Chg.refl _ w) ?_ (λk j=> .inl (by cases j;rfl)) f n;refine⟨by rw [Zw0,bJ,lA],.inr ⟨b,c,_,rfl,bH _,g,O,l,by simp_all [Zjh,lA],?_⟩⟩;rw [Zw0];show((xs.map _) ++ r).take _=_;simp
theorem Zag (i:Nat)   {e:TypeId} {n c:Nat}   (j:o.op= .indexAddr t x y) (q:ev env x=some (.slice (some ⟨b,off,none⟩) n c)) (s:ev env y=some (.int kd m))
  (l:P.underlying t=some (.slice e)) (h:∀w,(sizeOf e).run P w= .ok 1 w) (f:m=(i:Int)) (g:i<n):Mv P N sc o env H (.pointer (some ⟨b,off+i,none⟩)):=λa w hs=>by
 subst f;simp [execOp,j,hs.ev q,hs.ev s,Instr.indexAt,asIntOf,run_underlying l,h,g,Py]
theorem Zqc   {e:TypeId} {f:Option Addr} {n c:Nat} (g:o.op= .call { callee:= .builtin .len,args:=#[x],argTypes:=#[t] })
  (j:ev env x=some (.slice f n c)) (h:P.underlying t=some (.slice e)):Mv P N sc o env H (.int .i64 (n:Int)):=λa w hs=>by
 simp [execOp,g,resolve,hs.ev j,invoke,builtin,Builtin.len_,run_underlying h,goInt]
def Zcv (i:Nat){j:Nat}{l:List Int}(g:o.op= .load t x)(n:ev env x=some (.pointer (some ⟨b,j,none⟩)))(e:lk H i=some (box b tb (wcr l r)))(h:∀w,(isAgg t).run P w= .ok false w)(f:j<l.length) :
  Mv P N sc o env H (.int .i64 (l.getD j 0)):=Zln _ g n e h (Ykf f)
theorem Zrh (i:Nat)    {j:Nat} {l:List Int}  {v:Int}   (z:o.op= .store t x y) (n:o.dst=none)
  (F:ev env x=some (.pointer (some ⟨b,j,none⟩))) (I:ev env y=some (.int .i64 v)) (g:lk H i=some (box b tb (wcr l r))) (e:i≠0) (s:∀w,(sizeOf t).run P w= .ok 1 w) (q:j<l.length)
  (f:lk H 0=some (Zt w0 M0)) (D:∀b,w0.heap.size<=b->sc b) (h:M b) :
  T P N sc M o env H (G:=Unit) (λ_=>True) (λ_=>env) (λ_=>(i,box b tb (wcr (l.set j v) r))::H):=by
 rw [<-Yke q];exact Zhu z n F I g e rfl s rfl (by grind [Zjh]) (λu B=>Zl (by rw [List.mem_singleton.1 B];rfl)) rfl f D h
theorem Yic (i:Nat)   {e:TypeId} {n c:Nat}   (s:o.op= .slice t x (some y) none none) (z:ev env x=some (.slice (some ⟨b,off,none⟩) n c)) (B:ev env y=some (.int kd m))
  (u:P.underlying t=some (.slice e)) (j:∀w,(sizeOf e).run P w= .ok 1 w) (f:m=(i:Int)) (l:i<n) (q:n<=c):Mv P N sc o env H (.slice (some ⟨b,off+i,none⟩) (n-i) (c-i)):=λa w hs=>by
 subst f;have g:i<=n:=O;have h:=O;simp [execOp,s,hs.ev z,hs.ev B,Instr.sliceAt,Instr.slice,Instr.sliceBounds,Instr.sliceBound,asIntOf,run_underlying u,j,g,h,q,Py];omega
theorem d_prew   {e:TypeId} {n c:Nat}   (l:o.op= .slice t x none (some y) none) (s:ev env x=some (.slice (some ⟨b,0,none⟩) n c)) (u:ev env y=some (.int kd m))
  (q:P.underlying t=some (.slice e)) (j:∀w,(sizeOf e).run P w= .ok 1 w) (f:m=(i:Int)) (g:i<=n) (z:n<=c):Mv P N sc o env H (.slice (some ⟨b,0,none⟩) i c):=λa w hs=>by
 subst f;have h:i<=c:=O;simp [execOp,l,hs.ev s,hs.ev u,Instr.sliceAt,Instr.slice,Instr.sliceBounds,Instr.sliceBound,asIntOf,run_underlying q,j,g,h,Py]
theorem t_clw   {z:TypeId} {e n I:Nat} {l:List Int}   
  (Z:o.op= .call { callee:= .builtin .clear,args:=#[x],argTypes:=#[t] }) (W:o.dst=none)
  (hx:ev env x=some (.slice (some ⟨b,e,none⟩) n I))  (B:lk H i=some (box b tb (wcr l r))) (h:i≠0)
  (hn:0<n) (Y:e+n=l.length) (ht:P.underlying t=some (.slice z)) (F:∀w,(sizeOf z).run P w= .ok 1 w)
  (hz:∀w,(zeroValue z).run P w= .ok (.int .i64 0) w)
  (R:lk H 0=some (Zt w0 M0)) (hw:∀b,w0.heap.size<=b->sc b) (V:M b) :
  T P N sc M o env H (G:=Unit) (λ_=>True) (λ_=>env) (λ_=>(i,box b tb (wcr (l.take e) (List.replicate n (Value.int .i64 0) ++ r)))::H):=λa w hs K Q S=>by
 have D:=hs.hold i _ B;have s:(Builtin.zeroCells (Value.int .i64 0).cells n).toList=List.replicate n (Value.int .i64 0):=by
  apply gU
  .simp [Builtin.zeroCells,Value.cells]
  .intro i h2 h3;simp [Builtin.zeroCells,Value.cells,kS]
 have f:=run_storeCells_at P b e tb (List.replicate n (Value.int .i64 0)) 0 (wcr l r) w D (by grind [Zjh,List.length_replicate]) (λu hu=>by rw [List.eq_of_mem_replicate hu];rfl);simp only [fY,aT]at f;have g:((wcr l r).toList.take e ++ List.replicate n (Value.int .i64 0) ++ (wcr l r).toList.drop (e+n)).toArray=wcr (l.take e) (List.replicate n (Value.int .i64 0) ++ r):=by unfold wcr;grind
 rw [g]at f;obtain⟨m,rfl⟩:∃m,n=m+1:=⟨n-1,O⟩;have j:(execOp a.eval o).run P w= .ok (.value (.tuple #[])) (w.setRow b (wcr (l.take e) (List.replicate (m+1) (Value.int .i64 0) ++ r))):=by simp only [execOp,Z,resolve,invoke,builtin];simp [hs.ev hx,Builtin.clear_,run_underlying ht,hz,s,f]
 unfold Oper.wp;rw [j];show K (a.put o.dst _) _;rw [W];exact S () _ _ aA ((hs.upd B rfl h (q:=box b tb (wcr (l.take e) _)) (Ho (M:=λk=>k=b) rfl) (setRow_heap w b _ _ tb _ D) (λk F=> .inl F) R hw).put_none _) (Ho V)
theorem Ylo{a:Act}{fn:Func}(hs:Sat N sc env H a w)(e:fn.results=#[]):(results fn a.tmps).run P w= .ok (.tuple #[]) w:=by simp [results,e]
end Go.Sky
namespace Go.Sky
variable{i k:Nat}{m xs:List Int}{G a':Int}{q:Ze}{r qs:List Ze}
def Srt(l:List Int)(n:Nat):Prop:=∀p q,p<q->q<n->l.getD p 0<=l.getD q 0
def Sst(l:List Int)(n:Nat):Prop:=∀p q,p<q->q<n->l.getD p 0<l.getD q 0
def Yjy(l:List Int)(i j:Nat):Prop:=∀p q,p<q->q<=i->q≠j->l.getD p 0<=l.getD q 0
def Sam(l m:List Int):Prop:=m.length=l.length/\∀x,x∈m↔x∈l
def Sam.rfl'(l:List Int):Sam l l:=⟨rfl,λ_=>mS⟩
def Ziy{l:List Int}{j:Nat}{v:Int}(hi:i<l.length):(l.set i v).getD j 0=if j=i then v else l.getD j 0:=Zhj hi
def swp(l:List Int)(j:Nat):List Int:=(l.set j (l.getD (j-1) 0)).set (j-1) (l.getD j 0)
theorem Zy7(l:List Int)(j:Nat):(swp l j).length=l.length:=by simp [swp]
theorem Zaz{l:List Int}{j:Nat}(b:j<l.length)(a:1<=j)(k:Nat):(swp l j).getD k 0=if k=j-1 then l.getD j 0 else if k=j then l.getD (j-1) 0 else l.getD k 0:=by unfold swp;grind
theorem Ec{l:List Int}{x:Int} : x∈l↔∃k,k<l.length/\l.getD k 0=x:=by
 constructor
 .intro h;obtain⟨k,a,e⟩:=dG.1 h;exact⟨k,a,O4⟩
 grind
theorem Zx4{l:List Int}{j:Nat}(c:j<l.length)(d:1<=j):Sam l (swp l j):=⟨Zy7 l j,λx=>by
 rw [Ec,Ec,Zy7];constructor
 .rintro⟨k,f,e⟩;rw [Zaz c d]at e;grind
 .rintro⟨k,f,e⟩;by_cases a:k=j-1
  .exact⟨j,c,by rw [Zaz c d,<-a];omega⟩
  .by_cases b:k=j
   .exact⟨j-1,O,by rw [Zaz c d,<-b];omega⟩
   .exact⟨k,f,by rw [Zaz c d];omega⟩⟩
def Sam.trans{l n:List Int}(h:Sam l m)(a:Sam m n):Sam l n:=⟨a.1.trans h.1,λx=>(a.2 x).trans (h.2 x)⟩
def srtx_0{l:List Int}(h:Srt l i):Yjy l i i:=λp q a b c=>h p q a O
theorem Zrn{l:List Int}{j:Nat}(h:Yjy l i j)(f:j<l.length)(e:1<=j)(o:j<=i)(s:l.getD j 0<l.getD (j-1) 0):Yjy (swp l j) i (j-1):=λp q g d n=>by
 rw [Zaz f e,Zaz f e,aJ n];by_cases a:q=j
 .rw [aO a];by_cases b:p=j-1
  .omega
  .rw [aJ b,aJ O];exact h p _ O O O
 .rw [aJ a];by_cases b:p=j-1
  .rw [aO b];exact h j q O d a
  .rw [aJ b];by_cases c:p=j
   .rw [aO c];exact h _ q O d a
   .rw [aJ c];exact h p q g d a
theorem Ydy{l:List Int}{j:Nat}(h:Yjy l i j)(n:j<=i)(f:j=0\/(1<=j/\¬l.getD j 0<l.getD (j-1) 0)):Srt l (i+1):=λp q e g=>by
 by_cases a:q=j
 .rcases f with b|⟨b,c⟩
  .omega
  .subst a;by_cases d:p=q-1
   .grind
   .have:=h p (q-1) O O O;omega
 .exact h p q e O a
def srt_1(l:List Int):Srt l 1:=λp q a b=>O
structure Cmp (xs zs:List Int):Prop where
 s:Sst zs zs.length
 m:∀x,x∈zs↔x∈xs
theorem Ydx{l:List Int}{n:Nat}(h:Srt l n)(c:∀q,1<=q->q<n->l.getD q 0≠l.getD (q-1) 0):Sst l n:=λp q d a=>by
 have e:=c q O a;have f:=h (q-1) q O a;rcases lP (show p<=q-1 by omega)with b|b
 .have:=h p _ b O;omega
 grind
def Yn0{l:List Int}(h:Srt l l.length)(a:∀q,1<=q->q<l.length->l.getD q 0≠l.getD (q-1) 0):Cmp l l:=⟨Ydx h a,λx=>mS⟩
structure Cml (xs l:List Int) (m k:Nat):Prop where
 k1:1<=k
 km:k<m
 ml:m<=xs.length
 ll:l.length=xs.length
 r:∀q,m<=q+1->l.getD q 0=xs.getD q 0
 s:Sst l k
 e:∀x,(∃p,p<k/\l.getD p 0=x)↔∃p,p<m/\xs.getD p 0=x
 z:l.getD (k-1) 0=xs.getD (m-1) 0
theorem cml_0(hs:Srt xs xs.length)(b:∀q,1<=q->q<k->xs.getD q 0≠xs.getD (q-1) 0)(c:1<=k)(f:k<xs.length)(e:xs.getD k 0=xs.getD (k-1) 0):Cml xs xs (k+1) k:=
 ⟨c,O7,O,rfl,λq _=>rfl,Ydx (λp q a d=>hs p q a O) b,λx=>by grind,O4⟩
theorem cml_eq{l:List Int}{m:Nat}(h:Cml xs l m k)(b:m<xs.length)(e:l.getD m 0=l.getD (m-1) 0):Cml xs l (m+1) k:=by
 have c:=h.r m O7;have d:=h.r (m-1) O;have a:=h.km;refine⟨h.k1,O,b,h.ll,λq f=>h.r q O,h.s,λx=>(h.e x).trans ⟨?_,?_⟩,?_⟩
 .grind
 .grind
 .rw [h.z,show m+1-1=m by rfl];omega
theorem cml_ne{l:List Int}{m:Nat}(hs:Srt xs xs.length)(h:Cml xs l m k)(f:m<xs.length)(u:l.getD m 0≠l.getD (m-1) 0):Cml xs (l.set k (l.getD m 0)) (m+1) (k+1):=by
 have s:=h.r m O7;have j:=h.km;have t:=h.r (m-1) O;have n:=h.ll;have b:k<l.length:=O;have o:=by have:=hs (m-1) m O f;omega
 refine⟨O7,O,f,O4,λq v=>?_,λp q e c=>?_,λx=>?_,?_⟩
 .rw [Ziy b,aJ O];exact h.r q O
 .rw [Ziy b,Ziy b,aJ (show p≠k by omega)];by_cases a:q=k
  .have w:=h.z;rcases lP (show p<=k-1 by omega)with d|d
   .have:=h.s p (k-1) d O;omega
   grind
  .rw [aJ a];exact h.s p q e O
 .constructor
  .rintro⟨p,e,c⟩;rw [Ziy b]at c;by_cases a:p=k
   .grind
   .rw [aJ a]at c;obtain⟨q,d,g⟩:=(h.e x).1 ⟨p,O,c⟩;grind
  .rintro⟨p,e,c⟩;by_cases a:p=m
   .exact⟨k,O7,O4⟩
   .obtain⟨q,d,g⟩:=(h.e x).2 ⟨p,O,c⟩;exact⟨q,O,O4⟩
 grind
theorem Zzh{l:List Int}{p:Nat}(h:p<k):(l.take k).getD p 0=l.getD p 0:=by grind
theorem cml_e{l:List Int}(h:Cml xs l xs.length k):Cmp xs (l.take k):=by
 have e:=h.km;have d:=h.ll;have c:(l.take k).length=k:=O4;refine⟨λp q b a=>?_,λx=>?_⟩
 .rw [c]at a;rw [Zzh O,Zzh a];exact h.s p q b a
 .rw [Ec,Ec,<-h.e x];grind
def Zk4(x:Int):List Int->List Int
 | []=>[x]
 | y::l=>if x<y then x::y::l else if x=y then y::l else y::Zk4 x l
def Inc:List Int->Prop
 | []=>True
 | x::l=>(∀y∈l,x<y)/\Inc l
theorem Zkw{x z:Int} : ∀{l:List Int},z∈Zk4 x l↔z=x\/z∈l
 | []=>by simp [Zk4]
 | y::l=>by
  unfold Zk4;split
  .simp
  .split
   .rename_i h;subst h;simp
   .rw [aU,Zkw,aU];constructor
    .rintro(h|h|h)
     .exact .inr (.inl h)
     .exact .inl h
     .exact .inr (.inr h)
    .rintro(h|h|h)
     .exact .inr (.inl h)
     .exact .inl h
     .exact .inr (.inr h)
theorem Ztc{x:Int} : ∀{l:List Int},Inc l->Inc (Zk4 x l)
 | [],_=>⟨λy h=>(nomatch h),aA⟩
 | y::l,h=>by
  unfold Zk4;split
  .rename_i b;exact⟨λz a=>by
    rcases aU.1 a with rfl|a
    .exact b
    .have:=h.1 z a;omega,h⟩
  .split
   .exact h
   .refine⟨λz a=>?_,Ztc h.2⟩;rcases Zkw.1 a with rfl|a
    .omega
    .exact h.1 z a
def Zro(l:List Int):List Int:=l.foldr Zk4 []
def Zk5:∀(l:List Int),Inc (Zro l)
 | []=>trivial
 | x::l=>Ztc (Zk5 l)
theorem Zkv{z:Int} : ∀{l:List Int},z∈Zro l↔z∈l
 | []=>mS
 | x::l=>by show z∈Zk4 x (Zro l)↔_;rw [Zkw,Zkv,aU]
theorem Ygp:∀{l m:List Int},Inc l->Inc m->(∀x,x∈l↔x∈m)->l=m
 | [],[],_,_,_=>rfl
 | [],y::m,_,_,h=>absurd ((h y).2 (bX ..)) (λh=>nomatch h)
 | x::l,[],_,_,h=>absurd ((h x).1 (bX ..)) (λh=>nomatch h)
 | x::l,y::m,hl,hm,h=>by
  have e:x=y:=by
   have c:=(h x).1 (bX ..);have b:=(h y).2 (bX ..);rcases aU.1 c with a|a
   .exact a
   .rcases aU.1 b with d|d
    .exact d.symm
    .have:=hm.1 x a;have:=hl.1 y d;omega
  subst e;rw [Ygp hl.2 hm.2 λz=>by
   have c:=h z;rw [aU,aU]at c;constructor
   .intro b;rcases c.1 (.inr b)with a|a
    .have:=hl.1 z b;omega
    .exact a
   .intro b;rcases c.2 (.inr b)with a|a
    .have:=hm.1 z b;omega
    .exact a]
theorem Zzc:∀{l:List Int},Sst l l.length->Inc l
 | [],_=>trivial
 | x::l,h=>⟨λy a=>by obtain⟨k,d,rfl⟩:=Ec.1 a;exact h 0 (k+1) O7 O4,Zzc λp q b c=>h (p+1) (q+1) O O4⟩
theorem Yis{ys zs:List Int}(b:Sam xs ys)(a:Cmp ys zs):zs=Zro xs:=
 Ygp (Zzc a.s) (Zk5 xs) λx=>by rw [a.m,b.2,Zkv]
theorem Zxr:∀{l:List Int},Inc l->Sst l l.length
 | [],_=>λp q _ h=>absurd h (bK _)
 | x::l,h=>λp q a b=>by
  match p,q,a with
  | 0,q+1,_=>
   exact h.1 _ (Zk O4)
  | p+1,q+1,a=>exact Zxr h.2 p q O O4
def Ymq(j:Nat):j=0\/1<=j:=O
theorem hd_s(h:∀q,1<=q->q<k->xs.getD q 0≠xs.getD (q-1) 0)(a:¬xs.getD k 0=xs.getD (k-1) 0):∀q,1<=q->q<k+1->xs.getD q 0≠xs.getD (q-1) 0:=λq b c=>by grind
theorem Zyf(c:List Int)(a:Int):∀k,plS c a 1 k=Yf (λk=>cf c k*a^k) k
 | 0=>rfl
 | k+1=>by show plS c a 1 k+plT c a 1 k=_;rw [Yr,Zyf c a k];congr 1;show c.getD k 0*(a^k*1^_)=cf c k*a^k;rw [mP,iH];rfl
theorem Zm1(f:Nat->Int):∀n,((Yf f n:Int):Rat)=Hr (λi=>(f i:Rat)) n
 | 0=>rfl
 | n+1=>by rw [Yr,Nr,<-Zm1 f n];push_cast;rfl
theorem Yff(c:List Int)(a:Int):((pl c a 1:Int):Rat)=Zc c (a:Rat):=by
 unfold pl;rw [Zyf,Zm1]
 conv=>rhs;rw [<-Ziu c]
 rw [Ziq];exact Ms _ λi hi=>by rw [<-Zc3];push_cast;rfl
theorem Ymy{p c g a D:Int}(s:0<G)(o:0<D)(j:a*G=g*D)(l:c*G=p*D):((Int.gcd a c:Nat):Int)*G=((Int.gcd g p:Nat):Int)*D:=by have d:=mG a G c;have e:=mG g D p;rw [j,l,e]at d;have f:((G.natAbs:Nat):Int)=G:=O;have h:((D.natAbs:Nat):Int)=D:=O;have b:=aE (λn:Nat=>(n:Int)) d;push_cast at b;rw [f,h]at b;exact b.symm
theorem Zz4{p b g a D:Int}(s:0<G)(l:0<D)(n:0<g)(d:b*G=p*D)(c:a*G=g*D)(o:g∣p):b/a=p/g:=by
 obtain⟨t,rfl⟩:=o;have f:b*G=(a*t)*G:=by rw [d,jR g t D,<-c,jR]
 have h:b=a*t:=jM O f;have j:a≠0:=λe=>by rw [e,cP]at c;have:=fC n l;omega
 rw [h,fA _ j,fA _ O]
theorem Zpp(o a:Int)(x y z:List Int):∀i j,j<=i->gS o a 1 x y z i∣gS o a 1 x y z j/\∀k,k<j->gS o a 1 x y z i∣pl (Yg k x y z) a 1
 | 0,j,h=>by obtain rfl:j=0:=O;exact⟨kF _,λk b=>O⟩
 | i+1,j,h=>by
  have c:gS o a 1 x y z (i+1)∣gS o a 1 x y z i:=Int.gcd_dvd_left ..;have f:gS o a 1 x y z (i+1)∣pl (Yg i x y z) a 1:=iN ..;by_cases g:j=i+1
  .subst g;obtain⟨e,d⟩:=Zpp o a x y z i i (aI _);exact⟨kF _,λk b=>by
    rcases aC.1 b with q|q
    .exact fB c (d k q)
    .subst q;exact f⟩
  .obtain⟨e,d⟩:=Zpp o a x y z i j O;exact⟨fB c e,λk b=>fB c (d k b)⟩
theorem Prt.pl{g:Ze}(h:Prt q g G){a:Int}(d:a*(g.1.2.1-g.1.1)=(q.1.1-g.1.1)+(q.1.2.1-q.1.1)*a')(i:Nat) :
  Sky.pl (Yg i q.2.1.2 q.2.2.1.2 q.2.2.2.2) a' 1*G=Sky.pl (Yg i g.2.1.2 g.2.2.1.2 g.2.2.2.2) a 1*(g.1.2.1-g.1.1)^5:=by
 have b:=h.x i (a:Rat) (a':Rat) (by exact_mod_cast d);rw [<-Yff,<-Yff,<-Zc3]at b;have c:((Sky.pl (Yg i q.2.1.2 q.2.2.1.2 q.2.2.2.2) a' 1*G:Int):Rat)=((Sky.pl (Yg i g.2.1.2 g.2.2.1.2 g.2.2.2.2) a 1*(g.1.2.1-g.1.1)^5:Int):Rat):=by rw [Rat.intCast_mul,Rat.intCast_mul,b,kG]
 exact_mod_cast c
theorem Zy2{g:Ze}(h:Prt q g G)(o:SgG g){a:Int}(l:0<=a/\a<=1)(p:a*(g.1.2.1-g.1.1)=(q.1.1-g.1.1)+(q.1.2.1-q.1.1)*a') :
  (∀i,i<3->pl (Yg i q.2.1.2 q.2.2.1.2 q.2.2.2.2) a' 1/gS q.1.2.2 a' 1 q.2.1.2 q.2.2.1.2 q.2.2.2.2 3=pl (Yg i g.2.1.2 g.2.2.1.2 g.2.2.2.2) a 1/gS g.1.2.2 a 1 g.2.1.2 g.2.2.1.2 g.2.2.2.2 3)/\
  q.1.2.2*1^5/gS q.1.2.2 a' 1 q.2.1.2 q.2.2.1.2 q.2.2.2.2 3=g.1.2.2*1^5/gS g.1.2.2 a 1 g.2.1.2 g.2.2.1.2 g.2.2.2.2 3:=by
 have n:0<g.1.2.1-g.1.1:=by have:=h.a0;have:=h.b0;have:=h.ab;omega
 have e:0<(g.1.2.1-g.1.1)^5:=iI n;have b:=(Zzj o (a:=a) (d:=1) ⟨l.1,O⟩ ⟨O3,O3⟩ 3).1;have c:=λi=>h.pl p i;have hs:∀i,gS q.1.2.2 a' 1 q.2.1.2 q.2.2.1.2 q.2.2.2.2 i*G=gS g.1.2.2 a 1 g.2.1.2 g.2.2.1.2 g.2.2.2.2 i*(g.1.2.1-g.1.1)^5:=by
  intro i
  induction i with
  | zero=>
   show q.1.2.2*1^5*G=g.1.2.2*1^5*_;rw [mP,iH,iH];exact h.o
  | succ i s=>
   show((Int.gcd (gS q.1.2.2 a' 1 q.2.1.2 q.2.2.1.2 q.2.2.2.2 i) (pl (Yg i q.2.1.2 q.2.2.1.2 q.2.2.2.2) a' 1):Nat):Int)*G=((Int.gcd (gS g.1.2.2 a 1 g.2.1.2 g.2.2.1.2 g.2.2.2.2 i) (pl (Yg i g.2.1.2 g.2.2.1.2 g.2.2.2.2) a 1):Nat):Int)*_;exact Ymy h.g0 e s (c i)
 obtain⟨t,f⟩:=Zpp g.1.2.2 a g.2.1.2 g.2.2.1.2 g.2.2.2.2 3 3 (aI _);obtain⟨j,-⟩:=Zpp g.1.2.2 a g.2.1.2 g.2.2.1.2 g.2.2.2.2 3 0 O3;refine⟨λi hi=>Zz4 h.g0 e b (c i) (hs 3) (f i hi),Zz4 h.g0 e b ?_ (hs 3) j⟩;rw [mP,iH,iH];exact h.o
theorem me_prt{g h r:Ze}{K:Int}(o:SgG g)(p:SgG h)(t:Prt q g G)(u:Prt r h K)(d:q.1.2.1=g.1.2.1)(c:r.1.1=h.1.1)(s:meG g h=true):meG q r=true:=by
 obtain⟨b,v⟩:=Zy2 t o (a:=1) (a':=1) ⟨O3,O3⟩ (by rw [d];omega);obtain⟨r1,r2⟩:=Zy2 u p (a:=0) (a':=0) ⟨O3,O3⟩ (by rw [c];omega);unfold meG Zkx sameP at *;rw [aQ,eZ,eZ]at *;obtain⟨e,f,j,l,n⟩:=s;refine⟨by rw [d,c];exact e,?_,?_,?_,?_⟩
 .exact(b 0 O3).trans (f.trans (r1 0 O3).symm)
 .exact(b 1 O3).trans (j.trans (r1 1 O3).symm)
 .exact(b 2 O3).trans (l.trans (r1 2 O3).symm)
 .exact v.trans (n.trans r2.symm)
structure Chn (ps:List Ze):Prop where
 lt:∀g∈ps,g.1.1<g.1.2.1
 eq:∀(i:Nat) (g h:Ze),ps[i]? = some g->ps[i+1]? = some h->g.1.2.1=h.1.1
def Chn.tail{g:Ze}(h:Chn (g::r)):Chn r:=⟨λx a=>h.lt x (bN _ a),λi x y a b=>h.eq (i+1) x y a b⟩
theorem Chn.ge:∀{r:List Ze} {g:Ze},Chn (g::r)->∀x∈r,g.1.2.1<=x.1.1
 | [],_,_,_,a=>nomatch a
 | h::r,g,hc,x,a=>by
  have b:=hc.eq 0 g h rfl rfl;rcases aU.1 a with rfl|a
  .omega
  .have:=Chn.ge hc.tail x a;have:=hc.lt h O7;omega
theorem Zi1{fr l:Int} : ∀{ps:List Ze},Chn ps->∀(j:Nat) (f d:Ze),(ps.filter (Lp fr l))[j]? = some f->(ps.filter (Lp fr l))[j+1]? = some d->∃i:Nat,ps[i]? = some f/\ps[i+1]? = some d
 | [],_,j,f,d,h,_=>by simp at h
 | g::r,hc,j,f,d,h1,c=>by
  cases hp:Lp fr l g with
  | false=>
   rw [fV (by rw [hp];exact bF)]at h1 c;obtain⟨i,a,b⟩:=Zi1 hc.tail j f d h1 c;exact⟨i+1,a,b⟩
  | true=>
   rw [eG hp]at h1 c
   match j with
   | j+1=>
    obtain⟨i,a,b⟩:=Zi1 hc.tail j f d h1 c;exact⟨i+1,a,b⟩
   | 0=>
    obtain rfl:g=f:=by simpa using h1
    have c:(r.filter (Lp fr l))[0]? = some d:=c;have s:d∈r.filter (Lp fr l):=dH c;obtain⟨e,n⟩:=fM.1 s
    match r,hc,c,e with
    | h::r,hc,c,e=>
     have u:=hc.eq 0 g h rfl rfl;have v:=hc.lt h O7;have t:=cH hp;have o:=cH n;have p:Lp fr l h=true:=by
      refine aD ?_;unfold cA cB at *;rcases aU.1 e with rfl|q
      .exact o
      .have:=Chn.ge hc.tail d q;omega
     rw [eG p]at c;obtain rfl:h=d:=by simpa using c
     exact⟨0,rfl,rfl⟩
theorem getD_some{α:Type}{l:List α}{x d:α}(h:l[i]? = some x):l.getD i d=x:=by rw [aN,h];rfl
theorem Ea{ps:List Ze}(hi:∀g∈ps,Gin g)(n:Xc ps=true):Chn ps/\(∀g∈ps,seB g=true)/\∀(i:Nat) (g h:Ze),ps[i]? = some g->ps[i+1]? = some h->meG g h=true:=by
 obtain⟨l,o,p⟩:=Oi n;have d:∀g∈ps,seB g=true:=λg a=>by obtain⟨i,b,e⟩:=dG.1 a;have:=Cz (l i b);rw [aN,aM b,eY,e]at this;exact this
 have c:∀(i:Nat) (g h:Ze),ps[i]? = some g->ps[i+1]? = some h->meG g h=true:=λi g h a f=>by have j:=(cJ.1 f).1;have:=l (i+1) j;rw [Zkj (Cz this) O,lO,getD_some a,getD_some f]at this;exact this
 refine⟨⟨λg a=>(Ie (hi g a) (d g a)).t2,λi g h a f=>?_⟩,d,c⟩;have:=c i g h a f;unfold meG Zkx at this;rw [aQ,eZ]at this;exact this.1
structure Pat (fr to:Int) (ps qs:List Ze):Prop where
 gin:∀q∈qs,Gin q
 pb:Xc qs=true
 len:qs.length=(ps.filter (Lp fr to)).length
 prt:∀(j:Nat) (q:Ze),qs[j]? = some q->∃f:Ze,(ps.filter (Lp fr to))[j]? = some f/\f∈ps/\Prt q f (cG fr to f)
 nxt:∀(j:Nat) (q r:Ze),qs[j]? = some q->qs[j+1]? = some r->∃(i:Nat) (f h:Ze),ps[i]? = some f/\ps[i+1]? = some h/\Prt q f (cG fr to f)/\Prt r h (cG fr to h)/\q.1.2.1=f.1.2.1/\r.1.1=h.1.1
theorem Yii{fr d:Int}{ps:List Ze}(hi:∀g∈ps,Gin g)(N:Xc ps=true)(w:Pp fr d ps=true)(R:qs.map Ds=(ps.filter (Lp fr d)).map (Zwr fr d))(I:ps.filter (Lp fr d)≠[]):Pat fr d ps qs:=by
 obtain⟨P,t,H⟩:=Ea hi N;have hl:qs.length=(ps.filter (Lp fr d)).length:=by have:=aE List.length R;rwa [bJ,bJ]at this
 have z:∀(j:Nat) (q:Ze),qs[j]? = some q->∃f:Ze,(ps.filter (Lp fr d))[j]? = some f/\f∈ps/\Lp fr d f=true/\Ds q=Zwr fr d f/\Gin q/\seB q=true/\Prt q f (cG fr d f):=λj q n=>by have a0:=(cJ.1 n).1;have x:(ps.filter (Lp fr d))[j]? = some ((ps.filter (Lp fr d))[j]' O):=aM O;generalize (ps.filter (Lp fr d))[j]' O=f at x;obtain⟨u,B⟩:=fM.1 (dH x);have e:=aE (λl:List Zht=>l[j]?) R;simp only [gJ,n,x,Option.map_some,iJ]at e;have hk:Zgj fr d f=true:=bA.1 w f (dH x);obtain⟨a,b,c⟩:=Yaa (hi f u) (t f u) B hk e;exact⟨f,x,u,B,e,a,b,c⟩
 have Q:∀(j:Nat) (q r:Ze),qs[j]? = some q->qs[j+1]? = some r->∃(i:Nat) (f h:Ze),ps[i]? = some f/\ps[i+1]? = some h/\Prt q f (cG fr d f)/\Prt r h (cG fr d h)/\q.1.2.1=f.1.2.1/\r.1.1=h.1.1:=λj q r n hr=>by
  obtain⟨f,f1,f2,f3,f4,-,-,f7⟩:=z j q n;obtain⟨h,F,Z,h3,h4,-,-,h7⟩:=z (j+1) r hr;obtain⟨i,S,V⟩:=Zi1 P j f h f1 F;have e1:=P.eq i f h S V;have c1:=cH f3;have c2:=cH h3;have q1:q.1=(cA fr f,cB d f,mdO (cO f) (cG fr d f)):=aE Prod.fst f4;have r1:r.1=(cA fr h,cB d h,mdO (cO h) (cG fr d h)):=aE Prod.fst h4;refine⟨i,f,h,S,V,f7,h7,?_,?_⟩
  .rw [q1];show cB d f=_;unfold cA cB at *;omega
  .rw [r1];show cA fr h=_;unfold cA cB at *;omega
 have y:∀q∈qs,Gin q:=λq M=>by obtain⟨j,n⟩:=eO.1 M;obtain⟨f,-,-,-,-,h,-⟩:=z j q n;exact h
 have v:qs.length<=256:=by have F:=gF (Lp fr d) ps;have Z:=(Oi N).2.2;omega
 have F:1<=qs.length:=by have:=aL.2 I;omega
 refine⟨y,?_,hl,λj q n=>?_,Q⟩
 .rw [Zo1 (λi o=>?_),aD ⟨F,v⟩];have n:qs[i]? = some (qs[i]'(o)):=aM o;generalize qs[i]'(o)=q at n;obtain⟨f,-,-,-,-,-,hs,-⟩:=z i q n;rcases aX i with D|D
  .exact Zvs (by rw [getD_some n];exact hs) D
  .rw [Zkj (by rw [getD_some n];exact hs) D,getD_some n];have s:qs[i-1]? = some (qs[i-1]' O):=aM O;generalize qs[i-1]' O=p at s;rw [getD_some s];obtain⟨k,f,h,W,Y,k3,k4,k5,k6⟩:=Q (i-1) p q s (by rw [lQ D];exact n);have u:=dH W;have B:=dH Y;exact me_prt (Ie (hi f u) (t f u)) (Ie (hi h B) (t h B)) k3 k4 k5 k6 (H k f h W Y)
 .obtain⟨f,f1,f2,-,-,-,-,f7⟩:=z j q n;exact⟨f,f1,f2,f7⟩
theorem Zwq{fr b:Int} : ∀{ps:List Ze},Chn ps->ps≠[]->spF ps<=fr->fr<b->b<=spL ps->ps.filter (Lp fr b)≠[]
 | [],_,h,_,_,_=>absurd rfl h
 | g::r,hc,_,f,h2,a=>by
  have l:=hc.lt g O7;have f:g.1.1<=fr:=f;by_cases c:Lp fr b g=true
  .rw [eG c];exact List.cons_ne_nil _ _
  .have d:¬cA fr g<cB b g:=λh=>c (aD h);have e:g.1.2.1<=fr:=by unfold cA cB at d;omega
   rw [fV c]
   match r,hc,a with
   | [],_,a=>
    have a:b<=g.1.2.1:=a;omega
   | h::r,hc,a=>
    have j:=hc.eq 0 g h rfl rfl;refine Zwq hc.tail (List.cons_ne_nil _ _) (by show h.1.1<=fr;omega) h2 ?_;have:spL (g::h::r)=spL (h::r):=by unfold spL;simp
    rw [<-this];exact a
end Go.Sky

