/- Rules, arithmetic and contracts: part 8. No conditions but those that each theorem names. -/
import Derived.Test.YtoaklaecgjlfoaaTm06
import Derived.RangeFuncFrom
import Derived.RangeFuncLeaves
import Derived.OrdersIn
import Derived.TacticsIn
import Derived.RangeFuncCalls
set_option linter.all false
namespace Go.Sky
variable{xs p y z:List Int}{b a m:R2}{M:Nat}{ov:Int}{lo:Rat}
def Zh6(xs:List Int)(m:Nat):Prop:=xs.length=0\/(xs.length+2)*(xs.length+2)*(Kp xs+m+2*(xs.length-1)+32)<=65536
instance (xs:List Int) (m:Nat):Decidable (Zh6 xs m):=by unfold Zh6;infer_instance
def efit(z:R2):Bool:=decide (max (bl z.1.natAbs) (bl z.2.natAbs)<=512)
def fst0:List Int->Int
 | []=>0
 | x::r=>if x=0 then fst0 r else x
def aft(c:List (List Int))(m:R2):Int:=fst0 (c.map (fat m.1 m.2))
def vlu(c:List (List Int))(m:R2):Int:=if c.length=0 then 0 else fat m.1 m.2 (c.getD 0 [])
def chv(c:List (List Int))(m:R2):Int:=chg (c.map (fat m.1 m.2))
def crb(c:List (List Int))(a b:R2):Bool:=if c.length=0 then false else decide (0<chv c a-chv c b-if fat b.1 b.2 (c.getD 0 [])=0 then 1 else 0)
def cmp(a b:R2):Int:=(a.1*b.2-b.1*a.2).sign
def ngb(c cs:List (List Int))(a b:R2):Bool:=if cmp a b=0 then decide (vlu c a<0)else(decide (aft c a<0) || crb cs a b)
theorem Zco{x:Rat}(h:Ot x=0):x=0:=by
 rcases Yk x with⟨d,c⟩|⟨d,c⟩|⟨d,c⟩
 .rw [c]at h;exact absurd h O3
 .rw [c]at h;exact absurd h O3
 .exact d
def Zj1:Nat->List Int->List (List Int)
 | 0,_=>[]
 | n+1,p=>if p.length=0 then []else p::Zj1 n (Zv p)
theorem Zdl{m:R2}(g:0<m.2):∀(n:Nat) (p:List Int),p.length<=n->aft (Zj1 n p) m=Oq n p (qv m)
 | 0,p,i=>rfl
 | n+1,p,i=>by
  unfold Zj1;by_cases f:p.length=0
  .rw [aK f];have:p=[]:=aE f;subst this;have c:∀n,Oq n [] (qv m)=0:=λn=>by
    induction n with
    | zero=>rfl
    | succ n d=>unfold Oq;rw [aG (by show ¬(0:Rat)≠0;simp)];exact d
   rw [c];rfl
  .rw [aG f];have j:=Qx p;have d:=Zdl g n (Zv p) O;unfold aft at d ⊢;rw [bK];unfold fst0 Oq;have h:fat m.1 m.2 p=Ot (Za p (qv m)):=Zbz g p;rw [h];by_cases c:Za p (qv m)=0
   .rw [aK (Zcp c),aG (by simpa using c)];exact d
   .rw [aG (λe=>c (Zco e)),aK c]
structure Cvd (xs:List Int):Prop where
 v:Vp xs
 s:Sz 205 xs
 l:xs.length<=11
def Oz(xs:List Int):List Int:=Zit 13 xs.length [1] (Zw xs)
structure OddI (xs:List Int) (t:Nat) (rest out before:List Int):Prop where
 ex:∃f q,Dp xs q/\q.length<=f/\Zit 13 f out q=Oz xs/\Tr out/\Op xs out q/\((t%2=1/\rest=q)\/(t%2=0/\rest=Qs 13 q/\before=sqf 13 q/\(sqf 13 q).length≠1))
theorem OddI.start{b:List Int}(h:Cvd xs)(c:xs≠[]):OddI xs 1 (Zw xs) [1] b:=
 ⟨xs.length,Zw xs,Dp.start h.v.tr c,by rw [Yx h.v.tr];exact aH _,rfl,.inr O3,Op.start h.v.tr,.inl ⟨rfl,rfl⟩⟩
theorem OddI.out{t:Nat}{e d c:List Int}(h:Cvd xs)(j:xs≠[])(n:OddI xs t e d c):Vp d/\Sz 220 d/\d.length<=11:=by obtain⟨f,q,k,o,r,g,l,-⟩:=n.ex;obtain⟨i,s,u⟩:=l.sz h.v.tr j h.s (by have:=h.l;omega) g k.1;have:=h.l;exact⟨⟨i.mono O,g,O⟩,i,O⟩
theorem Zg0(h:Cvd xs)(d:xs≠[]):Oz xs=Gk 13 xs.length (Zw xs):=by have c:=Dp.start h.v.tr d;have f:=h.l;have e:=(c.ok h.v.tr d h.s O O (show xs.length<=13+1 by omega)).2;unfold Oz;rw [Zl3 h.v.tr d h.s O O O xs.length [1] (Zw xs) (.inr (show cf [1] 0≠0 by decide)) c (by rw [Yx h.v.tr];exact aH _),Zl0 (Zfj xs c.1 c.2.1 e)]
theorem Zbm(h:Cvd xs)(c:xs≠[]):Odp 13 205 xs (Oz xs)/\Vp (Oz xs)/\Sz 220 (Oz xs)/\(Oz xs).length<=xs.length/\Zag (Oz xs):=by
 have d:=Dp.start h.v.tr c;have t:=h.l;have k:=(d.ok h.v.tr c h.s O O (show xs.length<=13+1 by omega)).2;have j:=Zg0 h c;have f:Tr (Oz xs):=by rw [j];exact Zfj xs d.1 d.2.1 k
 obtain⟨⟨B,l⟩,-⟩:=Of h.v.tr c h.s O O (show xs.length<=13+1 by omega) xs.length (Zw xs) d (by rw [Yx h.v.tr];exact aH _);rw [<-j]at l;have e:Zw xs=Yj (Yj B B) (Oz xs):=d.1.ext Yo λi=>Qa (λx=>by rw [l x,Zl,Zl];grind) i;obtain⟨g,r,n⟩:=Zjw h.v.tr c h.s O Yo f e;have q:=(chG 13 f n g O O O).1;refine⟨⟨h.v.tr,c,h.s,O,O,O,j,f,n,q⟩,⟨g.mono O,f,O⟩,g,r,.inr ?_⟩;have u:=Ky g;have o:((Oz xs).length+2)*((Oz xs).length+2)<=13*13:=bT O O;have s:((Oz xs).length+2)*((Oz xs).length+2)*(Kp (Oz xs)+16)<=13*13*236:=bT o O;omega
def chx(xs:List Int):List (List Int):=if xs.length=0 then []else Gu 13 (Oz xs)
def Lr(xs:List Int):List (List Int):=Zj1 xs.length xs
theorem qv_mul(c:0<a.2)(d:0<b.2):((a.1*b.2-b.1*a.2:Int):Rat)=(qv a-qv b)*((a.2:Rat)*(b.2:Rat)):=by have e:=Oi c;have f:=Oi d;unfold qv;push_cast;grind
theorem Zgc(c:0<a.2)(d:0<b.2):cmp a b=0↔qv a=qv b:=by
 have e:=qv_mul c d;have g:=aN (Oi c) (Oi d);unfold cmp;rw [Int.sign_eq_zero_iff_zero];constructor
 .intro h;rw [h]at e;rcases dE.1 (show(qv a-qv b)*((a.2:Rat)*(b.2:Rat))=0 by rw [<-e];rfl)with q|q
  .grind
  .rw [q]at g;grind
 .intro h;have f:((a.1*b.2-b.1*a.2:Int):Rat)=0:=by rw [e,h];grind
  exact_mod_cast f
def Zju(c:0<m.2)(p:List Int):fat m.1 m.2 p=Ot (Za p (qv m)):=Zbz c p
theorem Znh(h:Cvd xs)(g:xs≠[])(n:0<a.2)(i:0<b.2):crb (chx xs) a b=true↔Lt 13 (Oz xs) (qv a) (qv b):=by
 obtain⟨f,t,u,v,w⟩:=Zbm h g;have d:xs.length≠0:=λe=>g (aE e);unfold crb Lt chx;rw [aG d];have q:∃r,Gu 13 (Oz xs)=sqf 13 (Oz xs)::r:=by unfold Gu Ql;split<;>exact⟨_,rfl⟩
 obtain⟨r,j⟩:=q;have k:∀m:R2,0<m.2->chv (Gu 13 (Oz xs)) m=Ly 13 (Oz xs) (qv m):=λm s=>(cvc_v (F:=13) (xs:=Oz xs) s);rw [aG (by rw [j];simp),k a n,k b i];have o:(Gu 13 (Oz xs)).getD 0 []=sqf 13 (Oz xs):=by rw [j];rfl
 rw [o,Zju i];have l:Ot (Za (sqf 13 (Oz xs)) (qv b))=0↔Za (Oz xs) (qv b)=0:=⟨λe=>(f.zero _).1 (Zco e),λe=>Zcp ((f.zero _).2 e)⟩;by_cases c:Za (Oz xs) (qv b)=0
 .rw [aK c,aK (l.2 c)];exact fY
 .rw [aG c,aG (λe=>c (l.1 e))];exact fY
theorem Zcf(d:0<m.2):vlu (Lr xs) m=Ot (Za xs (qv m)):=by
 unfold vlu Lr;by_cases c:xs.length=0
 .have:xs=[]:=aE c;subst this;rfl
 .obtain⟨n,e⟩:∃n,xs.length=n+1:=⟨xs.length-1,O⟩;rw [e];unfold Zj1;rw [aG c,aG O6];exact Zju d xs
theorem Zl4(h:Cvd xs)(d:0<a.2)(l:0<b.2)(k:qv a<=qv b):ngb (Lr xs) (chx xs) a b=true↔Zho xs (qv a) (qv b):=by
 unfold ngb;by_cases g:cmp a b=0
 .rw [aK g,Zcf d,fY];have e:=(Zgc d l).1 g;constructor
  .intro c;refine⟨qv a,gC,k,?_⟩;rcases Yk (Za xs (qv a))with⟨j,f⟩|⟨j,f⟩|⟨j,f⟩
   .rw [f]at c;exact absurd c O3
   .exact j
   .rw [f]at c;exact absurd c O3
  .rintro⟨x,r,s,o⟩;have:x=qv a:=O2;rw [<-this,Zai o];decide
 .rw [aG g];have n:qv a<qv b:=by have:=λe=>g ((Zgc d l).2 e);grind
  by_cases i:xs=[]
  .subst i;constructor
   .intro c;exact absurd c (by show ¬(decide ((0:Int)<0) || false)=true;decide)
   .rintro⟨x,r,s,o⟩;exact absurd o (by show ¬(0:Rat)<0;grind)
  .obtain⟨q,t,u,v,w⟩:=Zbm h i;rw [<-q.sem n,gY,fY,Znh h i d l,show aft (Lr xs) a=Oq xs.length xs (qv a)from Zdl d _ _ (aH _)]
def Ab(M:Nat)(p:List Int):Prop:=∀i,(cf p i).natAbs<=M
def Ab.sz{n:Nat}(h:Ab M p)(c:M<2^n):Sz n p:=λi=>(Oo n _).2 (fE (h i) c)
def Ab.mono{N:Nat}(h:Ab M p)(c:M<=N):Ab N p:=λi=>aM (h i) c
def dN:Nat->List Int->List Int
 | 0,p=>p
 | n+1,p=>Zv (dN n p)
def axQ(o:Nat)(c:List Int):List Int:=Ya (dN o (tzl c)) (1000^o)
def sqQ(o:Nat)(c:List Int):List Int:=Yj (axQ o c) (axQ o c)
def sumQ(o:Nat)(x y z:List Int):Nat->List Int
 | 0=>[]
 | i+1=>Dw (sumQ o x y z i) (sqQ o (Xh i x y z))
def kilo(o:Nat):Int:=Lo (List.replicate o 1000)
def timC(o:Nat)(m ov T:Int):Int:=Lo (m::ov::List.replicate o T)
def oneQ(o:Nat)(m ov T:Int):List Int:=Ya [1] (timC o m ov T)
def formP(o:Nat)(m ov T:Int)(x y z:List Int):List Int:=Zq (Fh (Yj (oneQ o m ov T) (oneQ o m ov T)) (sumQ o x y z 3))
structure Sgo (fr to ov:Int) (x y z:List Int):Prop where
 t1:0<=fr
 t2:fr<to
 t3:to<=3600000
 o1:1<=ov
 o2:ov<=4294967296
 hx:∀a∈x,Ir a
 hy:∀a∈y,Ir a
 hz:∀a∈z,Ir a
 lx:1<=x.length/\x.length<=6
 ly:1<=y.length/\y.length<=6
 lz:1<=z.length/\z.length<=6
def Sgo.hc{fr c:Int}{x:List Int}(h:Sgo fr c ov x y z)(i:Nat):∀a∈Xh i x y z,Ir a:=Zmp h.hx h.hy h.hz i
def Sgo.lc{fr c:Int}{x:List Int}(h:Sgo fr c ov x y z)(i:Nat):1<=(Xh i x y z).length/\(Xh i x y z).length<=6:=Zcm (p:=λl:List Int=>1<=l.length/\l.length<=6) h.lx h.ly h.lz
theorem Sgo.of{fr f:Int}{x:List Int}(n:∀a∈x,Ir a)(o:∀a∈y,Ir a)(q:∀a∈z,Ir a)(h:segB fr f ov x y z=true):Sgo fr f ov x y z:=by unfold segB timB axB at h;simp only [bH,cD]at h;obtain⟨⟨⟨⟨⟨⟨⟨⟨g,i⟩,j⟩,k⟩,l⟩,c⟩,d⟩,e⟩,-⟩:=h;exact⟨g,i,j,k,l,n,o,q,⟨c.1.1.1,c.1.1.2⟩,⟨d.1.1.1,d.1.1.2⟩,⟨e.1.1.1,e.1.1.2⟩⟩
def Mk:Nat->Nat
 | 0=>2^63
 | 1=>5*2^63
 | _=>4*(5*2^63)
def Lw(z:R2):Prop:=0<z.2/\Int.gcd z.1 z.2=1
theorem lgcd_p{x y:Int}(c:0<y):Ol x y=(Int.gcd x y:Int):=by unfold Ol;rw [aG O]
theorem Zi7 (x:Int){y:Int}(c:0<y):Lw (x/Ol x y,y/Ol x y):=by have d:0<Int.gcd x y:=Int.gcd_pos_of_ne_zero_right _ O;rw [lgcd_p c];refine⟨Int.ediv_pos_of_pos_of_dvd c O (fJ ..),?_⟩;exact Int.gcd_ediv_gcd_ediv_gcd d
theorem Zbo(c:0<a.2)(h:¬Np a.1 a.2):Lw (slow a):=by obtain⟨d,e,-⟩:=Zbn h;have:=Zi7 a.1 c;unfold slow;rw [d,e];exact this
theorem Zi6(h:Dk a b)(c:0<a.2)(d:0<b.2):Lw (Yv a b):=by obtain⟨f,g,-⟩:=Zbn h.2;have e:0<Nq (a.1*b.2+b.1*a.2) (a.2*b.2)*2:=fZ (Ziu h.1 (fZ c d)) O3;have:=Zi7 (Me (a.1*b.2+b.1*a.2) (a.2*b.2)*1) e;unfold Yv;rw [f,g];exact this
structure Hv (n Q j:Nat) (W:Rat) (a b:R2):Prop where
 hQ:0<Q
 hQ2:Q<2^(2*n)
 ea:En (2^n) Q j a
 eb:En (2^n) Q j b
 wd:(qv b-qv a)*((2^j:Nat):Rat)=W
 le:qv a<=qv b
 la:Lw a
 lb:Lw b
theorem Hv.start{n:Nat}(g:0<a.2)(h:0<b.2)(j:bl a.1.natAbs<=n)(r:bl a.2.natAbs<=n)(k:bl b.1.natAbs<=n)(s:bl b.2.natAbs<=n)(l:n<=65536)(i:qv a<=qv b):∃Q,Hv n Q 0 (qv b-qv a) (slow a) (slow b):=by
 obtain⟨B,D,G,F,d⟩:=Ix _ g j r l;obtain⟨t1,t2,t3,t4,t5⟩:=Ix _ h k s l;have w:=(Oo n _).1 F;have x:=(Oo n _).1 t4;have o:=Zbj g (bP ((Oo n _).1 j));have q:=Zbj h (bP ((Oo n _).1 k));have e:0<(slow a).2.natAbs*(slow b).2.natAbs:=eI O O;have f:(slow a).2.natAbs*(slow b).2.natAbs<2^(2*n):=by rw [show 2*n=n+n by omega,eO];exact iC w (bP x) (cF O3)
 generalize v:(slow a).2.natAbs*(slow b).2.natAbs=Q at *;have c:((Q*2^0:Nat):Int)=(slow a).2*(slow b).2:=by rw [kW,Nat.mul_one,<-v];push_cast;rw [gW O,gW O]
 have t:En (2^n) Q 0 (slow a):=⟨D,by rw [c];exact fK _ _,by rw [d];exact o.1,by rw [d];exact o.2⟩;have u:En (2^n) Q 0 (slow b):=⟨t2,by rw [c];exact Int.dvd_mul_left _ _,by rw [t5];exact q.1,by rw [t5];exact q.2⟩;exact⟨Q,e,f,t,u,by rw [d,t5,kW];push_cast;grind,by rw [d,t5];exact i,Zbo g B,Zbo h t1⟩
theorem Hv.mid{n Q j B:Nat}{W:Rat}(h:Hv n Q j W a b)(D:3*n+2+j<=B)(f:B<=65536) :
  Dk a b/\(bl (Yv a b).1.natAbs<=B/\bl (Yv a b).2.natAbs<=B/\0<(Yv a b).2)/\qv (Yv a b)=(qv a+qv b)/2/\(bl a.1.natAbs<=B/\bl a.2.natAbs<=B/\0<a.2)/\(bl b.1.natAbs<=B/\bl b.2.natAbs<=B/\0<b.2)/\
  Hv n Q (j+1) W a (Yv a b)/\Hv n Q (j+1) W (Yv a b) b:=by
 have c:∀m,m<=B->2^m<=2^B:=λm h=>dX O3 h;have e:Q*2^(j+1)<2^B:=by have:Q*2^(j+1)<2^(2*n)*2^(j+1):=fL h.hQ2 (cF O3);rw [<-eO]at this;exact cW this (c _ O)
 have g:2*2^n*(Q*2^j)<2^B:=by
  have r:Q*2^j<2^(2*n)*2^j:=fL h.hQ2 (cF O3);have l:2*2^n*(Q*2^j)<2*2^n*(2^(2*n)*2^j):=fN r (eI O3 (cF O3));have s:2*2^n*(2^(2*n)*2^j)=2^(3*n+1+j):=by rw [<-eO,<-Nat.pow_succ',<-eO];congr 1;omega
  rw [s]at l;exact cW l (c _ O)
 obtain⟨q,i,k,u,v⟩:=mid_en h.ea h.eb h.hQ e g f;obtain⟨w,x⟩:=Zjx j 0 B h.ea h.hQ h.hQ2 O;obtain⟨r1,r2⟩:=Zjx j 0 B h.eb h.hQ h.hQ2 O;have d:=Zi6 q h.ea.pos h.eb.pos;have o:((2^(j+1):Nat):Rat)=2*((2^j:Nat):Rat):=by rw [dJ];push_cast;grind
 have t:=h.le;refine⟨q,⟨u,v,i.pos⟩,k,⟨w,x,h.ea.pos⟩,⟨r1,r2,h.eb.pos⟩,⟨h.hQ,h.hQ2,h.ea.up,i,?_,O2,h.la,d⟩,⟨h.hQ,h.hQ2,i,h.eb.up,?_,O2,d,h.lb⟩⟩
 .rw [k,o,<-h.wd];grind
 .rw [k,o,<-h.wd];grind
def Zgt{k n:Nat}(h:Sz k p)(c:k<=n)(i:Nat):(cf p i).natAbs<=2^n:=aM (Ek h i) (dX O3 c)
theorem Zlk(h:Cvd xs)(f:xs≠[]):Km 13 xs/\∀u v:Rat,-((2^34:Nat):Rat)<=u->u<=v->v<=((2^34:Nat):Rat)->v-u<=1/((2^5000:Nat):Rat)->Ly 13 xs u-Ly 13 xs v<=1:=by
 have r:=h.l;obtain⟨g,c,o,q⟩:=chG 13 h.v.tr f h.s O O O;have e:=Cu c O;have d:∀n,n<=11->2<=n->Ze8 (2^34) (2^225) n 5000=true:=O5;obtain⟨n,j⟩:∃n:Nat,n=225:=⟨_,rfl⟩;rw [<-j]at d;have e:Sz n (Zv (sqf 13 xs)):=by rw [j];exact e
 have l:∀i,(cf (sqf 13 xs) i).natAbs<=2^n:=λi=>Zgt c O i;exact⟨g,λu v=>sep_of h.v.tr f g (cF O3) (A:=2^n) (cF O3) l (λi=>Ek e i) (λk=>d _ O k) u v⟩
theorem Zgy{j e w:Nat}{x W:Rat}(n:1/((2^(e+1):Nat):Rat)<x)(o:x*((2^j:Nat):Rat)=W)(r:W<=((2^w:Nat):Rat)):j<e+1+w:=by
 have d:=two_pow_pos (e+1);have f:=two_pow_pos j;rcases bD j (e+1+w)with q|q
 .exact q
 .exfalso;have hi:0<((2^(e+1):Nat):Rat)⁻¹:=dW.2 d;have c:((2^(e+1):Nat):Rat)*((2^(e+1):Nat):Rat)⁻¹=1:=iE _ O2;have g:((2^(e+1):Nat):Rat)*((2^w:Nat):Rat)<=((2^j:Nat):Rat):=by
   have:2^(e+1)*2^w<=2^j:=by rw [<-eO];exact dX O3 q
   exact_mod_cast this
  have h:((2^(e+1):Nat):Rat)⁻¹<x:=O2;have i:=aN (show 0<x-((2^(e+1):Nat):Rat)⁻¹ by grind) f;have k:=aC (bQ hi) (show 0<=((2^j:Nat):Rat)-((2^(e+1):Nat):Rat)*((2^w:Nat):Rat) by grind);have l:((2^(e+1):Nat):Rat)⁻¹*(((2^(e+1):Nat):Rat)*((2^w:Nat):Rat))=((2^w:Nat):Rat):=by rw [<-gR,jF (((2^(e+1):Nat):Rat)⁻¹),c,lJ]
  grind
structure NIn (xs:List Int) (s t:Rat) (j:Nat) (a b:R2):Prop where
 ex:∃Q W,Hv 34 Q j W a b/\W<=((2^34:Nat):Rat)
 lo:s<=qv a
 hi:qv b<=t
 l0:-((2^33:Nat):Rat)<=s
 h0:t<=((2^33:Nat):Rat)
 pa:0<=Za xs (qv a)
 pb:0<=Za xs (qv b)
 ng:Zho xs (qv a) (qv b)
theorem rat34:((2^34:Nat):Rat)=2*((2^33:Nat):Rat)/\(1:Rat)<=((2^33:Nat):Rat):=by
 have h:∀n:Nat,((2^(n+1):Nat):Rat)=2*((2^n:Nat):Rat):=λn=>by rw [dJ];push_cast;grind
 constructor
 .exact h 33
 .exact_mod_cast (show 1<=2^33 by decide)
theorem NIn.j{hi:Rat}{j:Nat}(d:Cvd xs)(c:xs≠[])(h:NIn xs lo hi j a b):j<5035:=by obtain⟨Q,W,f,g⟩:=h.ex;obtain⟨i,hs⟩:=Zlk d c;obtain⟨q,r⟩:=rat34;have k:=h.lo;have l:=h.hi;have n:=h.l0;have o:=h.h0;have:=Zl5 (Zbm d c).1 i (K:=2^34) (e:=5000) hs (s:=qv a) (t:=qv b) O2 O2 h.pa h.pb h.ng;exact Zgy (e:=5000) (w:=34) this f.wd g
theorem NIn.start(c:0<a.2)(d:0<b.2)(g:bl a.1.natAbs<=32)(r:bl a.2.natAbs<=32)(h:bl b.1.natAbs<=32)(s:bl b.2.natAbs<=32)(e:qv a<=qv b)(k:0<=Za xs (qv a))(l:0<=Za xs (qv b))(j:Zho xs (qv a) (qv b)) :
  NIn xs (qv a) (qv b) 0 (slow a) (slow b):=by
 obtain⟨Q,i⟩:=Hv.start (n:=34) c d O O O O O e;obtain⟨-,-,-,-,f⟩:=Ix 34 c O O O;obtain⟨-,-,-,-,t5⟩:=Ix 34 d O O O;have o:=Zbj (K:=2^33) c (aM (bP ((Oo 32 _).1 g)) O3);have q:=Zbj (K:=2^33) d (aM (bP ((Oo 32 _).1 h)) O3);obtain⟨t,u⟩:=rat34;exact⟨⟨Q,_,i,O2⟩,by rw [f];exact gC,by rw [t5];exact gC,o.1,q.2,by rw [f];exact k,by rw [t5];exact l,by rw [f,t5];exact j⟩
structure Fnd (xs:List Int) (s t:Rat) (m:R2):Prop where
 ng:Za xs (qv m)<0
 lo:s<=qv m
 hi:qv m<=t
 b1:bl m.1.natAbs<=5200
 b2:bl m.2.natAbs<=5200
 lw:Lw m
theorem NIn.round{hi:Rat}{j:Nat}(r:Cvd xs)(w:xs≠[])(h:NIn xs lo hi j a b) :
  Dk a b/\(bl (Yv a b).1.natAbs<=5200/\bl (Yv a b).2.natAbs<=5200/\0<(Yv a b).2)/\(bl a.1.natAbs<=5200/\bl a.2.natAbs<=5200/\0<a.2)/\(bl b.1.natAbs<=5200/\bl b.2.natAbs<=5200/\0<b.2)/\
  (vlu (Lr xs) (Yv a b)<0->Fnd xs lo hi (Yv a b))/\(¬vlu (Lr xs) (Yv a b)<0->ngb (Lr xs) (chx xs) a (Yv a b)=true->NIn xs lo hi (j+1) a (Yv a b))/\
  (¬vlu (Lr xs) (Yv a b)<0->ngb (Lr xs) (chx xs) a (Yv a b)=false->NIn xs lo hi (j+1) (Yv a b) b):=by
 have R:=h.j r w;obtain⟨Q,W,n,o⟩:=h.ex;obtain⟨t,i,S,l,u,H,I⟩:=n.mid (B:=5200) O O;have D:=n.le;have F:=h.lo;have G:=h.hi;have s:=Zcf (xs:=xs) i.2.2;have g:¬vlu (Lr xs) (Yv a b)<0->0<=Za xs (qv (Yv a b)):=λc=>by
  rw [s]at c;rcases Yk (Za xs (qv (Yv a b)))with⟨d,e⟩|⟨d,e⟩|⟨d,e⟩
  .exact bQ d
  .rw [e]at c;exact absurd O3 c
  .rw [d];exact gC
 have f:=Zl4 r l.2.2 i.2.2 (show qv a<=qv (Yv a b) by grind);refine⟨t,i,l,u,λc=>?_,λc k=>?_,λc k=>?_⟩
 .have:Za xs (qv (Yv a b))<0:=by
   rw [s]at c;rcases Yk (Za xs (qv (Yv a b)))with⟨d,e⟩|⟨d,e⟩|⟨d,e⟩
   .rw [e]at c;exact absurd c O3
   .exact d
   .rw [e]at c;exact absurd c O3
  exact⟨this,O2,O2,i.1,i.2.1,Zi6 t l.2.2 u.2.2⟩
 .exact⟨⟨Q,W,H,o⟩,F,O2,h.l0,h.h0,h.pa,g c,f.1 k⟩
 .refine⟨⟨Q,W,I,o⟩,O2,G,h.l0,h.h0,g c,h.pb,?_⟩;obtain⟨x,N,P,v⟩:=h.ng;rcases(show x<=qv (Yv a b)\/qv (Yv a b)<=x by grind)with q|q
  .have:=f.2 ⟨x,N,q,v⟩;rw [k]at this;exact absurd this O3
  .exact⟨x,q,P,v⟩
def frs(xs:List Int):Nat->R2->R2->R2×R2
 | 0,a,b=>(a,b)
 | n+1,a,b=>if ngb (Lr xs) (chx xs) a (Yv a b)then frs xs n a (Yv a b)else frs xs n (Yv a b) b
structure E32 (a:R2):Prop where
 p:0<a.2
 b1:bl a.1.natAbs<=32
 b2:bl a.2.natAbs<=32
theorem E32.slow(h:E32 a):E32 (slow a)/\qv (Go.Sky.slow a)=qv a/\Lw (Go.Sky.slow a)/\¬Np a.1 a.2:=by obtain⟨c,d,e,f,g⟩:=Ix 32 h.p h.b1 h.b2 O;exact⟨⟨d,e,f⟩,g,Zbo h.p c,c⟩
theorem E32.efit(h:E32 a):efit a=true:=by have:=h.b1;have:=h.b2;unfold Go.Sky.efit;exact aQ O
structure FIn (xs:List Int) (j:Nat) (a b:R2):Prop where
 ex:∃Q W,Hv 34 Q j W a b
 bj:j<=200
theorem FIn.start(c:E32 a)(d:E32 b)(e:qv a<=qv b):FIn xs 0 (slow a) (slow b):=by obtain⟨Q,f⟩:=Hv.start (n:=34) c.p d.p (aM c.b1 O3) (aM c.b2 O3) (aM d.b1 O3) (aM d.b2 O3) O e;exact⟨⟨Q,_,f⟩,O⟩
theorem FIn.round{j:Nat}(h:FIn xs j a b) :
  Dk a b/\(bl (Yv a b).1.natAbs<=5200/\bl (Yv a b).2.natAbs<=5200/\0<(Yv a b).2)/\(bl a.1.natAbs<=5200/\bl a.2.natAbs<=5200/\0<a.2)/\(bl b.1.natAbs<=5200/\bl b.2.natAbs<=5200/\0<b.2)/\
  (j<200->FIn xs (j+1) a (Yv a b)/\FIn xs (j+1) (Yv a b) b):=by
 obtain⟨Q,W,c⟩:=h.ex;have n:=h.bj;obtain⟨e,f,o,g,i,k,l⟩:=c.mid (B:=5200) O O;exact⟨e,f,g,i,λd=>⟨⟨⟨Q,W,k⟩,O⟩,⟨⟨Q,W,l⟩,O⟩⟩⟩
def Zg2(xs:List Int):Bool:=ngb (Lr xs) (chx xs) (0,1) (1,1)
def slS(d:List Int):Nat->Int
 | 0=>0
 | k+1=>slS d k+Lo [d.getD k 0,(k:Int)+1]
def fsS(d:List Int)(k:Nat):Int:=if k=0 then 0 else d.getD 0 0
def qr(a b:Int):R2:=(Me a b,Nq a b)
def bgS(c:List Int):Int:=fsS (c.drop 1) (c.drop 1).length
def enS(c:List Int):Int:=slS (c.drop 1) (c.drop 1).length
def bS(ov T:Int)(x y z:List Int):Nat->List R2
 | 0=>List.replicate 3 (0,0)
 | i+1=>(bS ov T x y z i).set i (qr (bgS (Xh i x y z)) (Lo [ov,T]))
def eS(ov T:Int)(x y z:List Int):Nat->List R2
 | 0=>List.replicate 3 (0,0)
 | i+1=>(eS ov T x y z i).set i (qr (enS (Xh i x y z)) (Lo [ov,T]))
def joinB(fr f ov:Int)(x y z:List Int)(c e d:Int)(g h i:List Int):Bool:=
 decide (qr (bgS g) (Lo [d,e-c])=qr (enS x) (Lo [ov,f-fr])/\qr (bgS h) (Lo [d,e-c])=qr (enS y) (Lo [ov,f-fr])/\qr (bgS i) (Lo [d,e-c])=qr (enS z) (Lo [ov,f-fr]))
def plT(c:List Int)(a d:Int)(k:Nat):Int:=c.getD k 0*(a^k*d^(5-(k:Int)).toNat)
def plS(c:List Int)(a d:Int):Nat->Int
 | 0=>0
 | k+1=>plS c a d k+plT c a d k
def pl(c:List Int)(a d:Int):Int:=plS c a d c.length
def atS(a d:Int)(x y z:List Int):Nat->List Int
 | 0=>List.replicate 3 0
 | i+1=>(atS a d x y z i).set i (pl (Xh i x y z) a d)
def gS(ov a d:Int)(x y z:List Int):Nat->Int
 | 0=>ov*d^5
 | i+1=>(Int.gcd (gS ov a d x y z i) (pl (Xh i x y z) a d):Int)
abbrev plV (p q r o:Int):Value:= .agg #[.bool (decide (p<0)),.string (Og p.natAbs),.bool (decide (q<0)),.string (Og q.natAbs),.bool (decide (r<0)),.string (Og r.natAbs),.bool (decide (o<0)),.string (Og o.natAbs)]
def sameP(ov a d:Int)(x y z:List Int)(c f e:Int)(g h i:List Int):Bool:=
 decide (pl x a d/gS ov a d x y z 3=pl g f e/gS c f e g h i 3/\pl y a d/gS ov a d x y z 3=pl h f e/gS c f e g h i 3/\pl z a d/gS ov a d x y z 3=pl i f e/gS c f e g h i 3/\ov*d^5/gS ov a d x y z 3=c*e^5/gS c f e g h i 3)
def meetB(e ov:Int)(x y z:List Int)(c d:Int)(f g h:List Int):Bool:=decide (e=c) && sameP ov 1 1 x y z d 0 1 f g h
structure Gin (g:Zk):Prop where
 f:Ir g.1.1
 t:Ir g.1.2.1
 o:Ir g.1.2.2
 x:∀a∈g.2.1.2,Ir a
 y:∀a∈g.2.2.1.2,Ir a
 z:∀a∈g.2.2.2.2,Ir a
def seB(g:Zk):Bool:=segB g.1.1 g.1.2.1 g.1.2.2 g.2.1.2 g.2.2.1.2 g.2.2.2.2
def meG(g h:Zk):Bool:=meetB g.1.2.1 g.1.2.2 g.2.1.2 g.2.2.1.2 g.2.2.2.2 h.1.1 h.1.2.2 h.2.1.2 h.2.2.1.2 h.2.2.2.2
abbrev SgG (g:Zk):Prop:=Sgo g.1.1 g.1.2.1 g.1.2.2 g.2.1.2 g.2.2.1.2 g.2.2.2.2
def okAt(ps:List Zk)(i:Nat):Bool:=seB (ps.getD i G0) && (decide (i=0) || meG (ps.getD (i-1) G0) (ps.getD i G0))
def Nt(ps:List Zk):Bool:=(List.range ps.length).all (okAt ps) && decide (1<=ps.length) && decide (ps.length<=256)
open Go.ChangeShapes Go.WideShapes Go.ChangeAt Go.RowKit Go.Joins Go.Deep
open Go.Proofs
variable {P:Program} {W:World} {H:Type} {enc:TypeId×Value->H}
theorem Zhi{w:World}{a:Addr}{v:Value}(h:w.cell? a=some v):a.spot=none/\a.block<w.heap.size:=by
 unfold World.cell? at h;split at h
 .rename_i c t f d;refine⟨?_,(aL.1 d).1⟩;cases hs:a.spot with
  | none=>rfl
  | some x=>rw [hs]at h;simp at h
 .cases h
end Go.Sky
namespace Go.Sky
open Go.ChangeShapes Go.WideShapes Go.ChangeAt Go.RowKit Go.Joins Go.Deep
open Go.Proofs
variable {P:Program} {W:World} {H:Type} {enc:TypeId×Value->H}
end Go.Sky
namespace Go.Sky
open Go.RowKit Below
variable{listed:Array Bool}
variable {P:Program} {N:Nat} {sc:Nat->Prop} {env env':Yd} {H H':Hp} {Q Q':Exit->Act->World->Prop}
def noQ:Exit->Act->World->Prop:=λ_ _ _=>False
section
variable {ops:Array Oper} {C:World->World->Prop}
def wpAnyZ(P:Program)(ops:Array Oper)(ts:List Nat)(C:World->World->Prop)(Q:Exit->Act->World->Prop):Nat->Array Bool->Act->World->Prop
 | 0,_,_,_=>False
 | b+1,listed,a,w=>if Ox ops ts listed=true then wpAnyIn Fence.wide 0 P .any ops Q (b+1) listed a w else
  (Region.ready .any ops listed=[]->False)/\
  ∀i∈Region.ready .any ops listed,wpOp P ops noQ i (λd c=>C w c/\wpAnyZ P ops ts C Q b (listed.setIfInBounds i true) d c) a w
inductive Dep (ops:Array Oper) (i:Nat):Nat->Prop
 | base {j:Nat} {o:Oper} {e:Edge} : ops[j]? = some o->e∈o.after->Region.binds .any e=true->e.on=i->Dep ops i j
 | step {j:Nat} {o:Oper} {e:Edge} : ops[j]? = some o->e∈o.after->Region.binds .any e=true->Dep ops i e.on->Dep ops i j
def Zj2(ops:Array Oper)(i:Nat):Nat->List Nat
 | 0=>[]
 | k+1=>match ops[k]? with
  | some o=>if o.after.any (λe=>Region.binds .any e && (e.on == i || (Zj2 ops i k).contains e.on))then k::Zj2 ops i k else Zj2 ops i k
  | none=>Zj2 ops i k
def Clo(ops:Array Oper)(listed:Array Bool):Prop:=∀k o,ops[k]? = some o->listed.getD k true=true->∀e∈o.after,Region.binds .any e=true->listed.getD e.on true=true
theorem Zmq{l:Array Bool}{x:Nat}(h:l.getD x false=true):l.getD x true=true:=by rcases bD x l.size with a|a<;>simp_all
theorem Clo.un{i j:Nat}(f:Clo ops listed)(hi:listed.getD i true=false)(g:Dep ops i j):listed.getD j true=false:=by
 induction g with
 | @base k o e c b a d=>
  cases hl:listed.getD k true with
  | false=>rfl
  | true=>have:=f _ _ c hl _ b a;rw [d,hi]at this;cases this
 | @step k o e c b a _ h=>
  cases hl:listed.getD k true with
  | false=>rfl
  | true=>have:=f _ _ c hl _ b a;rw [h]at this;cases this
theorem Clo.set{j:Nat}(m:Clo ops listed)(n:j∈Region.ready .any ops listed):Clo ops (listed.setIfInBounds j true):=λk o d l e i h=>by
 obtain⟨p,q,f,a⟩:=mem_ready.1 n;have g:listed.getD e.on true=true:=by
  by_cases c:j=k
  .subst c;rw [f]at d;cases d;exact Zmq (a _ i h)
  .rw [getD_set_ne true c]at l;exact m k o d l e i h
 by_cases b:j=e.on
 .subst b;by_cases hs:e.on<listed.size<;>simp_all
 .rw [getD_set_ne true b];exact g
end
def Zfk(ops:Array Oper)(ts:List Nat):List (Nat×Nat)->Array Bool->Bool
 | [],_=>true
 | (i,1)::rest,listed=>(Region.ready .any ops listed == [i]) && !(Ox ops ts listed) && Zfk ops ts rest (listed.setIfInBounds i true)
 | (i,3)::rest,listed=>false
 | (i,_)::rest,listed=>(Region.ready .any ops listed).contains i && Region.free .any ops listed i && !(ts.contains i) && ts.all (λj=>(Zj2 ops i ops.size).contains j) && Zfk ops ts rest (listed.setIfInBounds i true)
def YL(P:Program)(N:Nat)(sc:Nat->Prop)(ops:Array Oper)(Q:Exit->Act->World->Prop)(k:Nat)(listed:Array Bool)(env:Yd)(H:Hp):Prop:=
 ∀a w,Sat N sc env H a w->wpAnyIn Fence.wide 0 P .any ops Q (k+1) listed a w
end Go.Sky
namespace Go.Sky
open Go.RowKit Below
variable {P:Program} {N:Nat} {sc:Nat->Prop} {env env':Yd} {H H':Hp} {Q Q':Exit->Act->World->Prop}
def CalY(P:Program)(f:FuncId)(h:List Value)(a:List Pc)(j:Prop){G:Type}(k:G->Prop)(i:G->Value):Prop:=
 ∀(l:Nat) (J:World->Prop) (w:World),(∀p∈a,p.holds w)->
  (∀g,k g->∀b,Below w.heap.size w b->YieldAt Fence.wide 0 P l #[i g] b λe d=>e= .returned (.bool false)/\J d)->
  Calls P f (.func (.yield l) #[] #[]::h).toArray w λe c=>(∃v,e= .returned v)/\((j/\Below w.heap.size w c)\/J c)
def FPostY(P:Program)(c:Func)(b:World)(d:Prop)(J:World->Prop):Exit->Act->World->Prop:=
 bodyPost P c λe a=>(∃v,e= .returned v)/\((d/\Below b.heap.size b a)\/J a)
def YJ(P:Program)(b:World)(l:Nat){G:Type}(f:G->Prop)(d:G->Value)(J:World->Prop):Prop:=
 ∀g,f g->∀a,Below b.heap.size b a->YieldAt Fence.wide 0 P l #[d g] a λe c=>e= .returned (.bool false)/\J c
end Go.Sky
namespace Go.Sky
open Go.RowKit Below
variable {P:Program} {N:Nat} {sc:Nat->Prop} {env env':Yd} {H H':Hp} {Q Q':Exit->Act->World->Prop}
end Go.Sky
namespace Go.Sky
open Go.RowKit Below
variable {P:Program} {N:Nat} {sc:Nat->Prop} {env env':Yd} {H H':Hp} {Q Q':Exit->Act->World->Prop}
def FPostK(P:Program)(h:Func)(d:World)(c:List Pc)(al:Bool){G:Type}(φ:G->Prop)(val:G->Value)(a:G->List Pc):Exit->Act->World->Prop:=
  bodyPostM Fence.wide 0 P h λe f => ∃ g, e = .returned (val g) /\ φ g /\ Below d.heap.size d f /\
        ∀p∈a g,p.holds f/\p.own=false/\∀b,p.fp b->d.heap.size<=b\/(al=true/\∃q∈c,q.fp b)
def onlyR(Q:Exit->Act->World->Prop):Exit->Act->World->Prop:=Dj Q
def noDefer(l:List Oper):Prop:=∀o∈l,∀c,o.op≠ .defer c
def fx(l:Nat)(o:Obj):Pc:=
  { own:=false,fp:=λb=>b=l,holds:=λw=>w.heap[l]? = some o
    lt:=λw b h a=>by subst a;exact(aL.1 h).1
    stable:=λw e h c=>(c.block l (aL.1 h).1 (λd=>d rfl)).trans h }
def plainOp(o:Oper):Bool:=match o.op with
  | .build ..=>true
  | .store ..=>true
  | .load ..=>true
  | .alloc ..=>true
  | _=>false
end Go.Sky
namespace Go.Sky
open Go.RowKit Below
variable{a:Act}{w:World}{i:Nat}
variable {P:Program} {N:Nat} {sc:Nat->Prop} {env env':Yd} {H H':Hp} {Q Q':Exit->Act->World->Prop}
abbrev ALL:Nat->Prop:=λ_=>True
def FpSub:Hp->Hp->Prop
 | [],_=>True
 | (i,p)::r,H=>(∃q,lk H i=some q/\p.own=q.own/\∀b,p.fp b->q.fp b)/\FpSub r H
theorem FpSub.lk:∀{H' H:Hp},FpSub H' H->∀i p,lk H' i=some p->∃q,lk H i=some q/\p.own=q.own/\∀b,p.fp b->q.fp b
 | [],_,_,_,_,h=>by cases h
 | (k,u)::r,H,h,i,p,hi=>by
  by_cases c:k=i
  .subst c;rw [Zp]at hi;cases hi;exact h.1
  .rw [Zg c]at hi;exact FpSub.lk h.2 i p hi
theorem Sat.re{m:World}(hs:Sat N sc env H a w)(l:∀i p,lk H' i=some p->∃q,lk H i=some q/\p.own=q.own/\∀b,p.fp b->q.fp b)(o:∀i p,lk H' i=some p->p.holds m):Sat N ALL env H' a m:=
 ⟨hs.size,hs.defers,hs.env,o,λi j p q f hi r s b n c=>by obtain⟨t,h,g,d⟩:=l i p hi;obtain⟨u,k,_,e⟩:=l j q r;exact hs.sep i j t u f h k (g▸s) b (d b n) (e b c),λ_ _ _ _ _ _=>trivial⟩
def FpN:Hp->Hp->Prop
 | [],_=>True
 | (i,p)::r,H=>(p.own=true\/∃q,lk H i=some q/\∀b,p.fp b->q.fp b)/\FpN r H
theorem FpN.lk:∀{H' H:Hp},FpN H' H->∀i p,lk H' i=some p->p.own=true\/∃q,lk H i=some q/\∀b,p.fp b->q.fp b
 | [],_,_,_,_,h=>by cases h
 | (k,u)::r,H,h,i,p,hi=>by
  by_cases c:k=i
  .subst c;rw [Zp]at hi;cases hi;exact h.1
  .rw [Zg c]at hi;exact FpN.lk h.2 i p hi
theorem lk3{p q:Pc}{r:Pc}(h:lk ((90,p)::(91,q)::H) i=some r):(i=90/\r=p)\/(i=91/\r=q)\/(i≠90/\i≠91/\lk H i=some r):=by
 by_cases b:90=i
 .subst b;rw [Zp]at h;cases h;exact .inl ⟨rfl,rfl⟩
 .rw [Zg b]at h;by_cases c:91=i
  .subst c;rw [Zp]at h;cases h;exact .inr (.inl ⟨rfl,rfl⟩)
  .rw [Zg c]at h;exact .inr (.inr ⟨λe=>b e.symm,λe=>c e.symm,h⟩)
theorem lk3'{p q:Pc}(b:i≠90)(c:i≠91):lk ((90,p)::(91,q)::H) i=lk H i:=by rw [Zg (λe=>b e.symm),Zg (λe=>c e.symm)]
theorem Sat.turn{l D:Nat}{o m g:Obj}(hs:Sat N ALL env ((90,fx l o)::(91,fx D g)::H) a w)(f:l≠D)(r:∀i p,i≠90->i≠91->lk H i=some p->¬p.fp l) :
  Sat N ALL env ((90,fx l m)::(91,fx D g)::H) a (w.putObj l m):=by
 have q:w.heap[l]? = some o:=hs.hold 90 _ rfl;have n:w.heap[D]? = some g:=hs.hold 91 _ rfl;refine hs.re (λi p hi=>?_) (λi p hi=>?_)
 .rcases lk3 hi with⟨rfl,rfl⟩|⟨rfl,rfl⟩|⟨b,c,hi⟩
  .exact⟨_,rfl,rfl,λ_ h=>h⟩
  .exact⟨_,rfl,rfl,λ_ h=>h⟩
  .exact⟨p,by rw [lk3' b c];exact hi,rfl,λ_ h=>h⟩
 .rcases lk3 hi with⟨rfl,rfl⟩|⟨rfl,rfl⟩|⟨b,c,j⟩
  .exact World.putObj_heap_same (aL.1 q).1
  .exact(World.putObj_heap_other (λe=>f e.symm)).trans n
  .refine p.stable _ _ (hs.hold i p (by rw [lk3' b c];exact j)) ⟨rfl,rfl,rfl,O6,λk s d=>World.putObj_heap_other (λe=>d ?_)⟩;subst e;exact r i p b c j
theorem Sat.round(hs:Sat N sc env H a w)(d:Nat)(v:Value)(b:Nat.blt d N=true):Sat N sc ((d,v)::env) H { tmps:=(#[d].zip #[v]).foldl (λt (p,v)=>t.setIfInBounds p v) a.tmps,defers:=[] } w:=by
 have h:=hs.put d v b;have e:(a.put (some d) v)={ tmps:=(#[d].zip #[v]).foldl (λt (p,v)=>t.setIfInBounds p v) a.tmps,defers:=[] }:=by show({ a with tmps:=a.tmps.setIfInBounds d v } : Act)=_;rw [<-hs.defers];simp
 rw [<-e];exact h
end Go.Sky
namespace Go.Sky
open Go.RowKit Below
variable {P:Program} {N:Nat} {sc:Nat->Prop} {env env':Yd} {H H':Hp} {Q Q':Exit->Act->World->Prop}
def YJI(P:Program)(f:World)(l:Nat)(M:Nat->Prop)(J:Nat->World->Prop)(h:World->Prop){α G:Type}(xs:List α)(ys:α->G->List Value)(d:α->G->List Pc):Prop:=
 ∀k x g,xs[k]? = some x->∀W a,J k W->f.heap.size<=W.heap.size->Below W.heap.size W a->(∀p∈d x g,p.holds a/\p.own=false/\∀b,p.fp b->W.heap.size<=b)->
  YieldAt Fence.wide 0 P l (ys x g).toArray a λe c=>(e= .returned (.bool true)/\J (k+1) c/\Chg (λb=>M b\/f.heap.size<=b) a c)\/(e= .returned (.bool false)/\h c/\Chg (λb=>M b\/f.heap.size<=b) a c)
def Stays(J:World->Prop):Prop:=∀W a,J W->Below W.heap.size W a->J a
def CalI(P:Program)(f:FuncId)(h:List Value)(a:List Pc){α G:Type}(xs:List α)(ys:α->G->List Value)(d:α->G->List Pc):Prop:=
 ∀(l:Nat) (M:Nat->Prop) (J:Nat->World->Prop) (c:World->Prop) (w:World),
  (∀p∈a,p.holds w)->(∀p∈a,∀b,p.fp b->¬M b)->(∀k,Stays (J k))->Stays c->J 0 w->YJI P w l M J c xs ys d->
  Calls P f (.func (.yield l) #[] #[]::h).toArray w λe g=>(∃v,e= .returned v)/\(J xs.length g\/c g)
def FPostI(P:Program)(c:Func)(n:Nat)(J:Nat->World->Prop)(b:World->Prop):Exit->Act->World->Prop:=
 bodyPost P c λe a=>(∃v,e= .returned v)/\(J n a\/b a)
def LI(P:Program)(N:Nat)(sc:Nat->Prop)(c:Array Oper)(b:List Oper)(Q:Exit->Act->World->Prop)(env:Yd)(H:Hp):Prop:=
 ∀a w,Sat N sc env H a w->wpListIn Fence.wide 0 P c Q b a w
theorem Sat.base {u s n:World} {M:Nat->Prop} {c:List Pc} {a:Act} (hs:Sat N sc env H a s) (m:∀p∈c,∀b,p.fp b->b<u.heap.size/\¬M b) (r:AllRo c) (d:HSub (Qi 1 c) H)
  (g:Chg (λb=>M b\/u.heap.size<=b) s n):Sat N sc env ((0,keep n (λ_=>False))::Qi 1 c) a n:=by
 refine⟨hs.size,hs.defers,hs.env,λi p hi=>?_,λi j p q z hi D o b t v=>?_,λi p l hi b t=>?_⟩
 .by_cases f:0=i
  .subst f;rw [Zp]at hi;cases hi;exact Chg.refl _ _
  .rw [Zg f]at hi;have B:=(Na c 1 i p hi).2;refine p.stable _ _ (hs.hold i p (d.lk i p hi)) ⟨g.os,g.tape,g.output,g.size,λk x y=>g.block k x (λw=>?_)⟩;have:=m p B k (eQ.1 y);rcases w with h|h
   .exact this.2 h
   .omega
 .by_cases f:0=i
  .subst f;rw [Zp]at hi;cases hi;cases o
  .rw [Zg f]at hi;rw [r.mem p (Na c 1 i p hi).2]at o;cases o
 .rw [Zg (λe=>l e.symm)]at hi;exact hs.scope i p l (d.lk i p hi) b t
end Go.Sky

