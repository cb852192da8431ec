/- Rules, arithmetic and contracts: part 6. No conditions but those that each theorem names. -/
import Derived.Test.YthennaflbbajkaaGreatAk04
set_option linter.all false
namespace Go.Sky
variable{s t:Rat}{u xs a p q b:List Int}{K B Q:Nat}{r d c k:Int}{z:R2}
def kkR(R:Nat):Nat->Nat
 | 0=>0
 | d+1=>2*(R+1)*kkR R d+1
def Zcc (L:Nat)(R:Nat){s v:List Int}{n e:Nat}(l:Tr u)(m:Tr v)(hs:Sz n s)(f:s≠[])(j:Tr s)(i:s.length<=L)(o:2*L<=R+2)(g:fcs 0 L<=2^e*2^e)(h:s=Pa u v):Sz (n+e) u:=Yd3 l m hs f i g h
theorem num13{e f:Nat}(i:e<=13)(j:f+1=e)(h:K<=600):Zt6 e f K:=λl m=>by have g:∀l,l<=12->(l+1)*(600*(27-2*l)+1)<=65536:=O4;refine aB (bD _ (Nat.succ_le_succ (aU h O1))) (g l O1)
theorem chH{n:Nat}(F:Nat)(v:Tr xs)(w:xs≠[])(hs:Sz n xs)(hn:n<=350)(hl:xs.length<=13)(hb:(xs.length+2)*(xs.length+2)*(n+13)<=65536)(hF:xs.length<=F+1) :
  Zad F xs/\Sz (n+15) (sqf F xs)/\(sqf F xs).length<=xs.length/\∀p∈chn F xs,Pd p<=(n+26)*25/\p.length<=xs.length:=by
 have e:=Zwn hs;have Y:=Pp v;have l:Tr (Xu xs):=Mg (Xj v);have R:=Zba e O1;have W:=Nx (Xu xs);have m:Tr (Xg (Xu xs)):=Mp l;have m1:=Og e;have m2:=Og R;have l0:=aN.2 w;have y:gA (Xu xs) (Xg (Xu xs))=Yw (Xu xs):=aF O1;have D:gB (Xu xs) (Xg (Xu xs))=Yw (Xg (Xu xs)):=aF O1;have j:eok F (gA (Xu xs) (Xg (Xu xs))) (gB (Xu xs) (Xg (Xu xs))):=by
  rw [y,D];refine(Ypt (n:=n+5) (s:=5) (K:=n+11) (by grind [Yp]) (Xj l) (Xj m) (Cq (e.mono O8)) (Cq R) ?_ O1 ?_ ?_ ?_).1
  all_goals grind [Yp,num13,Nat.le_trans,Nat.mul_le_mul]
 obtain⟨f1,f2,f3,f4,f5,f6⟩:=Np F v w j;have x:=Zf6 F l m;have g:=Zlr v w;have N:fcs 0 13<=2^15*2^15:=O4;have o:=Zcc 13 24 f2 x e g l O1 O1 N f4;have G:=Zcc 13 24 x f2 e g l O1 O1 N (by grind [Zbg]);have H:=Mj f2 x f3 f5;rw [<-f4]at H;have lg:=aN.2 f5;have lq:=aN.2 f3;have mg:=Og G;have M:(sqf F xs).length<=xs.length:=O1;have I:=Zba o O1;have S:=Nx (sqf F xs);have P:=Yqf (a:=sqf F xs) (b:=Yw (Xg (sqf F xs))) (n:=n+15+5) (s:=5) (K:=n+26) (f:=F) (by grind [Yp]) f2 (Xj (Mp f2)) (o.mono O8) (Cq I) (by grind [Yp]) O1 (by grind [Yp,num13]) (Nat.le_trans (Nat.mul_le_mul (show(sqf F xs).length+1<=14 by omega) (show n+15+5+1<=500 by omega)) O8) (by grind [Yp]);refine⟨⟨⟨λi _=>aB (Zx3 e O1 i) O1,?_,j,?_,f1⟩,λi _=>aB (Zx3 o O1 i) O1,P.1⟩,o,M,λp Z=>?_⟩
 .intro h;have h3:(max (Xu xs).length (Xg (Xu xs)).length+2)*(max (Xu xs).length (Xg (Xu xs)).length+2)*(max (Pd (Xu xs)) (Pd (Xg (Xu xs)))+8)<=(xs.length+2)*(xs.length+2)*(n+13):=aU (aU O1 O1) O1;have:=h.2.2;omega
 .unfold Bv;rw [aF O1];split
  .rfl
  .have:((Xu xs).length-(Mz F (Xu xs) (Xg (Xu xs))).length+1)*(Pd (Mz F (Xu xs) (Xg (Xu xs)))+1)<=14*500:=aU O1 O1;omega
 .obtain⟨V,a2⟩:=P.2 p Z;refine⟨aB V (bD _ ?_),O1⟩;grind [Yp]
theorem chG{n:Nat}(F:Nat)(h:Tr xs)(e:xs≠[])(hs:Sz n xs)(g:n<=350)(i:xs.length<=11)(f:xs.length<=F+1) :
  Zad F xs/\Sz (n+15) (sqf F xs)/\(sqf F xs).length<=xs.length/\∀p∈chn F xs,Pd p<=(n+26)*25/\p.length<=xs.length:=
 chH F h e hs g O1 (aB (aU (aU (show _<=13 by omega) (show _<=13 by omega)) (show _<=363 by omega)) O1) f
theorem Dv.ed{g:List Int}(h:Dv g a):Ed g a:=by obtain⟨k,s,e,h⟩:=h;refine⟨k,s,e,λx=>?_⟩;have:=Ck k 0 a s g [] (λt=>O5) x;grind
theorem Zmz{F:Nat}(m:Tr xs)(g:xs≠[])(i:Zad F xs)(s t:Rat) :
  ∃h:Rat,0<h/\∀u v,s<=u->u<=v->v<=t->v-u<=h->vat ((chn F xs).map Zc) u-vat ((chn F xs).map Zc) v=crs (Zc (sqf F xs)) u v:=by
 have f:=i.1.2.2.1;obtain⟨f1,f2,f3,f4,f5,f6⟩:=Np _ m g f;have e:=Mp f2;by_cases n:Xg (sqf F xs)=[]
 .refine Zks 1 f2 (Xj e) f3 i.2.2 (by rfl) (λx=>?_) λq l a b=>?_
  .rw [<-Ks,n];show(0)=1*0;simp
  .exact Zf8 m g f l a (b.sim (Qx e))
 .have j:0<Xq (Xg (sqf F xs)):=by have o:=Ap e n;have w:=Ma (Xg (sqf F xs));omega
  refine Zks (Xq _) f2 (Xj e) f3 i.2.2 (by exact_mod_cast j) (λx=>?_) λq l a b=>?_
  .rw [<-Ks,<-Zi];grind [Ol,Qr,Int.mul_comm,Gw]
  .exact Zf8 m g f l a (b.sim (Qx e))
theorem Yo9{s g:List Int}(a0:∀x:Rat,Zc p x=Zc s x*Zc g x)(hg:Tr g)(W:g≠[])(v:Ed g (ld p))(l:Irr q)(G:Ed q p):Ed q s:=by
 refine aZ λj=>?_;have f:=l.1;have D:=l.2.1;have F:¬Ed q (ld q):=λh=>by have Z:Ed q (Xg q):=h.congr λx=>(Ks q x).symm;have hl:=Nx q;have:=(Z.len f (Mp f) (λe=>O5)).2;omega
 obtain⟨c1,m1,k1,e1⟩:=G;obtain⟨i,m,k2,S⟩:=v;have I:∀k,Ed (Cx q k) g:=λk=>by
  induction k with
  | zero=>exact⟨1,g,O1,λx=>by rw [show Cx q 0=[1]from rfl,Pw];simp⟩
  | succ k ih=>
   cases k with
   | zero=>
    have o:Ed q g:=(Zef s g m1 l k1 (λx=>O5)).resolve_left j;exact o.congr_l λx=>by rw [Cv,show Cx q 0=[1]from rfl,Pw];simp
   | succ k=>
    obtain⟨c,u,kc,eu⟩:=ih;have hd:∀x:Rat,(c:Rat)*Zc (ld g) x=Zc (ld u) x*Zc (Cx q (k+1)) x+Zc u x*(((k:Rat)+1)*(Zc (Cx q k) x*Zc (ld q) x)):=λx=>by have:=Cw (g.map λa=>c*a) (lmul u (Cx q (k+1))) (λy=>by grind [Zi,Yb]) x;grind [Zak,Bp,Zpt]
    have hp:∀x:Rat,Zc (ld p) x=Zc (ld s) x*Zc g x+Zc s x*Zc (ld g) x:=λx=>by have:=Cw p (lmul s g) (λy=>by grind [Yb]) x;grind [Bp]
    have hz:∀x:Rat,Zc (Mc ((lmul (lmul s u) (ld q)).map λa=>(i*((k:Int)+1))*a) ((lmul (Mc ((lmul s (ld u)).map λa=>i*a) ((lmul (Mc m ((ld s).map λa=>(-i)*a)) u).map λa=>(-1)*a)) q))) x=0:=λx=>by
     refine Da (Cx q k) (λe=>?_) (λx=>?_) x
     .grind [Za2,Zc5]
     .rw [Xd,Zi,Yb,Yb,Yb,Xd,Zi,Yb,Zi,Yb,Xd,Zi];have M:=S x;have N:=hp x;have P:=hd x;have R:=eu x;rw [Cv]at P R;push_cast;grind
    have o:=Zef (lmul s u) (ld q) (Mc ((lmul (Mc m ((ld s).map λa=>(-i)*a)) u)) ((lmul s (ld u)).map λa=>(-i)*a)) (k:=i*((k:Int)+1)) l (bF k2 O1) (λx=>by have:=hz x;rw [Xd,Zi,Yb,Yb,Yb,Xd,Zi,Yb,Zi,Yb,Xd,Zi]at this;rw [Yb,Xd,Yb,Xd,Zi,Zi,Yb];grind)
    have Y:Ed q u:=by obtain⟨n,w,H,V⟩:=o.resolve_right F;exact(Zef s u w (k:=n) l H (λx=>by grind [Yb])).resolve_left j
    obtain⟨n,w,H,V⟩:=Y;refine⟨n*c,w,bF H kc,λx=>?_⟩;grind [Cv]
 obtain⟨M,N⟩:=Zc5 f D g.length;have:=((I g.length).len M hg W).2;omega
theorem Yov(f:d≠0):Irr [-r,d]:=by have e:Tr [-r,d]:= .inr f;refine⟨e,O8,λq h g=>?_⟩;have:=(g.len h e O8).2;grind
theorem Zjq(r d:Int)(x:Rat):Zc [-r,d] x=(d:Rat)*x-r:=by show((-r))+x*((d)+x*0)=_;grind
theorem Ynv(n:Tr p)(g:d≠0)(h:Zc p ((r:Rat)/d)=0):Ed [-r,d] p:=by
 have i:(d:Rat)≠0:=O11;have m:Tr [-r,d]:= .inr g;obtain⟨k,s,hs⟩:=Zbe p (q:=[-r,d]) O8;have e:=Iv (m.mem O8) k;generalize cf _ _^k=L at hs e;have j:∀x,(L)*Zc p x=Zc s x*Zc [-r,d] x+Zc (Qw p [-r,d]) x:=λx=>by have:=Ck L (-1) p s [-r,d] (Qw p [-r,d]) (λt=>O5) x;grind
 have l:=Ps p (q:=[-r,d]) O8;have o:∀x,Zc (Qw p _) x=0:=λx=>by
  have f:=j ((r)/d);rw [Zjq]at f
  match hr:Qw p _,l with
  | [],_=>rfl
  | [c],_=>
   grind [Pw]
 exact⟨L,s,e,λx=>O5⟩
theorem Ed.root(g:d≠0)(h:Ed [-r,d] p):Zc p ((r:Rat)/d)=0:=by obtain⟨k,s,i,h⟩:=h;have e:(d:Rat)≠0:=O11;have f:(k:Rat)≠0:=O11;grind [Zjq]
theorem Yfq{F:Nat}(g:Tr xs)(j:xs≠[])(f:eok F (gA (Xu xs) (Xg (Xu xs))) (gB (Xu xs) (Xg (Xu xs))))(i:d≠0)(h:Zc xs ((r:Rat)/d)=0):Zc (sqf F xs) ((r:Rat)/d)=0:=by
 obtain⟨f1,f2,f3,f4,f5,f6⟩:=Np _ g j f;have hs:=Mg (Xj g);have e:=Mp hs;have l:=(Ynv g i h).sim ((Qx g).symm.trans (Hj _).symm);have m:∀x,Zc (Xu xs) x=Zc (sqf F xs) x*Zc (Mz F (Xu xs) (Xg (Xu xs))) x:=λx=>by grind [Xn]
 have n:=((Zd5 hs e f).2.ed).congr λx=>Ks _ x;exact(Yo9 m (Zf6 _ hs e) f5 n (Yov i) l).root i
def Away(s t:Rat)(f:Rat->Rat):Prop:=∃δ:Rat,0<δ/\∀x,s<=x->x<=t->δ<=f x\/f x<=-δ
theorem Away.mul{f g h:Rat->Rat}(y:Away s t f)(D:Away s t g)(e:∀x,h x=f x*g x):Away s t h:=by
 obtain⟨a,l,m⟩:=y;obtain⟨b,n,o⟩:=D;refine⟨a*b,aT l n,λx i j=>?_⟩;rcases m x i j with v|v<;>rcases o x i j with w|w
 .have:=aD (a:=f x-a) (b:=g x) O5 O5;have:=aD (a:=a) (b:=g x-b) O5 O5;grind
 .have:=aD (a:=f x-a) (b:=- g x) O5 O5;have:=aD (a:=a) (b:=- g x-b) O5 O5;grind
 .have:=aD (a:=- f x-a) (b:=g x) O5 O5;have:=aD (a:=a) (b:=g x-b) O5 O5;grind
 .have:=aD (a:=- f x-a) (b:=- g x) O5 O5;have:=aD (a:=a) (b:=- g x-b) O5 O5;grind
theorem Away.lin(g:0<d)(h:(r:Rat)<d*s\/(d:Rat)*t<r):Away s t (Zc [-r,d]):=by
 have i:(0)<(d:Rat):=by exact_mod_cast g
 rcases h with h|h
 .refine⟨d*s-r,O5,λx e f=> .inl ?_⟩;rw [Zjq];have:=aD (a:=(d)) (b:=x-s) O5 O5;grind
 .refine⟨r-d*t,O5,λx e f=> .inr ?_⟩;rw [Zjq];have:=aD (a:=(d)) (b:=t-x) O5 O5;grind
theorem Away.sq(s t:Rat):Away s t (Zc [1,0,1]):=⟨1,by rfl,λx _ _=>by
 left;show(1)<=((1))+x*(((0))+x*(((1))+x*0));have:0<=x*x:=by
  rcases(show 0<=x\/x<0 by grind)with h|h
  .grind [Rat.mul_nonneg]
  .have:=aD (a:=-x) (b:=-x) O5 O5;grind
 grind⟩
theorem Away.one(s t:Rat):Away s t (Zc [1]):=⟨1,by rfl,λx _ _=>by grind [Pw,Rat.le_refl]⟩
def cntP(P:Int->Prop)[DecidablePred P](m:Int):Nat->Int
 | 0=>0
 | n+1=>cntP P m n+(if P (m+n+1)then 1 else 0)
def eB(K C:Nat):Nat->Nat
 | 0=>0
 | n+1=>C+K*eB K C n
def eL(K C:Nat):Nat->Nat
 | 0=>0
 | n+1=>K*eL K C n+eB K C n
def eM(K C:Nat):Nat->Nat
 | 0=>0
 | n+1=>eL K C n+K*eM K C n
theorem Ev{a b:Nat}(h:a<=b):(a:Rat)<=(b:Rat):=by exact_mod_cast h
theorem Ylb{C:Nat}(h:c.natAbs<=C):-(C:Rat)<=(c:Rat)/\(c:Rat)<=(C:Rat):=by
 have e:((-(C:Int)))<=(c:Rat):=by exact_mod_cast (show -(C)<=c by omega)
 have f:(c:Rat)<=(C):=by exact_mod_cast (show c<=(C) by omega)
 push_cast at e f
 all_goals grind
def Zrx{C:Nat}(h:∀i,(cf (c::p) i).natAbs<=C):c.natAbs<=C/\∀i,(cf p i).natAbs<=C:=⟨h 0,λi=>h (i+1)⟩
theorem Zpq{K C:Nat} : ∀(n:Nat) (p:List Int),p.length<=n->(∀i,(cf p i).natAbs<=C)->∀x:Rat,-(K:Rat)<=x->x<=(K:Rat)->-(eB K C n:Rat)<=Zc p x/\Zc p x<=(eB K C n:Rat)
 | n,[],_,_,x,_,_=>by
  show -(eB K C n:Rat)<=0/\(0:Rat)<=(eB K C n)
  all_goals grind
 | 0,c::p,hl,_,_,_,_=>absurd hl O8
 | n+1,c::p,hl,hc,x,h1,h2=>by
  obtain⟨f,g⟩:=Zrx hc;obtain⟨h,j⟩:=Zpq n p (by simpa using hl) g x h1 h2;obtain⟨m,o⟩:=Ylb f;have l:(0:Rat)<=(K):=Ev (bI _);obtain⟨f1,f2⟩:=Zcm h1 h2 h j l;have e:((eB K C (n+1)))=(C:Rat)+(K)*(eB K C n):=by show((C+K*eB K C n:Nat):Rat)=_;push_cast;rfl
  rw [show Zc _ x=(c)+x*Zc p x from rfl];constructor<;>grind
theorem Zpp{K C:Nat} : ∀(n:Nat) (p:List Int),p.length<=n->(∀i,(cf p i).natAbs<=C)->Lip (-(K:Rat)) (K:Rat) (eL K C n:Rat) (Zc p)
 | n,[],_,_,x,y,_,j,_=>by
  have h:(0:Rat)<=(eL K C n):=Ev (bI _);have:=aD (b:=y-x) h O5;show(0:Rat)-0<=_/\(0:Rat)-0<=_
  all_goals grind
 | 0,c::p,hl,_,_,_,_,_,_=>absurd hl O8
 | n+1,c::p,hl,hc,x,y,h1,j,h2=>by
  obtain⟨m,f⟩:=Zrx hc;obtain⟨o,v⟩:=Zpp n p O5 f x y h1 j h2;obtain⟨w,D⟩:=Zpq n p O5 f y O5 h2;have l:(0:Rat)<=(K:Rat):=Ev (bI _);obtain⟨f1,f2⟩:=Zcm (q:=x) (g:=Zc p x-Zc p y) (e:=(eL K C n)*(y-x)) h1 O5 O5 O5 l;have F:=aD (a:=(eB K C n)-Zc p y) (b:=y-x) O5 O5;have G:=aD (a:=(eB K C n)+Zc p y) (b:=y-x) O5 O5;have e:((eL K C (n+1):Nat))=(K:Rat)*(eL K C n)+(eB K C n):=by show((K*eL K C n+eB K C n:Nat):Rat)=_;simp
  rw [e,show Zc (c::p) x=(c:Rat)+x*Zc p x from rfl,show Zc (c::p) y=(c:Rat)+y*Zc p y from rfl]
  all_goals grind
theorem Ygs{K C:Nat} : ∀(n:Nat) (p:List Int),p.length<=n->(∀i,(cf p i).natAbs<=C)->Tay (-(K:Rat)) (K:Rat) (eM K C n:Rat) p
 | n,[],_,_,x,y,_,f,_=>by
  have h:(0:Rat)<=(eM K C n):=Ev (bI _);have o:=aD (a:=y-x) (b:=y-x) O5 O5;have:=aD h o;show -((eM K C n)*(y-x)*(y-x))<=(0:Rat)-0-(y-x)*0/\(0:Rat)-0-(y-x)*0<=(eM K C n)*(y-x)*(y-x)
  all_goals grind
 | 0,c::p,hl,_,_,_,_,_,_=>absurd hl O8
 | n+1,c::p,hl,hc,x,y,hs,f,ht=>by
  obtain⟨w,g⟩:=Zrx hc;obtain⟨l,m⟩:=Ygs n p O5 g x y hs f ht;obtain⟨D,F⟩:=Zpp n p O5 g x y hs f ht;have v:(0)<=(K:Rat):=Ev (bI _);have j:0<=y-x:=O5;obtain⟨f1,f2⟩:=Zcm (q:=x) hs O5 l m v;have G:=aD (b:=(eL K C n)*(y-x)-(Zc p y-Zc p x)) j O5;have H:=aD (b:=(eL K C n)*(y-x)+(Zc p y-Zc p x)) j O5;have e:((eM K C (n+1):Nat))=(eL K C n)+(K:Rat)*(eM K C n):=by show((eL K C n+K*eM K C n:Nat):Rat)=_;simp
  rw [e,Zgj,show Zc (c::p) y=(c)+y*Zc p y from rfl,show Zc (c::p) x=(c)+x*Zc p x from rfl]
  all_goals grind
theorem Zx8{A:Nat}(j:Tr a)(W:Tr b)(la:2<=a.length)(lb:b.length+1=a.length)(N:0<A)(na:∀i,(cf a i).natAbs<=A)(nb:∀i,(cf b i).natAbs<=A)(Y:∀q,Tr q->Ed q a->Ed q b->q.length<=1) :
  ∃(U V:List Int) (c:Int),c≠0/\U.length+2=a.length/\V.length+1=a.length/\(∀i,(cf U i).natAbs<=(2*(2*a.length-3)*A)^(2*a.length-4))/\(∀i,(cf V i).natAbs<=(2*(2*a.length-3)*A)^(2*a.length-4))/\
   ∀x,(c:Rat)=Zc U x*Zc a x+Zc V x*Zc b x:=by
 obtain⟨U,V,lU,lV,m,n,o,hz⟩:=Ziu a b 1 (p:=a.length-2) (q:=a.length-1) N na nb O1 O1 O1;have F:¬(tzl U=[]/\tzl V=[]):=λ⟨h1,h2⟩=>by grind [Ik]
 clear m;rw [show a.length-2+(a.length-1)=2*a.length-3 by omega]at n o;have h:a≠[]:=λe=>O5;have H:∀i,cf (Mc (lmul U a) (lmul V b)) i=(ps U*ps a).c i+(ps V*ps b).c i:=λi=>by rw [Me,Di,Di,PS.mul_c,PS.mul_c];rfl
 have G:∀t,Zc (Mc (lmul U a) (lmul V b)) t=Zc U t*Zc a t+Zc V t*Zc b t:=λt=>by grind [Xd,Yb]
 generalize Mc (lmul U a) (lmul V b)=R at H G;have S:∀t,Zc R t=(cf R 0:Rat):=λt=>by
  rw [<-Pw (cf R 0) t];refine Ol t _ _ λi=>?_
  match i with
  | 0=>rfl
  | i+1=>grind [Yx]
 refine⟨U,V,cf R 0,λM=>?_,O1,O1,n,o,λx=>O5⟩;have a0:∀t,Zc U t*Zc a t+Zc V t*Zc b t=0:=λt=>by rw [<-G,S,M];rfl
 obtain⟨g,P,Q,f,v,I,w⟩:=Zm4 _ a b j W (aI _);have hl:=Y g f v I;have hg:=(v.len f j h).1;have D:tzl V=[]:=by
  refine aZ λD=>?_
  match g,hg,hl,f,w with
  | [c],_,_,f,w=>
   have l:c≠0:=f.mem O8;have Z:Ed a (tzl V):=⟨c,Mc (lmul P V) ((lmul Q U).map λz=>(-1)*z),l,λx=>by grind [Pw,Le,Xd,Zi,Yb]⟩
   have:=(Z.len j (Qt V) D).2;grind [Ge]
  | c::d::r,_,h9,_,_=>grind
 have y:tzl U=[]:=by
  refine aZ λy=>?_;have:∀t,Zc a t=0:=Da U y λt=>by grind [Zaj]
  exact j.mem h (Zps this _)
 grind
def Zzk(K A n e:Nat):Bool:=
 let X:=(2*(2*n-3)*A)^(2*n-4);let W:=eB K X (n-1)
 Nat.ble (2*(2*W+1)*(2*eL K A n)) (2^e) && Nat.ble (2*(2*W+1)*eM K A n) (2^e)
theorem big_or  {A n e:Nat} (hK:0<K) (F:0<A) (G:Tr a) (H:Tr b) (N:a.length=n) (h2:2<=n) (S:b.length+1=a.length) (Y:∀i,(cf a i).natAbs<=A) (Z:∀i,(cf b i).natAbs<=A) (I:∀q,Tr q->Ed q a->Ed q b->q.length<=1)
  (x:Rat) (j:-(K:Rat)<=x) (l:x<=(K:Rat)):Big (1/((2*eB K ((2*(2*n-3)*A)^(2*n-4)) (n-1)+1:Nat):Rat)) x (Zc a)\/Big (1/((2*eB K ((2*(2*n-3)*A)^(2*n-4)) (n-1)+1:Nat):Rat)) x (Zc b):=by
 obtain⟨U,V,c,D,lU,lV,f,g,M⟩:=Zx8 G H O1 S F Y Z I;rw [N]at f g;generalize (2*(2*n-3)*A)^(2*n-4)=X at *;obtain⟨u1,u2⟩:=Zpq (n-1) U O1 f x j l;obtain⟨v1,v2⟩:=Zpq (n-1) V O1 g x j l;generalize eB K X (n-1)=W at *;have m:(0:Rat)<=(W:Rat):=Ev (bI _);generalize hε:1/((2*W+1):Rat)=ε;have P:0<=ε:=by grind [Rat.inv_pos,Rat.div_def]
 by_cases p1:Big ε x (Zc a)
 .grind
 .by_cases p2:Big ε x (Zc b)
  .grind
  .obtain⟨o,v⟩:=Zd8 p1;obtain⟨w,y⟩:=Zd8 p2;obtain⟨q1,q2⟩:=Zcm u1 u2 o v m;obtain⟨r1,r2⟩:=Zcm v1 v2 w y m;have h5:(c:Rat)<=-1\/1<=(c:Rat):=by
    rcases mO D with h|h
    .left;have:((c:Int):Rat)<=((-1:Int)):=by exact_mod_cast (show c<=-1 by omega)
     grind
    .right;have:=O1;exact_mod_cast this
   have R:0<ε:=by grind
   all_goals grind
theorem two_pow_pos(e:Nat):(0:Rat)<((2^e:Nat):Rat):=by have:0<2^e:=cD O1;exact_mod_cast this
theorem Yqs  {F A n e:Nat} (hx:Tr xs) (h0:xs≠[]) (hC:Zad F xs) (hK:0<K) (hA:0<A) (hn:(sqf F xs).length=n) (h2:2<=n) (V:∀i,(cf (sqf F xs) i).natAbs<=A) (nb:∀i,(cf (Xg (sqf F xs)) i).natAbs<=A) (hs:Zzk K A n e=true)
  {u v:Rat} (h1:-(K:Rat)<=u) (S:u<=v) (h3:v<=(K:Rat)) (hh:v-u<=1/((2^e:Nat):Rat)) :
  vat ((chn F xs).map Zc) u-vat ((chn F xs).map Zc) v=crs (Zc (sqf F xs)) u v:=by
 have w:=hC.1.2.2.1;obtain⟨f1,f2,f3,f4,f5,f6⟩:=Np F hx h0 w;have f:=Mp f2;have a1:=Nx (sqf F xs);have hd:Xg (sqf F xs)≠[]:=λe=>O5;have R:1<=Xq (Xg (sqf F xs)):=by have h1:=Ap f hd;have h2:=Ma (Xg (sqf F xs));omega
 have a0:(1:Rat)<=(Xq (Xg (sqf F xs)):Rat):=by exact_mod_cast R
 have y:∀i,(cf (Yw (Xg (sqf F xs))) i).natAbs<=A:=λi=>by have h5:=Gw (Xg (sqf F xs)) i;have h6:=nb i;rw [<-h5,bR]at h6;have:(cf (Yw (Xg (sqf F xs))) i).natAbs*1<=(cf (Yw (Xg (sqf F xs))) i).natAbs*(Xq (Xg (sqf F xs))).natAbs:=bD _ O1;omega
 have l:∀q,Tr q->Ed q (sqf F xs)->Ed q (Yw (Xg (sqf F xs)))->q.length<=1:=λq hq a b=>Zf8 hx h0 w hq a (b.sim (Qx f));have N:(Yw (Xg (sqf F xs))).length+1=(sqf F xs).length:=by grind [Yp]
 have g:=big_or (e:=e) hK hA f2 (Xj f) hn h2 N V y l;unfold Zzk at hs;simp only [aP,Nat.ble_eq]at hs;obtain⟨s1,s2⟩:=hs;generalize (2*(2*n-3)*A)^(2*n-4)=X at *;generalize eB K X (n-1)=W at *;have hD:(0:Rat)<((2*W+1:Nat):Rat):=by grind
 have hP:=two_pow_pos e;have Y:=Ev s1;have Z:=Ev s2;have c1:((2*(2*W+1)*(2*eL K A n):Nat):Rat)=2*((2*W+1:Nat):Rat)*(2*(eL K A n:Rat)):=O8;have c2:((2*(2*W+1)*eM K A n:Nat):Rat)=2*((2*W+1:Nat):Rat)*(eM K A n:Rat):=O8;rw [c1]at Y;rw [c2]at Z;have hi:=fP.2 hD;have I:=fP.2 hP;have m:((2*W+1:Nat):Rat)*((2*W+1:Nat):Rat)⁻¹=1:=O5;have o:((2^e:Nat):Rat)*((2^e:Nat):Rat)⁻¹=1:=O5;rw [jR,Rat.one_mul]at hh;simp only [jR,Rat.one_mul]at g;generalize ((2*W+1:Nat):Rat)=D at *;generalize ((2^e:Nat):Rat)=P at *;have j:(0:Rat)<=(eL K A n:Rat):=Ev (bI _);have H:(0:Rat)<=(eM K A n:Rat):=Ev (bI _);refine Zis (s:=-(K:Rat)) (t:=(K:Rat)) (κ:=(Xq (Xg (sqf F xs)):Rat)) (ε:=D⁻¹) (L:=(eL K A n:Rat)) (L':=(eL K A n:Rat)) (M:=(eM K A n:Rat)) (h:=P⁻¹) f2 (Xj f) hC.2.2 O5 (λx=>?_) hi g j (Zpp n _ O1 V) j (Zpp n _ O1 y) H (Ygs n _ O1 V) I ?_ ?_ h1 S h3 hh
 .rw [<-Ks,<-Zi];grind [Ol,Qr,Int.mul_comm,Gw]
 .-- P⁻¹ * (2 L) ≤ D⁻¹ / 2
  have t1:=aD (a:=P⁻¹*D⁻¹) (b:=P-2*D*(2*(eL K A n:Rat))) (by have:=aT I hi;grind) O5;have G:P⁻¹*D⁻¹*(P-2*D*(2*(eL K A n:Rat)))=D⁻¹*(P*P⁻¹)-2*P⁻¹*(D*D⁻¹)*(2*(eL K A n:Rat)):=O5;rw [G,m,o]at t1;grind
 .have t1:=aD (a:=P⁻¹*D⁻¹) (b:=P-2*D*(eM K A n:Rat)) (by have:=aT I hi;grind) O5;have G:P⁻¹*D⁻¹*(P-2*D*(eM K A n:Rat))=D⁻¹*(P*P⁻¹)-2*P⁻¹*(D*D⁻¹)*(eM K A n:Rat):=O5;rw [G,m,o]at t1;have t2:=aD (a:=(Xq (Xg (sqf F xs)):Rat)-1) (b:=D⁻¹) O5 O5;grind
theorem Zm0{F:Nat}(H:Tr xs)(m:xs≠[])(D:Zad F xs)(G:s<=t):vat ((chn F xs).map Zc) t<=vat ((chn F xs).map Zc) s:=by
 obtain⟨h,o,N⟩:=Zmz H m D s t;have P:∀f u v,0<=crs f u v:=λf u v=>by unfold crs;all_goals omega
 have M:∀n:Nat,∀y,s<=y->y<=t->y-s<=(n:Rat)*h->vat ((chn F xs).map Zc) y<=vat ((chn F xs).map Zc) s:=λn=>by
  induction n with
  | zero=>
    grind
  | succ n I=>
   intro y e w g;have i:((n+1:Nat):Rat)*h=(n:Rat)*h+h:=O5;rcases(show y-s<=(n:Rat)*h\/(n:Rat)*h<y-s by grind)with j|j
   .grind
   .have x:(0:Rat)<=(n:Rat)*h:=aD O5 O5;rcases(show s<=y-h\/y-h<s by grind)with l|l
    .have a:=I (y-h) l O5 O5;grind
    grind
 have e:∃n:Nat,t-s<=(n:Rat)*h:=by
  have w:0<h⁻¹:=fP.2 o;refine⟨((t-s)*h⁻¹).ceil.toNat,?_⟩;have g:=@nI ((t-s)*h⁻¹);have i:((((t-s)*h⁻¹).ceil:Int):Rat)<=((((t-s)*h⁻¹).ceil.toNat:Nat):Rat):=by have:((t-s)*h⁻¹).ceil<=((((t-s)*h⁻¹).ceil.toNat:Nat):Int):=kQ _;exact_mod_cast this
  have j:=dK (fJ g i) (show 0<=h by grind);have x:(t-s)*h⁻¹*h=t-s:=O5;grind
 obtain⟨n,R⟩:=e;grind
def qv(z:R2):Rat:=(z.1:Rat)/(z.2:Rat)
theorem Zvr{x y X Y g:Nat}(F:g=Nat.gcd x y)(H:0<y)(D:0<Y)(h:x*Y=X*y):y/g∣Y/\x/g<=X:=by
 have f:0<g:=O5;have n:Nat.Coprime (x/g) (y/g):=by grind [Nat.coprime_div_gcd_div_gcd]
 have o:x/g*g=x:=mP (by grind [Nat.gcd_dvd_left]);have v:y/g*g=y:=mP (by grind [Nat.gcd_dvd_right]);have w:x/g*Y=X*(y/g):=by refine kG f ?_;grind
 have l:y/g∣Y:=n.symm.dvd_of_dvd_mul_left (by grind [Nat.dvd_mul_left]);refine⟨l,?_⟩;obtain⟨k,G⟩:=l;have i:0<k:=mQ λe=>O5;have j:0<y/g:=mQ λe=>O5;have m:x/g*k=X:=by refine kG j ?_;grind
 rw [<-m];exact eN _ i
theorem Zqh{x y X Y:Int}(m:0<y)(F:0<Y)(h:x*Y=X*y)(j:bl X.natAbs<=B)(e:bl Y.natAbs<=B)(D:B<=65536) :
  ¬Li x y/\Hd x y∣Y/\0<Hd x y/\bl (Fe x y).natAbs<=B/\bl (Hd x y).natAbs<=B/\Fe x y*y=x*Hd x y:=by
 have G:Nw x y=(Nat.gcd x.natAbs y.natAbs):=by rw [Yow O1];rfl
 have l:x.natAbs*Y.natAbs=X.natAbs*y.natAbs:=by rw [<-bR,<-bR,h]
 obtain⟨g,v⟩:=Zvr rfl O1 O1 l;have i:(y/Nw x y).natAbs=y.natAbs/Nat.gcd x.natAbs y.natAbs:=by grind
 have w:(x/Nw x y).natAbs=x.natAbs/Nat.gcd x.natAbs y.natAbs:=by grind [Int.natAbs_ediv_of_dvd,Zuf,Zg1]
 have n:bl (y/Nw x y).natAbs<=B:=aB (Lq (by rw [i];exact kW O1 g)) e;have o:bl (x/Nw x y).natAbs<=B:=aB (Lq O1) j;have f:¬Li x y:=λh=>by unfold Li at h;omega
 obtain⟨H,I,-⟩:=Za8 f;refine⟨f,?_,Zqa f m,O5,O5,?_⟩
 all_goals grind [Int.natAbs_dvd_natAbs,Yih]
structure En (K Q:Nat) (d:Nat) (z:R2):Prop where
 pos:0<z.2
 dv:z.2∣((Q*2^d:Nat):Int)
 lo:-(K:Rat)<=qv z
 hi:qv z<=(K:Rat)
theorem En.up{d:Nat}(h:En K Q d z):En K Q (d+1) z:=by obtain⟨e,i,f,g⟩:=h;refine⟨e,?_,f,g⟩;have:((Q*2^(d+1):Nat))=((Q*2^d):Int)*2:=O5;rw [this];grind [Int.dvd_trans,Int.dvd_mul_right]
theorem canc{N p s Y X D:Int}(e:p≠0)(f:N*p=s*D)(g:s*Y=X*p):N*Y=X*D:=by refine kH e ?_;grind
theorem Gu{z:Int}(h:0<z):(0:Rat)<(z:Rat):=by exact_mod_cast h
def Zdu{n m:Nat}(h:n<2^m):bl n<=m:=(Qs m n).2 h
theorem mid_en{d:Nat}{a b:R2}(ha:En K Q d a)(hb:En K Q d b)(hQ:0<Q)(Z:Q*2^(d+1)<2^B)(a0:2*K*(Q*2^d)<2^B)(I:B<=65536) :
  Ze1 a b/\En K Q (d+1) (Pv a b)/\qv (Pv a b)=(qv a+qv b)/2/\bl (Pv a b).1.natAbs<=B/\bl (Pv a b).2.natAbs<=B:=by
 obtain⟨M,⟨e,da⟩,la,ua⟩:=ha;obtain⟨N,⟨f,P⟩,lb,ub⟩:=hb;generalize hY:((Q*2^d:Nat):Int)=Y at *;have a2:0<Q*2^d:=gY hQ (cD O1);have i:0<Y:=O1;have a8:=Gu M;have a9:=Gu N;have rY:=Gu i;have v:0<a.2*b.2:=dU M N;have g:(a.1*b.2+b.1*a.2)*Y=(a.1*e+b.1*f)*(a.2*b.2):=by grind
 have a5:(a.1:Rat)*e=qv a*Y:=by unfold qv;have:(Y:Rat)=(a.2:Rat)*e:=O11;grind
 have a6:(b.1:Rat)*f=qv b*Y:=by
  unfold qv;have:(Y:Rat)=(b.2:Rat)*f:=by rw [P];simp
  grind
 have D:((a.1*e+b.1*f:Int):Rat)=(qv a+qv b)*Y:=O5;have a3:(a.1*e+b.1*f).natAbs<=2*K*(Q*2^d):=by
  have h:((2*K*(Q*2^d):Nat):Rat)=2*(K:Rat)*(Y:Rat):=by rw [<-hY];push_cast;rfl
  have t1:=aD (a:=2*(K:Rat)-(qv a+qv b)) (b:=(Y:Rat)) O5 O5;have t2:=aD (a:=2*(K:Rat)+(qv a+qv b)) (b:=(Y:Rat)) O5 O5;have u1:((a.1*e+b.1*f:Int):Rat)<=(((2*K*(Q*2^d):Nat):Int):Rat):=by rw [D];push_cast at h ⊢;grind
  have u2:((-((2*K*(Q*2^d):Nat):Int):Int):Rat)<=((a.1*e+b.1*f:Int):Rat):=by rw [D];push_cast at h ⊢;grind
  have v1:a.1*e+b.1*f<=((2*K*(Q*2^d):Nat):Int):=by exact_mod_cast u1
  have v2:-((2*K*(Q*2^d):Nat):Int)<=a.1*e+b.1*f:=by exact_mod_cast u2
  omega
 have a4:Y.natAbs=Q*2^d:=O1;have a1:Q*2^(d+1)=2*(Q*2^d):=O5;have F:bl Y.natAbs<=B:=Zdu O1;have j:bl (a.1*e+b.1*f).natAbs<=B:=Zdu O1;obtain⟨f1,f2,f3,f4,f5,f6⟩:=Zqh v i g j F I;have a7:=canc (Int.ne_of_gt v) f6 g;have l:bl (2*Y).natAbs<=B:=Zdu O5;have w:Fe (a.1*b.2+b.1*a.2) (a.2*b.2)*1*(2*Y)=(a.1*e+b.1*f)*(Hd (a.1*b.2+b.1*a.2) (a.2*b.2)*2):=by grind
 have o:0<Hd (a.1*b.2+b.1*a.2) (a.2*b.2)*2:=O1;obtain⟨R,S,y,G,H,V⟩:=Zqh o (by omega:0<2*Y) w j l I;have x:=canc (Int.ne_of_gt o) V w;have m:(Pv a b).1=Fe (Fe (a.1*b.2+b.1*a.2) (a.2*b.2)*1) (Hd (a.1*b.2+b.1*a.2) (a.2*b.2)*2):=rfl;have n:(Pv a b).2=Hd (Fe (a.1*b.2+b.1*a.2) (a.2*b.2)*1) (Hd (a.1*b.2+b.1*a.2) (a.2*b.2)*2):=rfl;rw [<-m,<-n]at x;rw [<-n]at S y H;rw [<-m]at G;have hq:qv (Pv a b)=(qv a+qv b)/2:=by
  have W:(((Pv a b).1:Int):Rat)*(2*(Y:Rat))=((a.1*e+b.1*f:Int):Rat)*(((Pv a b).2:Int):Rat):=by
   have:(((Pv a b).1*(2*Y):Int):Rat)=(((a.1*e+b.1*f)*(Pv a b).2:Int):Rat):=by rw [x]
   grind
  rw [D]at W;have rd:=Gu y;unfold qv at *;grind
 refine⟨⟨f1,R⟩,⟨y,?_,O5,O5⟩,hq,G,H⟩;grind
def vch(F:Nat)(xs:List Int)(x:Rat):Int:=vat ((chn F xs).map Zc) x
def cvc_v{F:Nat}(h:0<z.2):cvc F xs z=vch F xs (qv z):=Yqi h
def Sqn(P:R2->R2->Prop)(hi:Rat):Rat->List (R2×R2)->Prop
 | e,[]=>e<=hi
 | e,c::r=>e<=qv c.1/\qv c.1<qv c.2/\P c.1 c.2/\Sqn P hi (qv c.2) r
theorem Sqn.le{P:R2->R2->Prop}{hi:Rat} : ∀{e:Rat} {l:List (R2×R2)},Sqn P hi e l->e<=hi
 | e,[],h=>h
 | e,c::r,h=>by have:=Sqn.le h.2.2.2;have:=h.1;have:=h.2.1;grind
theorem Sqn.low{P:R2->R2->Prop}{hi:Rat}{f e:Rat}(g:e<=f):∀{l:List (R2×R2)},Sqn P hi f l->Sqn P hi e l
 | [],h=>by have h:f<=hi:=h;show e<=hi;grind
 | c::r,h=>⟨by have:=h.1;grind,h.2⟩
def Sqn.app{P:R2->R2->Prop}{e hi:Rat}{j:List (R2×R2)}(g:Sqn P hi e j):∀{f:Rat} {i:List (R2×R2)},Sqn P e f i->Sqn P hi f (i ++ j)
 | f,[],h=>g.low h
 | f,c::r,h=>⟨h.1,h.2.1,h.2.2.1,Sqn.app g h.2.2.2⟩
theorem Zpv{a:R2}(m:0<a.2)(h:a.1.natAbs<=K):-(K:Rat)<=qv a/\qv a<=(K:Rat):=by
 obtain⟨j,l⟩:=Ylb h;have n:(1:Rat)<=(a.2):=by exact_mod_cast (show 1<=a.2 by omega)
 have e:(0)<=(K:Rat):=Ev (bI _);have hi:=fP.2 (show 0<(a.2:Rat) by grind);have f:(a.2)*(a.2:Rat)⁻¹=1:=O5;unfold qv;have t1:=aD (a:=(a.2)⁻¹) (b:=(K)*a.2-a.1) O5 (by have:=aD (b:=(a.2)-1) e O5;grind);have t2:=aD (a:=(a.2)⁻¹) (b:=(K)*a.2+a.1) O5 (by have:=aD (b:=(a.2)-1) e O5;grind);have g:(a.2:Rat)⁻¹*((K)*a.2-a.1)=(K)*(a.2*(a.2:Rat)⁻¹)-a.1*(a.2:Rat)⁻¹:=O5;have i:(a.2:Rat)⁻¹*((K)*a.2+a.1)=(K)*(a.2*(a.2:Rat)⁻¹)+a.1*(a.2:Rat)⁻¹:=O5;rw [g,f]at t1;rw [i,f]at t2
 all_goals grind
theorem Zcx{a:R2}{n:Nat}(e:0<a.2)(f:bl a.1.natAbs<=n)(g:bl a.2.natAbs<=n)(h:n<=65536) :
  ¬Li a.1 a.2/\0<(slow a).2/\bl (slow a).1.natAbs<=n/\bl (slow a).2.natAbs<=n/\qv (slow a)=qv a:=by
 obtain⟨f1,f2,f3,f4,f5,f6⟩:=Zqh e e rfl f g h;refine⟨f1,f3,f4,f5,?_⟩;have r1:=Gu e;have r2:=Gu f3;have i:((Fe a.1 a.2))*(a.2:Rat)=(a.1)*((Hd a.1 a.2)):=by exact_mod_cast f6
 show((Fe a.1 a.2))/((Hd a.1 a.2))=(a.1)/(a.2:Rat);grind
theorem sep_of  {F A e:Nat} (D:Tr xs) (l:xs≠[]) (w:Zad F xs) (x:0<K) (o:0<A) (G:∀i,(cf (sqf F xs) i).natAbs<=A) (H:∀i,(cf (Xg (sqf F xs)) i).natAbs<=A)
  (hs:2<=(sqf F xs).length->Zzk K A (sqf F xs).length e=true) (u v:Rat) (m:-(K:Rat)<=u) (f:u<=v) (n:v<=(K:Rat)) (y:v-u<=1/((2^e:Nat):Rat)):vch F xs u-vch F xs v<=1:=by
 by_cases j:2<=(sqf F xs).length
 .have h:=Yqs D l w x o rfl j G H (hs j) m f n y;show vat _ u-vat _ v<=1;rw [h];unfold crs;all_goals omega
 .have N:=Nx (sqf F xs);have M:Xg (sqf F xs)=[]:=aK O1;have I:chn F xs=[sqf F xs]:=by unfold chn;grind [Yc8,Am]
  unfold vch vat;have r1:=Zij (([Zc (sqf F xs)]).map λg=>Dk (g u));have r2:=Zij (([Zc (sqf F xs)]).map λg=>Dk (g v));grind
theorem Sqn.mem{P:R2->R2->Prop}{hi:Rat} : ∀{f:Rat} {l:List (R2×R2)},Sqn P hi f l->∀c∈l,P c.1 c.2
 | _,[],_,c,e=>O5
 | f,d::r,h,c,e=>by
  rcases aW.1 e with rfl|e
  .exact h.2.2.1
  .exact Sqn.mem h.2.2.2 c e
theorem en_bl{d:Nat}(h:En K Q d z)(i:0<Q)(w:Q*2^d<2^B)(x:K*(Q*2^d)<2^B):bl z.1.natAbs<=B/\bl z.2.natAbs<=B:=by
 obtain⟨l,j,y,F⟩:=h;have g:0<Q*2^d:=gY i (cD O1);have f:z.2.natAbs<=Q*2^d:=by have:=fU.2 j;rw [eP]at this;simp_all [kW]
 have m:z.1.natAbs<=K*z.2.natAbs:=by
  have r:=Gu l;have e:(z.1)=qv z*z.2:=by unfold qv;grind
  have t1:=aD (a:=(K)-qv z) (b:=(z.2)) O5 O5;have t2:=aD (a:=(K)+qv z) (b:=(z.2)) O5 O5;have D:((K*z.2.natAbs:Nat))=(K)*z.2:=O5;have o:((z.1):Rat)<=(((K:Int)*z.2:Int)):=by push_cast;grind
  have v:((-((K:Int)*z.2):Int))<=((z.1):Rat):=by push_cast;grind
  have G:=by exact_mod_cast o
  have H:=by exact_mod_cast v
  omega
 have n:K*z.2.natAbs<=K*(Q*2^d):=bD _ f;exact⟨Zdu O1,Zdu O1⟩
theorem Yj5 (e:Nat)(w:Nat)(B:Nat){n:Nat}(h:En (2^n) Q (e+w) z)(x:0<Q)(j:Q<2^(2*n))(y:3*n+1+(e+w)<=B):bl z.1.natAbs<=B/\bl z.2.natAbs<=B:=by
 have f:∀m,m<=B->2^m<=2^B:=λm h=>dC O1 h;have i:0<2^(e+w):=cD O1;have g:=dS j i;have l:2^n*(Q*2^(e+w))<2^n*(2^(2*n)*2^(e+w)):=iI g (cD O1);have o:2^(2*n)*2^(e+w)=2^(2*n+(e+w)):=(bQ _ _ _).symm;have v:2^n*(2^(2*n)*2^(e+w))=2^(n+(2*n+(e+w))):=by simp [bQ]
 rw [o]at g;rw [v]at l;exact en_bl h x (cZ g (f _ O1)) (cZ l (f _ O1))
theorem Ed.const{g:List Int}(h:Ed g a)(o:Tr g)(m:Tr a)(l:a≠[])(w:g.length=a.length):∃k c:Int,k≠0/\c≠0/\∀x:Rat,(k:Rat)*Zc a x=(c:Rat)*Zc g x:=by
 obtain⟨k,s,i,h⟩:=h;obtain⟨v,f,j⟩:=Zxz i o m l h;have e:=aN.2 f
 match hs:tzl s,e,j with
 | [c],_,_=>
  have n:=by have:=(Qt s).mem f;rw [hs]at this;exact this
  refine⟨k,c,i,n,λx=>?_⟩;rw [h x,<-Le s,hs,Pw]
 | c::d::r,_,h9=>grind
theorem Zb3(p:List Int)(c:Int)(x:Rat):Zc (Yo p c) x=(c:Rat)*Zc p x:=by rw [<-Zi];grind [Ol,Qp,Qr,Int.mul_comm]
theorem Ed.dv{g:List Int}(h:Ed g a):Dv g a:=by obtain⟨k,s,e,h⟩:=h;refine⟨k,s,e,λt=>?_⟩;have:=Mt (p:=a.map λc=>k*c) (q:=Pa s g) (λx=>by rw [Zi,Xn];exact h x) t;rw [Qr,Gz]at this;exact this
theorem ed_cop{t w s:List Int}(F:k≠0)(m:Tr t)(H:Tr w)(t0:t≠[])(D:∀d,Tr d->Ed d t->Ed d w->d.length<=1)(h:∀x:Rat,(k:Rat)*(Zc u x*Zc w x)=Zc s x*Zc t x):Ed t u:=by
 obtain⟨g,A,B,f,j,n,y⟩:=Zm4 w.length t w m H (aI _);have G:=D g f j n;have i:=(j.len f m t0).1
 match hgg:g,G,i with
 | [c],_,_=>
  have e:c≠0:=by have:=f.mem O8;exact this
  refine⟨k*c,Mc ((Pa A u).map λa=>k*a) (Pa B s),bF F e,λx=>?_⟩;rw [Xd,Zi,Xn,Xn];have l:=y x;rw [Pw]at l;have o:=h x;push_cast;rw [show(k:Rat)*c*Zc u x=k*(Zc u x*(c:Rat)) by grind,l];have v:(k:Rat)*(Zc u x*(Zc A x*Zc t x+Zc B x*Zc w x))=k*Zc A x*Zc u x*Zc t x+Zc B x*(k*(Zc u x*Zc w x)):=O5;rw [v,o];grind
 | c::d::r,h9,_=>simp at h9
def Lc(F:Nat)(p:List Int):List Int:=Mz F (Xu p) (Xg (Xu p))
def Zbj(F:Nat)(p:List Int):Prop:=eok F (gA (Xu p) (Xg (Xu p))) (gB (Xu p) (Xg (Xu p)))
theorem Ni{F:Nat}(j:Tr p)(l:p≠[])(i:Zbj F p):Tr (Lc F p)/\Lc F p≠[]/\Xu (Lc F p)=Lc F p/\Xu p=Pa (sqf F p) (Lc F p)/\(sqf F p).length+(Lc F p).length=p.length+1:=by obtain⟨f1,f2,f3,f4,f5,f6⟩:=Np F j l i;have f:Tr (Xu p):=Mg (Xj j);have g:Tr (Xg (Xu p)):=Mp f;have h:=Zf6 F f g;have m:=Mj f2 h f3 f5;rw [<-f4,Pp j]at m;have n:=aN.2 f3;have o:=aN.2 f5;refine⟨h,f5,Zxb h (Zlk f g f5) (Ar (Zu3 F (Zko f g) (Zkn f g)) (λe=>f5 (by unfold Mz;rw [e];rfl))),f4,?_⟩;unfold Lc;omega
theorem Yny{h:List Int}(j:Tr h)(i:h≠[]){m:Int}(e:∀x:Rat,(k:Rat)*(Zc a x*Zc h x)=(m:Rat)*(Zc b x*Zc h x))(x:Rat):(k:Rat)*Zc a x=(m:Rat)*Zc b x:=by
 have g:=Da h (f:=Mc (a.map λc=>k*c) (b.map λc=>(-m)*c)) (by rw [Za2 j];exact i) (λx=>by rw [Xd,Zi,Zi];have:=e x;push_cast;grind) x
 rw [Xd,Zi,Zi]at g;push_cast at g;grind
theorem Zz9{F:Nat}(W:Tr p)(h0:p≠[])(l:Zbj F p)(e:Zbj F (Lc F p)):Ed (sqf F (Lc F p)) (sqf F p):=by
 obtain⟨n,a2,f,a4,a5⟩:=Ni W h0 l;obtain⟨H,G,b3,b4,b5⟩:=Ni n a2 e;obtain⟨-,u2,u3,-,-,-⟩:=Np F W h0 l;obtain⟨-,t2,t3,-,-,-⟩:=Np F n a2 e;have ht:Tr (Xu p):=Mg (Xj W);have o:Ed (Lc F p) (Xg (Xu p)):=(Zd5 ht (Mp ht) l).2.ed;have e2:Ed (Lc F (Lc F p)) (Xg (Lc F p)):=by have:=(Zd5 (F:=F) (p:=Xu (Lc F p)) (q:=Xg (Xu (Lc F p))) (by rw [f];exact n) (Mp (by rw [f];exact n)) e).2.ed;have h9:Lc F (Lc F p)=Mz F (Xu (Lc F p)) (Xg (Xu (Lc F p))):=rfl;rw [<-h9,f]at this;exact this
 have R:∀d,Tr d->Ed d (Lc F p)->Ed d (Xg (Lc F p))->Ed d (Lc F (Lc F p)):=λd M i v=>by unfold Lc at *;have:=Zli (F:=F) (d:=d) (p:=Xu (Mz F (Xu p) (Xg (Xu p)))) (q:=Xg (Xu (Mz F (Xu p) (Xg (Xu p))))) (by rw [f];exact n) (Mp (by rw [f];exact n)) (by rw [f];exact i) (by rw [f];exact v);exact this
 rw [f]at b4;generalize hg:Lc F p=g at *;generalize hh:Lc F g=h at *;generalize hu:sqf F p=u at *;generalize a0:sqf F g=t at *;obtain⟨k,s,hk,S⟩:=o;obtain⟨m,w,hm,V⟩:=e2;have hP:∀x:Rat,Zc (Xu p) x=Zc (lmul u g) x:=λx=>by rw [a4,Xn,Yb]
 have hG:∀x:Rat,Zc g x=Zc (lmul t h) x:=λx=>by
  have:Zc g x=Zc (Pa t h) x:=by rw [<-b4]
  rw [this,Xn,Yb]
 have N:∀x:Rat,Zc (Xg (Xu p)) x=Zc (ld u) x*Zc g x+Zc u x*Zc (ld g) x:=λx=>by rw [Ks,Cw _ _ hP,Bp]
 have y:∀x:Rat,(m:Rat)*Zc (ld g) x=Zc w x*Zc h x:=λx=>by rw [<-Ks];exact V x
 have Z:∀x:Rat,(k:Rat)*(Zc (Pa u w) x*Zc h x)=(m:Rat)*(Zc (Pa (Mc s ((ld u).map λc=>(-k)*c)) t) x*Zc h x):=λx=>by rw [Xn,Xn,Xd,Zi];have i:=S x;have v:=N x;have h3:=y x;have h4:=hG x;rw [Yb]at h4;rw [v]at i;have:(k:Rat)*(Zc u x*Zc w x*Zc h x)=Zc u x*k*(Zc w x*Zc h x):=O5;rw [this,<-h3];push_cast;have:Zc u x*(k:Rat)*(m*Zc (ld g) x)=m*(k*(Zc (ld u) x*Zc g x+Zc u x*Zc (ld g) x)-k*Zc (ld u) x*Zc g x):=O5;rw [this,i,h4];grind
 have D:=Yny H G Z;refine ed_cop (s:=(Pa (Mc s ((ld u).map λc=>(-k)*c)) [m])) hk t2 (w:=tzl w) (Qt w) t3 (λd M i v=>?_) (λx=>?_)
 .have I:Ed d w:=v.congr λx=>Le w x;have P:Ed (Pa d h) h:=R _ (Qq _ _) (by
   obtain⟨Y,s1,j,o⟩:=i;exact⟨Y,s1,j,λx=>by rw [hG x,Yb,Xn];have:=o x;grind⟩) (by
   obtain⟨Y,s1,j,o⟩:=I;exact⟨Y*m,s1,bF j hm,λx=>by rw [Ks,Xn];have:=o x;have:=y x;push_cast;grind⟩)
  have d0:=(i.len M t2 t3).1;have hl:=Mj M H d0 G;have:=(P.len (Qq _ _) H G).2;have l2:=aN.2 G;omega
 .rw [Le,Xn,Pw];have:=D x;rw [Xn,Xn]at this;rw [this];grind
theorem Yc6{t:List Int}(j:Tr u)(o:u≠[])(n:Tr t)(t0:t≠[])(l:Xu t=t)(h:Ed t u):pdv u t/\u=Pa (Hs u t) t/\Tr (Hs u t)/\Hs u t≠[]:=by
 have e:Xq t=1:=by grind [Zd6]
 obtain⟨k,s,f,h⟩:=h.dv;obtain⟨q,m⟩:=gauss e _ k s rfl f h;have g:u=Pa (tzl q) t:=j.ext (Qq _ _) λi=>by grind [Gz,Ygz]
 grind [Zz3,Qt,Cb]
theorem Zqx{F:Nat}(g:Tr p)(l:p≠[])(f:Zbj F p)(n:2<=p.length):(Lc F p).length<p.length:=by obtain⟨i,m,-⟩:=Ni g l f;have h:Tr (Xu p):=Mg (Xj g);have j:Ed (Lc F p) _:=(Zd5 h (Mp h) f).2.ed;have o:=Nx (Xu p);have v:=Pp g;have:=(j.len i (Mp h) (λe=>O5)).2;omega
theorem nrm1(h:Tr p)(o:Xu p=p)(n:p.length=1):p=[1]:=by
 have f:p≠[]:=λe=>O5;have l:=Zd6 h f;have g:0<cf (Xu p) ((Xu p).length-1):=Ar (Xj h) (λe=>f (aK (by grind [Yp])));rw [o]at l g
 match p,n with
 | [c],_=>
  have m:0<c:=g;have j:c∣Xq [c]:=Ce λi=>by
   match i with
   | 0=>exact kD c
   | i+1=>grind [Yx,Int.dvd_zero]
  have:=mK O1 j;grind
def Dp(p q:List Int):Prop:=Tr q/\q≠[]/\Xu q=q/\∃a,Tr a/\Xu p=Pa a q
theorem Dp.start(f:Tr p)(g:p≠[]):Dp p (Xu p):=
 ⟨Mg (Xj f),Zlr f g,Zxb (Mg (Xj f)) (Zd6 f g) (Ar (Xj f) (λe=>g (aK (by grind [Yp])))),[1],.inr (show cf [1] 0≠0 by decide),by refine(Mg (Xj f)).ext (Qq _ _) λi=>?_;rw [Gz,Zt2];rfl⟩
theorem Dp.sz{n:Nat}(g:Tr p)(i:p≠[])(hs:Sz n p)(F:p.length<=13)(h:Dp p q):Sz (n+15) q/\q.length<=p.length:=by obtain⟨j,y,D,a,m,e⟩:=h;have l:fcs 0 13<=2^15*2^15:=O4;have o:=Pp g;have f:=Zlr g i;have v:=Mg (Xj g);have w:a≠[]:=λx=>f (by grind [Cb]);refine⟨Zcc _ 24 j m (Zwn hs) f v O1 O1 l (by grind [Zbg]),?_⟩;grind [Mj,List.length_pos_iff]
theorem Dp.ok{n F:Nat}(f:Tr p)(e:p≠[])(hs:Sz n p)(l:n<=220)(j:p.length<=11)(i:p.length<=F+1)(h:Dp p q):Zad F q/\Zbj F q:=by obtain⟨g,m⟩:=h.sz f e hs O1;have:=(chG F h.1 h.2.1 g O1 O1 O1).1;exact⟨this,this.1.2.2.1⟩
theorem Dp.next{F:Nat}(h:Dp p q)(f:Zbj F q):Dp p (Lc F q):=by obtain⟨n,o,v,a,y,e⟩:=h;obtain⟨j,l,m,g,w⟩:=Ni n o f;refine⟨j,l,m,Pa a (sqf F q),Qq _ _,?_⟩;rw [v]at g;refine e.trans ((aH _ g).trans ?_);refine(Qq _ _).ext (Qq _ _) λi=>Mt (λx=>?_) i;grind [Xn]
def Zfk(F:Nat):Nat->List Int->List Int
 | 0,p=>sqf F p
 | f+1,p=>if(sqf F p).length=1 then sqf F p else Pa (Hs (sqf F p) (sqf F (Lc F p))) (Zfk F f (Lc F (Lc F p)))
def Zt5(F:Nat):Nat->List Int->List Int->List Int
 | 0,e,_=>e
 | f+1,e,q=>if(sqf F q).length=1 then e else if(sqf F (Lc F q)).length=1 then Pa e (Hs (sqf F q) (sqf F (Lc F q)))else Zt5 F f (Pa e (Hs (sqf F q) (sqf F (Lc F q)))) (Lc F (Lc F q))
theorem Zjj{F:Nat}(g:Tr q)(f:q≠[])(e:Zbj F q)(h:(sqf F q).length=1):sqf F q=[1]/\q.length=1/\(Lc F q).length=1:=by
 obtain⟨f1,f2,f3,f4,f5,f6⟩:=Np _ g f e;obtain⟨j,l,m,n,o⟩:=Ni g f e;have w:=aN.2 f;have v:q.length=1:=by
  rcases bA q.length 2 with i|i
  .omega
  .have:=Zqx g f e i;omega
 grind [nrm1]
theorem Zp0(e:Tr p):Pa p [1]=p:=by refine(Qq _ _).ext e λi=>Mt (λx=>?_) i;grind [Xn,Pw]
theorem Yg7{F:Nat}(i:Tr q)(g:q≠[])(e:Zbj F q)(h:q.length=1):∀f,Zfk F f q=[1]:=λf=>by
 obtain⟨f1,f2,f3,f4,f5,f6⟩:=Np _ i g e;obtain⟨l,j,m,n,o⟩:=Ni i g e;have v:=aN.2 f3;have w:=aN.2 j;have hs:(sqf F q).length=1:=O1;have:=(Zjj i g e hs).1;cases f with
 | zero=>exact this
 | succ f=>unfold Zfk;grind
theorem Zzx (p:List Int){F:Nat}{f:Nat}(h:Tr q)(g:q≠[])(e:Zbj F q):Tr (Zfk F f q):=by
 obtain⟨f1,f2,f3,f4,f5,f6⟩:=Np _ h g e;cases f with
 | zero=>exact f2
 | succ f=>unfold Zfk;grind [Qq]
theorem Yok{F n:Nat}(M:Tr p)(y:p≠[])(hs:Sz n p)(I:n<=220)(G:p.length<=11)(D:p.length<=F+1):∀(f:Nat) (j q:List Int),Tr j->Dp p q->q.length<=f->Zt5 F f j q=Pa j (Zfk F f q):=by
 intro f
 induction f with
 | zero=>intro j q _ g H;have:=aN.2 g.2.1;omega
 | succ f R=>
  intro j q P g H;have h:=(g.ok M y hs I G D).2;have m:=g.next h;have e:=(m.ok M y hs I G D).2;have l:=m.next e;have o:=(l.ok M y hs I G D).2;unfold Zt5 Zfk;by_cases v:(sqf F q).length=1
  .rw [aO v,aO v,(Zjj g.1 g.2.1 h v).1,Zp0 P]
  .rw [aF v];have S:2<=q.length:=by obtain⟨f1,f2,f3,f4,f5,f6⟩:=Np _ g.1 g.2.1 h;obtain⟨Y,Z,a3,a4,a5⟩:=Ni g.1 g.2.1 h;grind [List.length_pos_iff]
   have V:=Zqx g.1 g.2.1 h S;obtain⟨-,-,-,-,b5⟩:=Ni m.1 m.2.1 e;obtain⟨-,b2,N,-,-,-⟩:=Np _ m.1 m.2.1 e;have lb:=aN.2 N;by_cases w:(sqf F (Lc F q)).length=1
   .obtain⟨s1,s2,W⟩:=Zjj m.1 m.2.1 e w;rw [aO w,Yg7 l.1 l.2.1 o W];refine(Qq _ _).ext (Qq _ _) λi=>Mt (λx=>?_) i;grind [Xn,Pw]
   .rw [aF w,R _ _ (Qq _ _) l O1];refine(Qq _ _).ext (Qq _ _) λi=>Mt (λx=>?_) i;grind [Xn]
def Ygp(F:Nat)(p:List Int):List Int:=Hs (Yo (Yw p) 1) (sqf F p)
def rrest(F:Nat)(p:List Int):List Int:=Hs (Yw (Ygp F p)) (sqf F (Ygp F p))
def rodd(F:Nat):Nat->List Int->List Int
 | 0,p=>sqf F p
 | f+1,p=>if(sqf F p).length=1 then sqf F p else Pa (Hs (sqf F p) (sqf F (Ygp F p))) (rodd F f (rrest F p))
theorem Zpf{F:Nat}(h:Xu p=Xu q):sqf F p=sqf F q:=by unfold sqf;rw [h]
def Zbf(F:Nat)(q:List Int):List Int:=Hs (sqf F q) (sqf F (Lc F q))
theorem Zc6{F:Nat}(g:Tr q)(h:q≠[])(f:Zbj F q)(e:Zbj F (Lc F q)):pdv (sqf F q) (sqf F (Lc F q))/\sqf F q=Pa (Zbf F q) (sqf F (Lc F q))/\Tr (Zbf F q)/\Zbf F q≠[]:=by obtain⟨f1,f2,f3,f4,f5,f6⟩:=Np F g h f;obtain⟨i,j,l,m,n⟩:=Ni g h f;obtain⟨-,t2,t3,-,-,t6⟩:=Np F i j e;exact Yc6 f2 f3 t2 t3 t6 (Zz9 g h f e)
theorem Zxt{n:Nat}(j:Tr p)(w:p≠[])(hs:Sz n p)(D:p.length<=13)(o:Tr a)(v:Tr b)(e:Xu p=Pa a b):Sz (n+15) b/\b.length<=p.length/\b≠[]:=by have x:fcs 0 13<=2^15*2^15:=O9;have h:=Pp j;have f:=Zlr j w;have y:Tr (Xu p):=Mg (Xj j);have l:a≠[]:=λg=>f (by rw [e,g,Cb]);have m:b≠[]:=λg=>f (by rw [e,g,Zfl]);refine⟨Zcc 13 24 v o (Zwn hs) f y O1 O4 x (by rw [Zbg];exact e),?_,m⟩;have i:=Mj o v l m;rw [<-e,h]at i;have:=aN.2 l;omega
def Op(p e q:List Int):Prop:=∃a,Tr a/\Xu p=Pa a (Pa e q)
theorem Op.start(e:Tr p):Op p [1] (Xu p):=⟨[1],.inr (show cf [1] 0≠0 by decide),by refine(Mg (Xj e)).ext (Qq _ _) λi=>Mt (λx=>?_) i;rw [Xn,Xn,Pw];push_cast;show Zc (Xu p) x=_;grind⟩
theorem Op.next{j:List Int}{F:Nat}(n:Tr q)(o:q≠[])(I:Xu q=q)(g:Zbj F q)(f:Zbj F (Lc F q))(h:Op p j q):Op p (Pa j (Zbf F q)) (Lc F (Lc F q)):=by
 obtain⟨a,P,e⟩:=h;obtain⟨-,M,R,S⟩:=Zc6 n o g f;obtain⟨v,w,y,l,N⟩:=Ni n o g;obtain⟨-,-,-,m,-⟩:=Ni v w f;rw [I]at l;rw [y]at m;refine⟨Pa a (Pa (sqf F (Lc F q)) (sqf F (Lc F q))),Qq _ _,e.trans ?_⟩;refine(Qq _ _).ext (Qq _ _) λi=>Mt (λx=>?_) i;have D:Zc q x=Zc (sqf F q) x*Zc (Lc F q) x:=by rw [<-Xn,<-l]
 have G:Zc (sqf F q) x=Zc (Zbf F q) x*Zc (sqf F (Lc F q)) x:=by rw [<-Xn,<-M]
 have H:Zc (Lc F q) x=Zc (sqf F (Lc F q)) x*Zc (Lc F (Lc F q)) x:=by rw [<-Xn,<-m]
 simp only [Xn];rw [D,G];rw [H];generalize Zc (sqf F (Lc F q)) x=A;generalize Zc (Lc F (Lc F q)) x=B;grind
theorem Op.sz{f:List Int}{n:Nat}(m:Tr p)(g:p≠[])(hs:Sz n p)(j:p.length<=13)(l:Tr f)(v:Tr q)(h:Op p f q):Sz (n+15) f/\f.length<=p.length/\f≠[]:=by obtain⟨a,o,e⟩:=h;exact Zxt m g hs j (Qq a q) l (e.trans ((Qq _ _).ext (Qq _ _) λi=>Mt (λx=>by rw [Xn,Xn,Xn,Xn];grind) i))
theorem Yn8(e:Tr p):Pa [1] p=p:=by rw [Zbg];exact Zp0 e
def Zkh{F:Nat}(h:Tr xs)(f:xs≠[])(g:Zad F xs)(e:s<=t):vch F xs t<=vch F xs s:=Zm0 h f g e
def Sqn.imp{P e:R2->R2->Prop}{hi:Rat}(f:∀x y,P x y->e x y):∀{g:Rat} {l:List (R2×R2)},Sqn P hi g l->Sqn e hi g l
 | _,[],h=>h
 | _,_::_,h=>⟨h.1,h.2.1,f _ _ h.2.2.1,Sqn.imp f h.2.2.2⟩
def oe(f:Nat->Int):Nat->Int
 | 0=>0
 | k+1=>err (oe f k) (f k)
def mon(d n:Nat):List Int:=mono d ((2:Int)^n)
variable {P:Program} {N:Nat} {sc:Nat->Prop} {env:Qm} {H:Hp}
end Go.Sky
namespace Go.Sky
variable{f:Rat->Rat}{xs p:List Int}{x:Rat}
def HD(xs ys:List Int):Prop:=Vp ys/\ys≠[]/\Zbd ys/\Zad 13 ys/\chn 13 ys=chn 13 xs
def PH(xs:List Int)(x y:R2):Prop:=(0<x.2/\bl x.1.natAbs<=506/\bl x.2.natAbs<=506)/\(0<y.2/\bl y.1.natAbs<=506/\bl y.2.natAbs<=506)/\cvc 13 xs x-cvc 13 xs y=1
def DR:R2×R2:=((0,0),(0,0))
theorem Zhm(d:Rat){h:Rat}(a:0<h):∃n:Nat,d<=(n:Rat)*h:=by
 have e:0<h⁻¹:=fP.2 a;refine⟨(d*h⁻¹).ceil.toNat,?_⟩;have b:=@nI (d*h⁻¹);have c:(((d*h⁻¹).ceil:Int):Rat)<=(((d*h⁻¹).ceil.toNat:Nat):Rat):=by have:(d*h⁻¹).ceil<=(((d*h⁻¹).ceil.toNat:Nat):Int):=kQ _;exact_mod_cast this
 have g:=dK (fJ b c) (show 0<=h by grind);have i:d*h⁻¹*h=d:=O5;grind
theorem Zrr{u v:Rat}(h:crs f u v<=0)(b:f u≠0):0<f u*f v:=by
 unfold crs at h;by_cases a:f u≠0/\f u*f v<=0
 .rw [aO a]at h;exact absurd h O4
 .have:¬f u*f v<=0:=λc=>a ⟨b,c⟩;grind
theorem Zee{F:Nat}(l:Tr xs)(i:xs≠[])(j:Zad F xs){s t:Rat}(D:s<=t)(B:vch F xs s<=vch F xs t)(hs:Zc (sqf F xs) s≠0):∀y,s<=y->y<=t->0<Zc (sqf F xs) s*Zc (sqf F xs) y:=by
 obtain⟨h,w,z⟩:=Zmz l i j s t;have g:∀u v,s<=u->u<=v->v<=t->v-u<=h->crs (Zc (sqf F xs)) u v<=0:=λu v a b c d=>by have e:=z u v a b c d;have Q:vat ((chn F xs).map Zc) u<=vat ((chn F xs).map Zc) s:=Zm0 l i j a;have R:vat ((chn F xs).map Zc) t<=vat ((chn F xs).map Zc) v:=Zm0 l i j c;have S:vat ((chn F xs).map Zc) s<=vat ((chn F xs).map Zc) t:=B;omega
 generalize Zc (sqf F xs)=f at *;have m:∀n:Nat,∀y,s<=y->y<=t->y-s<=(n:Rat)*h->0<f s*f y:=λn=>by
  induction n with
  | zero=>
   intro y a b c;have:y=s:=by push_cast at c;grind
   subst this;exact Zrr (g _ _ a O5 b O5) hs
  | succ n N=>
   intro y a b c;push_cast at c;by_cases G:y-s<=h
   .exact Zrr (g s y O5 a b G) hs
   .have o:=N (y-h) O5 O5 O5;have H:f (y-h)≠0:=λe=>by rw [e]at o;grind
    have I:=Zrr (g (y-h) y O5 O5 b O5) H;have M:=aT o I;have r:f s*f (y-h)*(f (y-h)*f y)=(f (y-h)*f (y-h))*(f s*f y):=O5;rw [r]at M;have P:0<f (y-h)*f (y-h):=by
     rcases(show 0<f (y-h)\/f (y-h)<0 by grind)with q|q
     .exact aT q q
     .have:=aT (a:=-f (y-h)) (b:=-f (y-h)) O5 O5;grind
    rcases(show 0<f s*f y\/f s*f y<=0 by grind)with q|q
    .exact q
    .have:=aD (a:=f (y-h)*f (y-h)) (b:=-(f s*f y)) O5 O5;grind
 intro y a b;obtain⟨n,k⟩:∃n:Nat,y-s<=(n:Rat)*h:=by obtain⟨n,k⟩:=Zhm (y-s) w;exact⟨n,k⟩
 exact m n y a b k
theorem Zgx (p:List Int)(s:Rat)(t:Rat)(z:s<=t)(r:∀u,s<=u->u<=t->0<=Zc (ld p) u):Zc p s<=Zc p t:=by
 rcases(show Zc p s<=Zc p t\/Zc p t<Zc p s by grind)with h|h
 .exact h
 .exfalso;obtain⟨M,S,G⟩:=Zjp s t p;have w:s<t:=by
   rcases(show s<t\/s=t by grind)with d|d
   .exact d
   .rw [d]at h;grind
  obtain⟨n,y⟩:=Zhm (M*(t-s)*(t-s)+1) (show 0<Zc p s-Zc p t by grind);have g:(0:Rat)<(n:Rat):=by
   rcases bB n with d|d
   .subst d;have:=aD (a:=M*(t-s)) (b:=t-s) (aD O5 O5) O5;push_cast at y;grind
   .exact_mod_cast d
  have m:(n:Rat)≠0:=λe=>by rw [e]at g;exact absurd g O4
  have c:(n:Rat)*((t-s)/n)=t-s:=by rw [jR,<-Rat.mul_assoc,lE (n:Rat),Rat.mul_assoc,mR _ m,Rat.mul_one]
  have o:∀k:Nat,(k:Rat)<=(n:Rat)->-(M*((t-s)/n)*((t-s)/n))*k<=Zc p (s+k*((t-s)/n))-Zc p s:=λk=>by
   induction k with
   | zero=>intro _;push_cast;rw [show s+0*((t-s)/n)=s by grind];grind
   | succ k B=>
    intro v;push_cast at v ⊢;have P:=B O5;have l:0<=(t-s)/n:=by rw [jR];exact aD O5 (cT (fP.2 g))
    have i:=c;generalize (t-s)/(n:Rat)=h at *;have D:(0:Rat)<=(k:Rat):=by exact_mod_cast bI k
    have H:=aD (a:=(k:Rat)) (b:=h) D l;have I:=aD (a:=(n:Rat)-(k+1)) (b:=h) O5 l;have j:=(G (s+k*h) (s+(k+1)*h) O5 O5 O5).1;have e:=r (s+k*h) O5 O5;have N:=aD l e;rw [show s+(k+1)*h-(s+k*h)=h by grind]at j;grind
  have q:=o n O5;have i:=c;rw [i,show s+(t-s)=t by grind]at q;have F:-(M*((t-s)/n)*((t-s)/n))*n=-(M*((t-s)/n)*(t-s)):=O5;rw [F]at q;have Q:M*((t-s)/n)*(t-s)*n=M*(t-s)*(t-s):=O5;have R:=aD (a:=Zc p t-Zc p s+M*((t-s)/n)*(t-s)) (b:=(n:Rat)) O5 O5;grind
theorem Zgf(p:List Int)(x:Rat):Zc (p.map λa=>-1*a) x=-Zc p x:=by rw [Zi];push_cast;grind
theorem Zoz (p:List Int){s t:Rat}(k:s<t)(e:∀u,s<u->u<=t->0<Zc (ld p) u)(g:0<=Zc (ld p) s):Zc p s<Zc p t:=by
 have i:s<(s+t)/2/\(s+t)/2<t:=by constructor<;>grind
 generalize (s+t)/2=m at *;have q:=Zgx p s m O5 (λu a b=>by
  rcases(show s<u\/u=s by grind)with h|h
  .exact cT (e u h O5)
  .rw [h];exact g)
 obtain⟨M,l,n⟩:=Zjp m t p;have j:=e m i.1 O5;obtain⟨η,o,v,w⟩:=Gn (show 0<t-m by grind) l (show 0<Zc (ld p) m/2 by grind);have b:=(n m (m+η) O5 O5 O5).1;rw [show m+η-m=η by grind]at b;have r:=Zgx p (m+η) t O5 (λu a b=>cT (e u O5 b));have c:=aD (a:=η) (b:=Zc (ld p) m/2-η*M) O5 O5;have d:=aT o j;grind
def Dr:Nat->List Int->Rat->Int
 | 0,_,_=>0
 | n+1,p,x=>if Zc p x≠0 then Dk (Zc p x)else Dr n (Xg p) x
theorem Zzq(h:0<x):Dk x=1:=Zah h
theorem Zn0(h:x<0):Dk x=-1:=Zai h
theorem Zti(h:x=0):Dk x=0:=by subst h;rfl
theorem Pe(x:Rat):(0<x/\Dk x=1)\/(x<0/\Dk x=-1)\/(x=0/\Dk x=0):=by
 rcases(show 0<x\/x<0\/x=0 by grind)with h|h|h
 .exact .inl ⟨h,Zzq h⟩
 .exact .inr (.inl ⟨h,Zn0 h⟩)
 .exact .inr (.inr ⟨h,Zti h⟩)
theorem Zyv(n:Nat)(p:List Int)(x:Rat)(h:Zc p x≠0)(a:p.length<=n):Dr n p x=Dk (Zc p x):=by
 cases n with
 | zero=>have:p=[]:=aK O1;subst this;exact absurd rfl h
 | succ n=>unfold Dr;rw [aO h]
theorem Zoa(p:List Int)(x:Rat)(h:Zc p x≠0):∃δ:Rat,0<δ/\∀y,x<y->y<=x+δ->Dk (Zc p y)=Dk (Zc p x):=by
 obtain⟨L,q,k⟩:=Bo x (x+1) p;have i:0<(if 0<Zc p x then Zc p x else -Zc p x):=by split<;>grind
 obtain⟨δ,j,m,g⟩:=Gn (show(0:Rat)<1 by decide) (show 0<L+1 by grind) (show 0<(if 0<Zc p x then Zc p x else -Zc p x)/2 by grind);refine⟨δ,j,λy n o=>?_⟩;have l:=k x y O5 O5 O5;have b:=aD (a:=L) (b:=δ-(y-x)) O5 O5;have c:L*(y-x)<=δ*(L+1):=O5;rcases Pe (Zc p x)with⟨d,e⟩|⟨d,e⟩|⟨d,e⟩
 .rw [aO d]at g i;rw [e];exact Zzq O5
 .rw [aF O5]at g i;rw [e];exact Zn0 O5
 .exact absurd d h
theorem Ay:∀(n:Nat) (p:List Int) (x:Rat),p.length<=n->∃δ:Rat,0<δ/\∀y,x<y->y<=x+δ->Dk (Zc p y)=Dr n p x
 | 0,p,x,o=>⟨1,O4,λy _ _=>by have:p=[]:=aK O1;subst this;exact Zti rfl⟩
 | n+1,p,x,o=>by
  by_cases h:Zc p x≠0
  .rw [Zyv (n+1) p x h o];exact Zoa p x h
  .have D:Zc p x=0:=cJ.1 h;have z:=Nx p;obtain⟨δ,t,v⟩:=Ay n (Xg p) x O1;have w:Dr (n+1) p x=Dr n (Xg p) x:=by unfold Dr;rw [aF h];cases n<;>rfl
   have k:Zc (ld p) x≠0->Dk (Zc (ld p) x)=Dr n (Xg p) x:=λg=>by rw [<-Ks]at g ⊢;exact(Zyv n (Xg p) x g O1).symm
   refine⟨δ,t,λy l F=>?_⟩;rw [w];have i:∀u,x<u->u<=y->Dk (Zc (ld p) u)=Dr n (Xg p) x:=λu a b=>by rw [<-Ks];exact v u a O5
   have e:=i y l O5;generalize Dr n (Xg p) x=σ at *;rcases Pe (Zc (ld p) y)with⟨m,j⟩|⟨m,j⟩|⟨m,j⟩
   .rw [j]at e;subst e;refine Zzq ?_;have:=Zoz p l (λu a b=>by
     rcases Pe (Zc (ld p) u)with⟨d,c⟩|⟨d,c⟩|⟨d,c⟩
     .exact d
     .have:=i u a b;rw [c]at this;exact absurd this O4
     .have:=i u a b;rw [c]at this;exact absurd this O4) (by
     rcases Pe (Zc (ld p) x)with⟨d,c⟩|⟨d,c⟩|⟨d,c⟩
     .exact cT d
     .have:=k O5;rw [c]at this;exact absurd this O4
     .grind)
    grind
   .rw [j]at e;subst e;refine Zn0 ?_;have q:∀u,Zc (ld (p.map λa=>-1*a)) u=-Zc (ld p) u:=λu=>by rw [Zak];push_cast;grind
    have:=Zoz (p.map λa=>-1*a) l (λu a b=>by
     rw [q];rcases Pe (Zc (ld p) u)with⟨d,c⟩|⟨d,c⟩|⟨d,c⟩
     .have:=i u a b;rw [c]at this;exact absurd this O4
     .grind
     .have:=i u a b;rw [c]at this;exact absurd this O4) (by
     rw [q];rcases Pe (Zc (ld p) x)with⟨d,c⟩|⟨d,c⟩|⟨d,c⟩
     .have:=k O5;rw [c]at this;exact absurd this O4
     .grind
     .grind)
    rw [Zgf,Zgf]at this;grind
   .rw [j]at e;subst e;refine Zti ?_;have r:∀u,x<=u->u<=y->Zc (ld p) u=0:=λu a b=>by
     rcases(show x<u\/u=x by grind)with g|g
     .rcases Pe (Zc (ld p) u)with⟨d,c⟩|⟨d,c⟩|⟨d,c⟩
      .have:=i u g b;rw [c]at this;exact absurd this O4
      .have:=i u g b;rw [c]at this;exact absurd this O4
      .exact d
     .subst g;rcases Pe (Zc (ld p) u)with⟨d,c⟩|⟨d,c⟩|⟨d,c⟩
      .have:=k O5;rw [c]at this;exact absurd this O4
      .have:=k O5;rw [c]at this;exact absurd this O4
      .exact d
    have B:=Zgx p x y O5 (λu a b=>by rw [r u a b];grind);have s:=Zgx (p.map λa=>-1*a) x y O5 (λu a b=>by rw [Zak,r u a b];push_cast;grind);rw [Zgf,Zgf]at s;grind
theorem Ed.mul_l{a b c:List Int}(h:Ed a b):Ed (Pa c a) (Pa c b):=by obtain⟨k,s,d,e⟩:=h;exact⟨k,s,d,λx=>by rw [Xn,Xn];have:=e x;grind⟩
theorem Ec{F n:Nat}(s:Tr p)(k:p≠[])(hs:Sz n p)(r:n<=220)(m:p.length<=11)(l:p.length<=F+1):∀(f:Nat) (q:List Int),Dp p q->q.length<=f->
  (∃B:List Int,∀x:Rat,Zc q x=Zc (Zfk F f q) x*(Zc B x*Zc B x))/\Ed (Zfk F f q) (sqf F q):=by
 intro f
 induction f with
 | zero=>intro q a o;have:=aN.2 a.2.1;omega
 | succ f Q=>
  intro q a o;have d:=(a.ok s k hs r m l).2;have e:=a.next d;have b:=(e.ok s k hs r m l).2;have g:=e.next b;unfold Zfk;by_cases j:(sqf F q).length=1
  .rw [aO j];obtain⟨W,Y,s3⟩:=Zjj a.1 a.2.1 d j;refine⟨⟨[1],λx=>?_⟩,Ed.refl _⟩;rw [W,nrm1 a.1 a.2.2.1 Y,Pw];push_cast;grind
  .rw [aF j];have R:2<=q.length:=by obtain⟨f1,f2,f3,f4,f5,f6⟩:=Np F a.1 a.2.1 d;obtain⟨z,t,u,i,D⟩:=Ni a.1 a.2.1 d;have l1:=aN.2 f3;have l2:=aN.2 t;omega
   have V:=Zqx a.1 a.2.1 d R;obtain⟨z,t,u,i,D⟩:=Ni a.1 a.2.1 d;obtain⟨Z,b2,b3,v,b5⟩:=Ni e.1 e.2.1 b;obtain⟨-,t2,t3,-,-,-⟩:=Np F e.1 e.2.1 b;have lb:=aN.2 t3;obtain⟨⟨B,N⟩,P⟩:=Q _ g O1;obtain⟨-,y,o3,o4⟩:=Zc6 a.1 a.2.1 d b;have h:=(g.ok s k hs r m l).2;rw [a.2.2.1]at i;rw [u]at v;have G:∀x,Zc q x=Zc (sqf F q) x*Zc (Lc F q) x:=λx=>by rw [<-Xn,<-i]
   have H:∀x,Zc (sqf F q) x=Zc (Zbf F q) x*Zc (sqf F (Lc F q)) x:=λx=>by rw [<-Xn,<-y]
   have I:∀x,Zc (Lc F q) x=Zc (sqf F (Lc F q)) x*Zc (Lc F (Lc F q)) x:=λx=>by rw [<-Xn,<-v]
   refine⟨⟨Pa (sqf F (Lc F q)) B,λx=>?_⟩,?_⟩
   .rw [Xn,Xn,G x,H x,I x,N x];show _=Zc (Zbf F q) x*_*_;generalize Zc (sqf F (Lc F q)) x=S;generalize Zc B x=C;grind
   .have M:Ed (Zfk F f (Lc F (Lc F q))) (sqf F (Lc F q)):=P.trans (Zz9 e.1 e.2.1 b h);have w:=M.mul_l (c:=Zbf F q);rw [<-y]at w;exact w
theorem Zty{F n:Nat}(P:Tr p)(I:p≠[])(hs:Sz n p)(hn:n<=220)(hl:p.length<=11)(hF:p.length<=F+1){o:List Int}(u:Tr o)(R:o≠[])(g:Zbj F o)(r:Zbj F p)(h:Ed o (sqf F p)):(Lc F o).length=1/\sqf F o=Xu o:=by
 obtain⟨D,S,V,G,a5⟩:=Ni u R g;obtain⟨f1,f2,f3,f4,f5,f6⟩:=Np F P I r;obtain⟨-,s2,s3,s4,s5,s6⟩:=Np F u R g;have Q:Tr (Xu o):=Mg (Xj u);have M:=Zd5 Q (Mp Q) g;have H:Ed (Lc F o) (Xu o):=M.1.ed;have W:Ed (Lc F o) (ld (Xu o)):=(M.2.ed:Ed (Lc F o) (Xg (Xu o))).congr λx=>Ks _ x;have s:Sim (Xu o) o:=(Hj (Yw o)).trans (Qx u);obtain⟨k,w,t,l⟩:Ed (Xu o) (sqf F p):=by
  obtain⟨k,w,t,e⟩:=h;obtain⟨c,d,hc,B,v⟩:=s;have j:∀x:Rat,(c:Rat)*Zc (Xu o) x=(d:Rat)*Zc o x:=λx=>by rw [<-Zi,<-Zi];exact Ol x _ _ λi=>by rw [Qr,Qr];exact v i
  exact⟨d*k,w.map λa=>c*a,bF B t,λx=>by rw [Zi];have a:=e x;have b:=j x;push_cast;grind⟩
 have N:(Lc F o).length<=1:=by
  refine Zf8 P I r D (H.trans ⟨k,w,t,l⟩) ?_;have Y:Ed (Lc F o) (lmul w (ld (Xu o))):=by obtain⟨m,z,hm,e⟩:=W;exact⟨m,lmul w z,hm,λx=>by rw [Yb,Yb];have:=e x;grind⟩
  have Z:Ed (Lc F o) (ld (sqf F p)):=Ed.lin H Y (ld w) k t λx=>by have:=Cw ((sqf F p).map λa=>k*a) (lmul w (Xu o)) (λy=>by rw [Zi,Yb];exact l y) x;rw [Zak,Bp]at this;rw [Yb,this]
  exact Z.congr λx=>(Ks _ x).symm
 have q:(Lc F o).length=1:=by have:=aN.2 S;omega
 refine⟨q,?_⟩;rw [nrm1 D V q,Zp0 s2]at G;exact G.symm
end Go.Sky

