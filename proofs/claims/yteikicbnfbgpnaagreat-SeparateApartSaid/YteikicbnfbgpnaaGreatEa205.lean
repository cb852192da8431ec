/- Rules, arithmetic and contracts: part 6. No conditions but those that each theorem names. -/
import Derived.Test.YteikicbnfbgpnaaGreatEa204
set_option linter.all false
namespace Go.Sky
variable{s t:Rat}{u xs a p q b:List Int}{K B Q:Nat}{r d c k:Int}{z:R2}
def kkR(R:Nat):Nat->Nat
 | 0=>0
 | d+1=>2*(R+1)*kkR R d+1
def Fv (L:Nat)(R:Nat){s v:List Int}{n e:Nat}(l:Tr u)(m:Tr v)(hs:Sz n s)(f:s≠[])(j:Tr s)(i:s.length<=L)(o:2*L<=R+2)(g:fcs 0 L<=2^e*2^e)(h:s=Qx u v):Sz (n+e) u:=Yg7 l m hs f i g h
theorem Ylk{e f:Nat}(i:e<=13)(j:f+1=e)(h:K<=600):Zwc e f K:=λl m=>by have g:∀l,l<=12->(l+1)*(600*(27-2*l)+1)<=65536:=O4;refine aB (bC _ (Nat.succ_le_succ (aP h O1))) (g l O1)
theorem chH{n:Nat}(F:Nat)(v:Tr xs)(w:xs≠[])(hs:Sz n xs)(hn:n<=350)(hl:xs.length<=13)(hb:(xs.length+2)*(xs.length+2)*(n+13)<=65536)(hF:xs.length<=F+1) :
  Zac F xs/\Sz (n+15) (sqf F xs)/\(sqf F xs).length<=xs.length/\∀p∈chn F xs,Qc p<=(n+26)*25/\p.length<=xs.length:=by
 have e:=Zqu hs;have Y:=Pt v;have l:Tr (Xj xs):=Ng (Yu v);have R:=Gz e O1;have W:=Og (Xj xs);have m:Tr (Xi (Xj xs)):=Nt l;have m1:=Qy e;have m2:=Qy R;have l0:=aH.2 w;have y:gA (Xj xs) (Xi (Xj xs))=Yb (Xj xs):=aK O1;have D:gB (Xj xs) (Xi (Xj xs))=Yb (Xi (Xj xs)):=aK O1;have j:eok F (gA (Xj xs) (Xi (Xj xs))) (gB (Xj xs) (Xi (Xj xs))):=by
  rw [y,D];refine(Ydz 5 (n+11) (n:=n+5) (by grind [Yc]) (Yu l) (Yu m) (Gf (e.mono O6)) (Gf R) ?_ O1 ?_ ?_ ?_).1
  all_goals grind [Yc,Ylk,Nat.le_trans,Nat.mul_le_mul]
 obtain⟨f1,f2,f3,f4,f5,f6⟩:=Ow F v w j;have x:=Zed F l m;have g:=Zi8 v w;have N:fcs 0 13<=2^15*2^15:=O4;have o:=Fv 13 24 f2 x e g l O1 O1 N f4;have G:=Fv 13 24 x f2 e g l O1 O1 N (by grind [Ca]);have H:=Ox f2 x f3 f5;rw [<-f4]at H;have lg:=aH.2 f5;have lq:=aH.2 f3;have mg:=Qy G;have M:(sqf F xs).length<=xs.length:=O1;have I:=Gz o O1;have S:=Og (sqf F xs);have P:=Ytf (a:=sqf F xs) (b:=Yb (Xi (sqf F xs))) (n:=n+15+5) (s:=5) (K:=n+26) (f:=F) (by grind [Yc]) f2 (Yu (Nt f2)) (o.mono O6) (Gf I) (by grind [Yc]) O1 (by grind [Yc,Ylk]) (Nat.le_trans (Nat.mul_le_mul (show(sqf F xs).length+1<=14 by omega) (show n+15+5+1<=500 by omega)) O6) (by grind [Yc]);refine⟨⟨⟨λi _=>aB (Yah e O1 i) O1,?_,j,?_,f1⟩,λi _=>aB (Yah o O1 i) O1,P.1⟩,o,M,λp Z=>?_⟩
 .intro h;have h3:(max (Xj xs).length (Xi (Xj xs)).length+2)*(max (Xj xs).length (Xi (Xj xs)).length+2)*(max (Qc (Xj xs)) (Qc (Xi (Xj xs)))+8)<=(xs.length+2)*(xs.length+2)*(n+13):=aP (aP O1 O1) O1;have:=h.2.2;omega
 .unfold Bz;rw [aK O1];split
  .rfl
  .have:((Xj xs).length-(Nq F (Xj xs) (Xi (Xj xs))).length+1)*(Qc (Nq F (Xj xs) (Xi (Xj xs)))+1)<=14*500:=aP O1 O1;omega
 .obtain⟨V,a2⟩:=P.2 p Z;refine⟨aB V (bC _ ?_),O1⟩;grind [Yc]
theorem chG{n:Nat}(F:Nat)(h:Tr xs)(e:xs≠[])(hs:Sz n xs)(g:n<=350)(i:xs.length<=11)(f:xs.length<=F+1) :
  Zac F xs/\Sz (n+15) (sqf F xs)/\(sqf F xs).length<=xs.length/\∀p∈chn F xs,Qc p<=(n+26)*25/\p.length<=xs.length:=
 chH F h e hs g O1 (aB (aP (aP (show _<=13 by omega) (show _<=13 by omega)) (show _<=363 by omega)) O1) f
theorem Dv.ed{g:List Int}(h:Dv g a):Ed g a:=by obtain⟨k,s,e,h⟩:=h;refine⟨k,s,e,λx=>?_⟩;have:=Cj k 0 a s g [] (λt=>O5) x;grind
theorem Zn6{F:Nat}(m:Tr xs)(g:xs≠[])(i:Zac F xs)(s t:Rat) :
  ∃h:Rat,0<h/\∀u v,s<=u->u<=v->v<=t->v-u<=h->vat ((chn F xs).map Zi) u-vat ((chn F xs).map Zi) v=crs (Zi (sqf F xs)) u v:=by
 have f:=i.1.2.2.1;obtain⟨f1,f2,f3,f4,f5,f6⟩:=Ow _ m g f;have e:=Nt f2;by_cases n:Xi (sqf F xs)=[]
 .refine Zmb 1 f2 (Yu e) f3 i.2.2 (by rfl) (λx=>?_) λq l a b=>?_
  .rw [<-Ik,n];show(0)=1*0;simp
  .exact Zgn m g f l a (b.sim (Qm e))
 .have j:0<Yv (Xi (sqf F xs)):=by have o:=Cz e n;have w:=Nw (Xi (sqf F xs));omega
  refine Zmb (Yv _) f2 (Yu e) f3 i.2.2 (by exact_mod_cast j) (λx=>?_) λq l a b=>?_
  .rw [<-Ik,<-Zu];grind [Nb,Pk,Int.mul_comm,Gr]
  .exact Zgn m g f l a (b.sim (Qm e))
theorem Ysf{s g:List Int}(a0:∀x:Rat,Zi p x=Zi s x*Zi g x)(hg:Tr g)(W:g≠[])(v:Ed g (ld p))(l:Irr q)(G:Ed q p):Ed q s:=by
 refine aZ λj=>?_;have f:=l.1;have D:=l.2.1;have F:¬Ed q (ld q):=λh=>by have Z:Ed q (Xi q):=h.congr λx=>(Ik q x).symm;have hl:=Og q;have:=(Z.len f (Nt f) (λe=>O5)).2;omega
 obtain⟨c1,m1,k1,e1⟩:=G;obtain⟨i,m,k2,S⟩:=v;have I:∀k,Ed (Cx q k) g:=λk=>by
  induction k with
  | zero=>exact⟨1,g,O1,λx=>by rw [show Cx q 0=[1]from rfl,Oh];simp⟩
  | succ k ih=>
   cases k with
   | zero=>
    have o:Ed q g:=(Zex s g m1 l k1 (λx=>O5)).resolve_left j;exact o.congr_l λx=>by rw [Cu,show Cx q 0=[1]from rfl,Oh];simp
   | succ k=>
    obtain⟨c,u,kc,eu⟩:=ih;have hd:∀x:Rat,(c:Rat)*Zi (ld g) x=Zi (ld u) x*Zi (Cx q (k+1)) x+Zi u x*(((k:Rat)+1)*(Zi (Cx q k) x*Zi (ld q) x)):=λx=>by have:=Cv (g.map λa=>c*a) (lmul u (Cx q (k+1))) (λy=>by grind [Zu,Ym]) x;grind [Zao,Bt,Zrk]
    have hp:∀x:Rat,Zi (ld p) x=Zi (ld s) x*Zi g x+Zi s x*Zi (ld g) x:=λx=>by have:=Cv p (lmul s g) (λy=>by grind [Ym]) x;grind [Bt]
    have hz:∀x:Rat,Zi (Mw ((lmul (lmul s u) (ld q)).map λa=>(i*((k:Int)+1))*a) ((lmul (Mw ((lmul s (ld u)).map λa=>i*a) ((lmul (Mw m ((ld s).map λa=>(-i)*a)) u).map λa=>(-1)*a)) q))) x=0:=λx=>by
     refine Da (Cx q k) (λe=>?_) (λx=>?_) x
     .grind [Ao,Zdj]
     .rw [Xt,Zu,Ym,Ym,Ym,Xt,Zu,Ym,Zu,Ym,Xt,Zu];have M:=S x;have N:=hp x;have P:=hd x;have R:=eu x;rw [Cu]at P R;push_cast;grind
    have o:=Zex (lmul s u) (ld q) (Mw ((lmul (Mw m ((ld s).map λa=>(-i)*a)) u)) ((lmul s (ld u)).map λa=>(-i)*a)) (k:=i*((k:Int)+1)) l (bB k2 O1) (λx=>by have:=hz x;rw [Xt,Zu,Ym,Ym,Ym,Xt,Zu,Ym,Zu,Ym,Xt,Zu]at this;rw [Ym,Xt,Ym,Xt,Zu,Zu,Ym];grind)
    have Y:Ed q u:=by obtain⟨n,w,H,V⟩:=o.resolve_right F;exact(Zex s u w (k:=n) l H (λx=>by grind [Ym])).resolve_left j
    obtain⟨n,w,H,V⟩:=Y;refine⟨n*c,w,bB H kc,λx=>?_⟩;grind [Cu]
 obtain⟨M,N⟩:=Zdj f D g.length;have:=((I g.length).len M hg W).2;omega
theorem Yr6(f:d≠0):Irr [-r,d]:=by have e:Tr [-r,d]:= .inr f;refine⟨e,O6,λq h g=>?_⟩;have:=(g.len h e O6).2;grind
theorem Zk7(r d:Int)(x:Rat):Zi [-r,d] x=(d:Rat)*x-r:=by show((-r))+x*((d)+x*0)=_;grind
theorem Yq0(n:Tr p)(g:d≠0)(h:Zi p ((r:Rat)/d)=0):Ed [-r,d] p:=by
 have i:(d:Rat)≠0:=O11;have m:Tr [-r,d]:= .inr g;obtain⟨k,s,hs⟩:=Cw p (q:=[-r,d]) O6;have e:=Nz (m.mem O6) k;generalize cf _ _^k=L at hs e;have j:∀x,(L)*Zi p x=Zi s x*Zi [-r,d] x+Zi (Qu p [-r,d]) x:=λx=>by have:=Cj L (-1) p s [-r,d] (Qu p [-r,d]) (λt=>O5) x;grind
 have l:=Pg p (q:=[-r,d]) O6;have o:∀x,Zi (Qu p _) x=0:=λx=>by
  have f:=j ((r)/d);rw [Zk7]at f
  match hr:Qu p _,l with
  | [],_=>rfl
  | [c],_=>
   grind [Oh]
 exact⟨L,s,e,λx=>O5⟩
theorem Ed.root(g:d≠0)(h:Ed [-r,d] p):Zi p ((r:Rat)/d)=0:=by obtain⟨k,s,i,h⟩:=h;have e:(d:Rat)≠0:=O11;have f:(k:Rat)≠0:=O11;grind [Zk7]
theorem Yin{F:Nat}(g:Tr xs)(j:xs≠[])(f:eok F (gA (Xj xs) (Xi (Xj xs))) (gB (Xj xs) (Xi (Xj xs))))(i:d≠0)(h:Zi xs ((r:Rat)/d)=0):Zi (sqf F xs) ((r:Rat)/d)=0:=by
 obtain⟨f1,f2,f3,f4,f5,f6⟩:=Ow _ g j f;have hs:=Ng (Yu g);have e:=Nt hs;have l:=(Yq0 g i h).sim ((Qm g).symm.trans (Ht _).symm);have m:∀x,Zi (Xj xs) x=Zi (sqf F xs) x*Zi (Nq F (Xj xs) (Xi (Xj xs))) x:=λx=>by grind [Xb]
 have n:=((Zeo hs e f).2.ed).congr λx=>Ik _ x;exact(Ysf m (Zed _ hs e) f5 n (Yr6 i) l).root i
def Away(s t:Rat)(f:Rat->Rat):Prop:=∃δ:Rat,0<δ/\∀x,s<=x->x<=t->δ<=f x\/f x<=-δ
theorem Away.mul{f g h:Rat->Rat}(y:Away s t f)(D:Away s t g)(e:∀x,h x=f x*g x):Away s t h:=by
 obtain⟨a,l,m⟩:=y;obtain⟨b,n,o⟩:=D;refine⟨a*b,aT l n,λx i j=>?_⟩;rcases m x i j with v|v<;>rcases o x i j with w|w
 .have:=aE (a:=f x-a) (b:=g x) O5 O5;have:=aE (a:=a) (b:=g x-b) O5 O5;grind
 .have:=aE (a:=f x-a) (b:=- g x) O5 O5;have:=aE (a:=a) (b:=- g x-b) O5 O5;grind
 .have:=aE (a:=- f x-a) (b:=g x) O5 O5;have:=aE (a:=a) (b:=g x-b) O5 O5;grind
 .have:=aE (a:=- f x-a) (b:=- g x) O5 O5;have:=aE (a:=a) (b:=- g x-b) O5 O5;grind
theorem Away.lin(g:0<d)(h:(r:Rat)<d*s\/(d:Rat)*t<r):Away s t (Zi [-r,d]):=by
 have i:(0)<(d:Rat):=by exact_mod_cast g
 rcases h with h|h
 .refine⟨d*s-r,O5,λx e f=> .inl ?_⟩;rw [Zk7];have:=aE (a:=(d)) (b:=x-s) O5 O5;grind
 .refine⟨r-d*t,O5,λx e f=> .inr ?_⟩;rw [Zk7];have:=aE (a:=(d)) (b:=t-x) O5 O5;grind
theorem Away.sq(s t:Rat):Away s t (Zi [1,0,1]):=⟨1,by rfl,λx _ _=>by
 left;show(1)<=((1))+x*(((0))+x*(((1))+x*0));have:0<=x*x:=by
  rcases(show 0<=x\/x<0 by grind)with h|h
  .grind [Rat.mul_nonneg]
  .have:=aE (a:=-x) (b:=-x) O5 O5;grind
 grind⟩
theorem Away.one(s t:Rat):Away s t (Zi [1]):=⟨1,by rfl,λx _ _=>by grind [Oh,Rat.le_refl]⟩
def cntP(P:Int->Prop)[DecidablePred P](m:Int):Nat->Int
 | 0=>0
 | n+1=>cntP P m n+(if P (m+n+1)then 1 else 0)
def eB(K C:Nat):Nat->Nat
 | 0=>0
 | n+1=>C+K*eB K C n
def eL(K C:Nat):Nat->Nat
 | 0=>0
 | n+1=>K*eL K C n+eB K C n
def eM(K C:Nat):Nat->Nat
 | 0=>0
 | n+1=>eL K C n+K*eM K C n
theorem Eu{a b:Nat}(h:a<=b):(a:Rat)<=(b:Rat):=by exact_mod_cast h
theorem Yol{C:Nat}(h:c.natAbs<=C):-(C:Rat)<=(c:Rat)/\(c:Rat)<=(C:Rat):=by
 have e:((-(C:Int)))<=(c:Rat):=by exact_mod_cast (show -(C)<=c by omega)
 have f:(c:Rat)<=(C):=by exact_mod_cast (show c<=(C) by omega)
 push_cast at e f
 all_goals grind
def Ztv{C:Nat}(h:∀i,(cf (c::p) i).natAbs<=C):c.natAbs<=C/\∀i,(cf p i).natAbs<=C:=⟨h 0,λi=>h (i+1)⟩
theorem Zre{K C:Nat} : ∀(n:Nat) (p:List Int),p.length<=n->(∀i,(cf p i).natAbs<=C)->∀x:Rat,-(K:Rat)<=x->x<=(K:Rat)->-(eB K C n:Rat)<=Zi p x/\Zi p x<=(eB K C n:Rat)
 | n,[],_,_,x,_,_=>by
  show -(eB K C n:Rat)<=0/\(0:Rat)<=(eB K C n)
  all_goals grind
 | 0,c::p,hl,_,_,_,_=>absurd hl O6
 | n+1,c::p,hl,hc,x,h1,h2=>by
  obtain⟨f,g⟩:=Ztv hc;obtain⟨h,j⟩:=Zre n p (by simpa using hl) g x h1 h2;obtain⟨m,o⟩:=Yol f;have l:(0:Rat)<=(K):=Eu (bE _);obtain⟨f1,f2⟩:=Zc0 h1 h2 h j l;have e:((eB K C (n+1)))=(C:Rat)+(K)*(eB K C n):=by show((C+K*eB K C n:Nat):Rat)=_;push_cast;rfl
  rw [show Zi _ x=(c)+x*Zi p x from rfl];constructor<;>grind
theorem Zrd{K C:Nat} : ∀(n:Nat) (p:List Int),p.length<=n->(∀i,(cf p i).natAbs<=C)->Lip (-(K:Rat)) (K:Rat) (eL K C n:Rat) (Zi p)
 | n,[],_,_,x,y,_,j,_=>by
  have h:(0:Rat)<=(eL K C n):=Eu (bE _);have:=aE (b:=y-x) h O5;show(0:Rat)-0<=_/\(0:Rat)-0<=_
  all_goals grind
 | 0,c::p,hl,_,_,_,_,_,_=>absurd hl O6
 | n+1,c::p,hl,hc,x,y,h1,j,h2=>by
  obtain⟨m,f⟩:=Ztv hc;obtain⟨o,v⟩:=Zrd n p O5 f x y h1 j h2;obtain⟨w,D⟩:=Zre n p O5 f y O5 h2;have l:(0:Rat)<=(K:Rat):=Eu (bE _);obtain⟨f1,f2⟩:=Zc0 (q:=x) (g:=Zi p x-Zi p y) (e:=(eL K C n)*(y-x)) h1 O5 O5 O5 l;have F:=aE (a:=(eB K C n)-Zi p y) (b:=y-x) O5 O5;have G:=aE (a:=(eB K C n)+Zi p y) (b:=y-x) O5 O5;have e:((eL K C (n+1):Nat))=(K:Rat)*(eL K C n)+(eB K C n):=by show((K*eL K C n+eB K C n:Nat):Rat)=_;simp
  rw [e,show Zi (c::p) x=(c:Rat)+x*Zi p x from rfl,show Zi (c::p) y=(c:Rat)+y*Zi p y from rfl]
  all_goals grind
theorem Yjx{K C:Nat} : ∀(n:Nat) (p:List Int),p.length<=n->(∀i,(cf p i).natAbs<=C)->Tay (-(K:Rat)) (K:Rat) (eM K C n:Rat) p
 | n,[],_,_,x,y,_,f,_=>by
  have h:(0:Rat)<=(eM K C n):=Eu (bE _);have o:=aE (a:=y-x) (b:=y-x) O5 O5;have:=aE h o;show -((eM K C n)*(y-x)*(y-x))<=(0:Rat)-0-(y-x)*0/\(0:Rat)-0-(y-x)*0<=(eM K C n)*(y-x)*(y-x)
  all_goals grind
 | 0,c::p,hl,_,_,_,_,_,_=>absurd hl O6
 | n+1,c::p,hl,hc,x,y,hs,f,ht=>by
  obtain⟨w,g⟩:=Ztv hc;obtain⟨l,m⟩:=Yjx n p O5 g x y hs f ht;obtain⟨D,F⟩:=Zrd n p O5 g x y hs f ht;have v:(0)<=(K:Rat):=Eu (bE _);have j:0<=y-x:=O5;obtain⟨f1,f2⟩:=Zc0 (q:=x) hs O5 l m v;have G:=aE (b:=(eL K C n)*(y-x)-(Zi p y-Zi p x)) j O5;have H:=aE (b:=(eL K C n)*(y-x)+(Zi p y-Zi p x)) j O5;have e:((eM K C (n+1):Nat))=(eL K C n)+(K:Rat)*(eM K C n):=by show((eL K C n+K*eM K C n:Nat):Rat)=_;simp
  rw [e,Zg1,show Zi (c::p) y=(c)+y*Zi p y from rfl,show Zi (c::p) x=(c)+x*Zi p x from rfl]
  all_goals grind
theorem Yan{A:Nat}(j:Tr a)(W:Tr b)(la:2<=a.length)(lb:b.length+1=a.length)(N:0<A)(na:∀i,(cf a i).natAbs<=A)(nb:∀i,(cf b i).natAbs<=A)(Y:∀q,Tr q->Ed q a->Ed q b->q.length<=1) :
  ∃(U V:List Int) (c:Int),c≠0/\U.length+2=a.length/\V.length+1=a.length/\(∀i,(cf U i).natAbs<=(2*(2*a.length-3)*A)^(2*a.length-4))/\(∀i,(cf V i).natAbs<=(2*(2*a.length-3)*A)^(2*a.length-4))/\
   ∀x,(c:Rat)=Zi U x*Zi a x+Zi V x*Zi b x:=by
 obtain⟨U,V,lU,lV,m,n,o,hz⟩:=Zjy a b 1 (p:=a.length-2) (q:=a.length-1) N na nb O1 O1 O1;have F:¬(tzl U=[]/\tzl V=[]):=λ⟨h1,h2⟩=>by grind [Iy]
 clear m;rw [show a.length-2+(a.length-1)=2*a.length-3 by omega]at n o;have h:a≠[]:=λe=>O5;have H:∀i,cf (Mw (lmul U a) (lmul V b)) i=(ps U*ps a).c i+(ps V*ps b).c i:=λi=>by rw [Lb,Di,Di,PS.mul_c,PS.mul_c];rfl
 have G:∀t,Zi (Mw (lmul U a) (lmul V b)) t=Zi U t*Zi a t+Zi V t*Zi b t:=λt=>by grind [Xt,Ym]
 generalize Mw (lmul U a) (lmul V b)=R at H G;have S:∀t,Zi R t=(cf R 0:Rat):=λt=>by
  rw [<-Oh (cf R 0) t];refine Nb t _ _ λi=>?_
  match i with
  | 0=>rfl
  | i+1=>grind [Yr]
 refine⟨U,V,cf R 0,λM=>?_,O1,O1,n,o,λx=>O5⟩;have a0:∀t,Zi U t*Zi a t+Zi V t*Zi b t=0:=λt=>by rw [<-G,S,M];rfl
 obtain⟨g,P,Q,f,v,I,w⟩:=Zoh _ a b j W (aF _);have hl:=Y g f v I;have hg:=(v.len f j h).1;have D:tzl V=[]:=by
  refine aZ λD=>?_
  match g,hg,hl,f,w with
  | [c],_,_,f,w=>
   have l:c≠0:=f.mem O6;have Z:Ed a (tzl V):=⟨c,Mw (lmul P V) ((lmul Q U).map λz=>(-1)*z),l,λx=>by grind [Oh,Ll,Xt,Zu,Ym]⟩
   have:=(Z.len j (Qn V) D).2;grind [Ns]
  | c::d::r,_,h9,_,_=>grind
 have y:tzl U=[]:=by
  refine aZ λy=>?_;have:∀t,Zi a t=0:=Da U y λt=>by grind [Zan]
  exact j.mem h (Zrg this _)
 grind
def Ybv(K A n e:Nat):Bool:=
 let X:=(2*(2*n-3)*A)^(2*n-4);let W:=eB K X (n-1)
 Nat.ble (2*(2*W+1)*(2*eL K A n)) (2^e) && Nat.ble (2*(2*W+1)*eM K A n) (2^e)
theorem big_or  {A n e:Nat} (hK:0<K) (F:0<A) (G:Tr a) (H:Tr b) (N:a.length=n) (h2:2<=n) (S:b.length+1=a.length) (Y:∀i,(cf a i).natAbs<=A) (Z:∀i,(cf b i).natAbs<=A) (I:∀q,Tr q->Ed q a->Ed q b->q.length<=1)
  (x:Rat) (j:-(K:Rat)<=x) (l:x<=(K:Rat)):Big (1/((2*eB K ((2*(2*n-3)*A)^(2*n-4)) (n-1)+1:Nat):Rat)) x (Zi a)\/Big (1/((2*eB K ((2*(2*n-3)*A)^(2*n-4)) (n-1)+1:Nat):Rat)) x (Zi b):=by
 obtain⟨U,V,c,D,lU,lV,f,g,M⟩:=Yan G H O1 S F Y Z I;rw [N]at f g;generalize (2*(2*n-3)*A)^(2*n-4)=X at *;obtain⟨u1,u2⟩:=Zre (n-1) U O1 f x j l;obtain⟨v1,v2⟩:=Zre (n-1) V O1 g x j l;generalize eB K X (n-1)=W at *;have m:(0:Rat)<=(W:Rat):=Eu (bE _);generalize hε:1/((2*W+1):Rat)=ε;have P:0<=ε:=by grind [Rat.inv_pos,Rat.div_def]
 by_cases p1:Big ε x (Zi a)
 .grind
 .by_cases p2:Big ε x (Zi b)
  .grind
  .obtain⟨o,v⟩:=Zeq p1;obtain⟨w,y⟩:=Zeq p2;obtain⟨q1,q2⟩:=Zc0 u1 u2 o v m;obtain⟨r1,r2⟩:=Zc0 v1 v2 w y m;have h5:(c:Rat)<=-1\/1<=(c:Rat):=by
    rcases mM D with h|h
    .left;have:((c:Int):Rat)<=((-1:Int)):=by exact_mod_cast (show c<=-1 by omega)
     grind
    .right;have:=O1;exact_mod_cast this
   have R:0<ε:=by grind
   all_goals grind
theorem two_pow_pos(e:Nat):(0:Rat)<((2^e:Nat):Rat):=by have:0<2^e:=cD O1;exact_mod_cast this
theorem Ytt  {F A n e:Nat} (hx:Tr xs) (h0:xs≠[]) (hC:Zac F xs) (hK:0<K) (hA:0<A) (hn:(sqf F xs).length=n) (h2:2<=n) (V:∀i,(cf (sqf F xs) i).natAbs<=A) (nb:∀i,(cf (Xi (sqf F xs)) i).natAbs<=A) (hs:Ybv K A n e=true)
  {u v:Rat} (h1:-(K:Rat)<=u) (S:u<=v) (h3:v<=(K:Rat)) (hh:v-u<=1/((2^e:Nat):Rat)) :
  vat ((chn F xs).map Zi) u-vat ((chn F xs).map Zi) v=crs (Zi (sqf F xs)) u v:=by
 have w:=hC.1.2.2.1;obtain⟨f1,f2,f3,f4,f5,f6⟩:=Ow F hx h0 w;have f:=Nt f2;have a1:=Og (sqf F xs);have hd:Xi (sqf F xs)≠[]:=λe=>O5;have R:1<=Yv (Xi (sqf F xs)):=by have h1:=Cz f hd;have h2:=Nw (Xi (sqf F xs));omega
 have a0:(1:Rat)<=(Yv (Xi (sqf F xs)):Rat):=by exact_mod_cast R
 have y:∀i,(cf (Yb (Xi (sqf F xs))) i).natAbs<=A:=λi=>by have h5:=Gr (Xi (sqf F xs)) i;have h6:=nb i;rw [<-h5,bT]at h6;have:(cf (Yb (Xi (sqf F xs))) i).natAbs*1<=(cf (Yb (Xi (sqf F xs))) i).natAbs*(Yv (Xi (sqf F xs))).natAbs:=bC _ O1;omega
 have l:∀q,Tr q->Ed q (sqf F xs)->Ed q (Yb (Xi (sqf F xs)))->q.length<=1:=λq hq a b=>Zgn hx h0 w hq a (b.sim (Qm f));have N:(Yb (Xi (sqf F xs))).length+1=(sqf F xs).length:=by grind [Yc]
 have g:=big_or (e:=e) hK hA f2 (Yu f) hn h2 N V y l;unfold Ybv at hs;simp only [aN,Nat.ble_eq]at hs;obtain⟨s1,s2⟩:=hs;generalize (2*(2*n-3)*A)^(2*n-4)=X at *;generalize eB K X (n-1)=W at *;have hD:(0:Rat)<((2*W+1:Nat):Rat):=by grind
 have hP:=two_pow_pos e;have Y:=Eu s1;have Z:=Eu s2;have c1:((2*(2*W+1)*(2*eL K A n):Nat):Rat)=2*((2*W+1:Nat):Rat)*(2*(eL K A n:Rat)):=O6;have c2:((2*(2*W+1)*eM K A n:Nat):Rat)=2*((2*W+1:Nat):Rat)*(eM K A n:Rat):=O6;rw [c1]at Y;rw [c2]at Z;have hi:=fR.2 hD;have I:=fR.2 hP;have m:((2*W+1:Nat):Rat)*((2*W+1:Nat):Rat)⁻¹=1:=O5;have o:((2^e:Nat):Rat)*((2^e:Nat):Rat)⁻¹=1:=O5;rw [gK,nD]at hh;simp only [gK,nD]at g;generalize ((2*W+1:Nat):Rat)=D at *;generalize ((2^e:Nat):Rat)=P at *;have j:(0:Rat)<=(eL K A n:Rat):=Eu (bE _);have H:(0:Rat)<=(eM K A n:Rat):=Eu (bE _);refine Zjw (s:=-(K:Rat)) (t:=(K:Rat)) (κ:=(Yv (Xi (sqf F xs)):Rat)) (ε:=D⁻¹) (L:=(eL K A n:Rat)) (L':=(eL K A n:Rat)) (M:=(eM K A n:Rat)) (h:=P⁻¹) f2 (Yu f) hC.2.2 O5 (λx=>?_) hi g j (Zrd n _ O1 V) j (Zrd n _ O1 y) H (Yjx n _ O1 V) I ?_ ?_ h1 S h3 hh
 .rw [<-Ik,<-Zu];grind [Nb,Pk,Int.mul_comm,Gr]
 .-- P⁻¹ * (2 L) ≤ D⁻¹ / 2
  have t1:=aE (a:=P⁻¹*D⁻¹) (b:=P-2*D*(2*(eL K A n:Rat))) (by have:=aT I hi;grind) O5;have G:P⁻¹*D⁻¹*(P-2*D*(2*(eL K A n:Rat)))=D⁻¹*(P*P⁻¹)-2*P⁻¹*(D*D⁻¹)*(2*(eL K A n:Rat)):=O5;rw [G,m,o]at t1;grind
 .have t1:=aE (a:=P⁻¹*D⁻¹) (b:=P-2*D*(eM K A n:Rat)) (by have:=aT I hi;grind) O5;have G:P⁻¹*D⁻¹*(P-2*D*(eM K A n:Rat))=D⁻¹*(P*P⁻¹)-2*P⁻¹*(D*D⁻¹)*(eM K A n:Rat):=O5;rw [G,m,o]at t1;have t2:=aE (a:=(Yv (Xi (sqf F xs)):Rat)-1) (b:=D⁻¹) O5 O5;grind
theorem Zn7{F:Nat}(H:Tr xs)(m:xs≠[])(D:Zac F xs)(G:s<=t):vat ((chn F xs).map Zi) t<=vat ((chn F xs).map Zi) s:=by
 obtain⟨h,o,N⟩:=Zn6 H m D s t;have P:∀f u v,0<=crs f u v:=λf u v=>by unfold crs;all_goals omega
 have M:∀n:Nat,∀y,s<=y->y<=t->y-s<=(n:Rat)*h->vat ((chn F xs).map Zi) y<=vat ((chn F xs).map Zi) s:=λn=>by
  induction n with
  | zero=>
    grind
  | succ n I=>
   intro y e w g;have i:((n+1:Nat):Rat)*h=(n:Rat)*h+h:=O5;rcases(show y-s<=(n:Rat)*h\/(n:Rat)*h<y-s by grind)with j|j
   .grind
   .have x:(0:Rat)<=(n:Rat)*h:=aE O5 O5;rcases(show s<=y-h\/y-h<s by grind)with l|l
    .have a:=I (y-h) l O5 O5;grind
    grind
 have e:∃n:Nat,t-s<=(n:Rat)*h:=by
  have w:0<h⁻¹:=fR.2 o;refine⟨((t-s)*h⁻¹).ceil.toNat,?_⟩;have g:=@nB ((t-s)*h⁻¹);have i:((((t-s)*h⁻¹).ceil:Int):Rat)<=((((t-s)*h⁻¹).ceil.toNat:Nat):Rat):=by have:((t-s)*h⁻¹).ceil<=((((t-s)*h⁻¹).ceil.toNat:Nat):Int):=kP _;exact_mod_cast this
  have j:=dE (eD g i) (show 0<=h by grind);have x:(t-s)*h⁻¹*h=t-s:=O5;grind
 obtain⟨n,R⟩:=e;grind
def qv(z:R2):Rat:=(z.1:Rat)/(z.2:Rat)
theorem Zxw{x y X Y g:Nat}(F:g=Nat.gcd x y)(H:0<y)(D:0<Y)(h:x*Y=X*y):y/g∣Y/\x/g<=X:=by
 have f:0<g:=O5;have n:Nat.Coprime (x/g) (y/g):=by grind [Nat.coprime_div_gcd_div_gcd]
 have o:x/g*g=x:=mN (by grind [Nat.gcd_dvd_left]);have v:y/g*g=y:=mN (by grind [Nat.gcd_dvd_right]);have w:x/g*Y=X*(y/g):=by refine kE f ?_;grind
 have l:y/g∣Y:=n.symm.dvd_of_dvd_mul_left (by grind [Nat.dvd_mul_left]);refine⟨l,?_⟩;obtain⟨k,G⟩:=l;have i:0<k:=mO λe=>O5;have j:0<y/g:=mO λe=>O5;have m:x/g*k=X:=by refine kE j ?_;grind
 rw [<-m];exact dJ _ i
theorem Zse{x y X Y:Int}(m:0<y)(F:0<Y)(h:x*Y=X*y)(j:bl X.natAbs<=B)(e:bl Y.natAbs<=B)(D:B<=65536) :
  ¬Kc x y/\Gn x y∣Y/\0<Gn x y/\bl (Et x y).natAbs<=B/\bl (Gn x y).natAbs<=B/\Et x y*y=x*Gn x y:=by
 have G:Qi x y=(Nat.gcd x.natAbs y.natAbs):=by rw [Yda O1];rfl
 have l:x.natAbs*Y.natAbs=X.natAbs*y.natAbs:=by rw [<-bT,<-bT,h]
 obtain⟨g,v⟩:=Zxw rfl O1 O1 l;have i:(y/Qi x y).natAbs=y.natAbs/Nat.gcd x.natAbs y.natAbs:=by grind
 have w:(x/Qi x y).natAbs=x.natAbs/Nat.gcd x.natAbs y.natAbs:=by grind [Int.natAbs_ediv_of_dvd,Zwo,Zdp]
 have n:bl (y/Qi x y).natAbs<=B:=aB (Pz (by rw [i];exact kR O1 g)) e;have o:bl (x/Qi x y).natAbs<=B:=aB (Pz O1) j;have f:¬Kc x y:=λh=>by unfold Kc at h;omega
 obtain⟨H,I,-⟩:=Zba f;refine⟨f,?_,Zr8 f m,O5,O5,?_⟩
 all_goals grind [Int.natAbs_dvd_natAbs,Zwm]
structure En (K Q:Nat) (d:Nat) (z:R2):Prop where
 pos:0<z.2
 dv:z.2∣((Q*2^d:Nat):Int)
 lo:-(K:Rat)<=qv z
 hi:qv z<=(K:Rat)
theorem En.up{d:Nat}(h:En K Q d z):En K Q (d+1) z:=by obtain⟨e,i,f,g⟩:=h;refine⟨e,?_,f,g⟩;have:((Q*2^(d+1):Nat))=((Q*2^d):Int)*2:=O5;rw [this];grind [Int.dvd_trans,Int.dvd_mul_right]
theorem canc{N p s Y X D:Int}(e:p≠0)(f:N*p=s*D)(g:s*Y=X*p):N*Y=X*D:=by refine Int.eq_of_mul_eq_mul_right e ?_;grind
theorem Gp{z:Int}(h:0<z):(0:Rat)<(z:Rat):=by exact_mod_cast h
def Zd5{n m:Nat}(h:n<2^m):bl n<=m:=(Qs m n).2 h
theorem mid_en{d:Nat}{a b:R2}(ha:En K Q d a)(hb:En K Q d b)(hQ:0<Q)(Z:Q*2^(d+1)<2^B)(a0:2*K*(Q*2^d)<2^B)(I:B<=65536) :
  Zfe a b/\En K Q (d+1) (Oo a b)/\qv (Oo a b)=(qv a+qv b)/2/\bl (Oo a b).1.natAbs<=B/\bl (Oo a b).2.natAbs<=B:=by
 obtain⟨M,⟨e,da⟩,la,ua⟩:=ha;obtain⟨N,⟨f,P⟩,lb,ub⟩:=hb;generalize hY:((Q*2^d:Nat):Int)=Y at *;have a2:0<Q*2^d:=iK hQ (cD O1);have i:0<Y:=O1;have a8:=Gp M;have a9:=Gp N;have rY:=Gp i;have v:0<a.2*b.2:=eZ M N;have g:(a.1*b.2+b.1*a.2)*Y=(a.1*e+b.1*f)*(a.2*b.2):=by grind
 have a5:(a.1:Rat)*e=qv a*Y:=by unfold qv;have:(Y:Rat)=(a.2:Rat)*e:=O11;grind
 have a6:(b.1:Rat)*f=qv b*Y:=by
  unfold qv;have:(Y:Rat)=(b.2:Rat)*f:=by rw [P];simp
  grind
 have D:((a.1*e+b.1*f:Int):Rat)=(qv a+qv b)*Y:=O5;have a3:(a.1*e+b.1*f).natAbs<=2*K*(Q*2^d):=by
  have h:((2*K*(Q*2^d):Nat):Rat)=2*(K:Rat)*(Y:Rat):=by rw [<-hY];push_cast;rfl
  have t1:=aE (a:=2*(K:Rat)-(qv a+qv b)) (b:=(Y:Rat)) O5 O5;have t2:=aE (a:=2*(K:Rat)+(qv a+qv b)) (b:=(Y:Rat)) O5 O5;have u1:((a.1*e+b.1*f:Int):Rat)<=(((2*K*(Q*2^d):Nat):Int):Rat):=by rw [D];push_cast at h ⊢;grind
  have u2:((-((2*K*(Q*2^d):Nat):Int):Int):Rat)<=((a.1*e+b.1*f:Int):Rat):=by rw [D];push_cast at h ⊢;grind
  have v1:a.1*e+b.1*f<=((2*K*(Q*2^d):Nat):Int):=by exact_mod_cast u1
  have v2:-((2*K*(Q*2^d):Nat):Int)<=a.1*e+b.1*f:=by exact_mod_cast u2
  omega
 have a4:Y.natAbs=Q*2^d:=O1;have a1:Q*2^(d+1)=2*(Q*2^d):=O5;have F:bl Y.natAbs<=B:=Zd5 O1;have j:bl (a.1*e+b.1*f).natAbs<=B:=Zd5 O1;obtain⟨f1,f2,f3,f4,f5,f6⟩:=Zse v i g j F I;have a7:=canc (Int.ne_of_gt v) f6 g;have l:bl (2*Y).natAbs<=B:=Zd5 O5;have w:Et (a.1*b.2+b.1*a.2) (a.2*b.2)*1*(2*Y)=(a.1*e+b.1*f)*(Gn (a.1*b.2+b.1*a.2) (a.2*b.2)*2):=by grind
 have o:0<Gn (a.1*b.2+b.1*a.2) (a.2*b.2)*2:=O1;obtain⟨R,S,y,G,H,V⟩:=Zse o (by omega:0<2*Y) w j l I;have x:=canc (Int.ne_of_gt o) V w;have m:(Oo a b).1=Et (Et (a.1*b.2+b.1*a.2) (a.2*b.2)*1) (Gn (a.1*b.2+b.1*a.2) (a.2*b.2)*2):=rfl;have n:(Oo a b).2=Gn (Et (a.1*b.2+b.1*a.2) (a.2*b.2)*1) (Gn (a.1*b.2+b.1*a.2) (a.2*b.2)*2):=rfl;rw [<-m,<-n]at x;rw [<-n]at S y H;rw [<-m]at G;have hq:qv (Oo a b)=(qv a+qv b)/2:=by
  have W:(((Oo a b).1:Int):Rat)*(2*(Y:Rat))=((a.1*e+b.1*f:Int):Rat)*(((Oo a b).2:Int):Rat):=by
   have:(((Oo a b).1*(2*Y):Int):Rat)=(((a.1*e+b.1*f)*(Oo a b).2:Int):Rat):=by rw [x]
   grind
  rw [D]at W;have rd:=Gp y;unfold qv at *;grind
 refine⟨⟨f1,R⟩,⟨y,?_,O5,O5⟩,hq,G,H⟩;grind
def vch(F:Nat)(xs:List Int)(x:Rat):Int:=vat ((chn F xs).map Zi) x
def cvc_v{F:Nat}(h:0<z.2):cvc F xs z=vch F xs (qv z):=Yti h
def Sqn(P:R2->R2->Prop)(hi:Rat):Rat->List (R2×R2)->Prop
 | e,[]=>e<=hi
 | e,c::r=>e<=qv c.1/\qv c.1<qv c.2/\P c.1 c.2/\Sqn P hi (qv c.2) r
theorem Sqn.le{P:R2->R2->Prop}{hi:Rat} : ∀{e:Rat} {l:List (R2×R2)},Sqn P hi e l->e<=hi
 | e,[],h=>h
 | e,c::r,h=>by have:=Sqn.le h.2.2.2;have:=h.1;have:=h.2.1;grind
theorem Sqn.low{P:R2->R2->Prop}{hi:Rat}{f e:Rat}(g:e<=f):∀{l:List (R2×R2)},Sqn P hi f l->Sqn P hi e l
 | [],h=>by have h:f<=hi:=h;show e<=hi;grind
 | c::r,h=>⟨by have:=h.1;grind,h.2⟩
def Sqn.app{P:R2->R2->Prop}{e hi:Rat}{j:List (R2×R2)}(g:Sqn P hi e j):∀{f:Rat} {i:List (R2×R2)},Sqn P e f i->Sqn P hi f (i ++ j)
 | f,[],h=>g.low h
 | f,c::r,h=>⟨h.1,h.2.1,h.2.2.1,Sqn.app g h.2.2.2⟩
theorem Zrq{a:R2}(m:0<a.2)(h:a.1.natAbs<=K):-(K:Rat)<=qv a/\qv a<=(K:Rat):=by
 obtain⟨j,l⟩:=Yol h;have n:(1:Rat)<=(a.2):=by exact_mod_cast (show 1<=a.2 by omega)
 have e:(0)<=(K:Rat):=Eu (bE _);have hi:=fR.2 (show 0<(a.2:Rat) by grind);have f:(a.2)*(a.2:Rat)⁻¹=1:=O5;unfold qv;have t1:=aE (a:=(a.2)⁻¹) (b:=(K)*a.2-a.1) O5 (by have:=aE (b:=(a.2)-1) e O5;grind);have t2:=aE (a:=(a.2)⁻¹) (b:=(K)*a.2+a.1) O5 (by have:=aE (b:=(a.2)-1) e O5;grind);have g:(a.2:Rat)⁻¹*((K)*a.2-a.1)=(K)*(a.2*(a.2:Rat)⁻¹)-a.1*(a.2:Rat)⁻¹:=O5;have i:(a.2:Rat)⁻¹*((K)*a.2+a.1)=(K)*(a.2*(a.2:Rat)⁻¹)+a.1*(a.2:Rat)⁻¹:=O5;rw [g,f]at t1;rw [i,f]at t2
 all_goals grind
theorem Zdb{a:R2}{n:Nat}(e:0<a.2)(f:bl a.1.natAbs<=n)(g:bl a.2.natAbs<=n)(h:n<=65536) :
  ¬Kc a.1 a.2/\0<(slow a).2/\bl (slow a).1.natAbs<=n/\bl (slow a).2.natAbs<=n/\qv (slow a)=qv a:=by
 obtain⟨f1,f2,f3,f4,f5,f6⟩:=Zse e e rfl f g h;refine⟨f1,f3,f4,f5,?_⟩;have r1:=Gp e;have r2:=Gp f3;have i:((Et a.1 a.2))*(a.2:Rat)=(a.1)*((Gn a.1 a.2)):=by exact_mod_cast f6
 show((Et a.1 a.2))/((Gn a.1 a.2))=(a.1)/(a.2:Rat);grind
theorem sep_of  {F A e:Nat} (D:Tr xs) (l:xs≠[]) (w:Zac F xs) (x:0<K) (o:0<A) (G:∀i,(cf (sqf F xs) i).natAbs<=A) (H:∀i,(cf (Xi (sqf F xs)) i).natAbs<=A)
  (hs:2<=(sqf F xs).length->Ybv K A (sqf F xs).length e=true) (u v:Rat) (m:-(K:Rat)<=u) (f:u<=v) (n:v<=(K:Rat)) (y:v-u<=1/((2^e:Nat):Rat)):vch F xs u-vch F xs v<=1:=by
 by_cases j:2<=(sqf F xs).length
 .have h:=Ytt D l w x o rfl j G H (hs j) m f n y;show vat _ u-vat _ v<=1;rw [h];unfold crs;all_goals omega
 .have N:=Og (sqf F xs);have M:Xi (sqf F xs)=[]:=aC O1;have I:chn F xs=[sqf F xs]:=by unfold chn;grind [Ygc,Du]
  unfold vch vat;have r1:=Zb4 (([Zi (sqf F xs)]).map λg=>Er (g u));have r2:=Zb4 (([Zi (sqf F xs)]).map λg=>Er (g v));grind
theorem Sqn.mem{P:R2->R2->Prop}{hi:Rat} : ∀{f:Rat} {l:List (R2×R2)},Sqn P hi f l->∀c∈l,P c.1 c.2
 | _,[],_,c,e=>by cases e
 | f,d::r,h,c,e=>by
  rcases aX.1 e with rfl|e
  .exact h.2.2.1
  .exact Sqn.mem h.2.2.2 c e
theorem en_bl{d:Nat}(h:En K Q d z)(i:0<Q)(w:Q*2^d<2^B)(x:K*(Q*2^d)<2^B):bl z.1.natAbs<=B/\bl z.2.natAbs<=B:=by
 obtain⟨l,j,y,F⟩:=h;have f:0<Q*2^d:=iK i (cD O4);have g:z.2.natAbs<=Q*2^d:=by have:=gD.2 j;rw [dA]at this;exact kR f this
 have m:z.1.natAbs<=K*z.2.natAbs:=by
  have r:=Gp l;have e:(z.1:Rat)=qv z*z.2:=by unfold qv;grind
  have t1:=aE (a:=(K:Rat)-qv z) (b:=(z.2:Rat)) O5 O5;have t2:=aE (a:=(K:Rat)+qv z) (b:=(z.2:Rat)) O5 O5;have D:((K*z.2.natAbs:Nat):Int)=(K:Int)*z.2:=by push_cast;rw [Int.natAbs_of_nonneg O1]
  have o:((z.1:Int):Rat)<=(((K:Int)*z.2:Int):Rat):=by push_cast;grind
  have v:((-((K:Int)*z.2):Int):Rat)<=((z.1:Int):Rat):=by push_cast;grind
  have G:z.1<=(K:Int)*z.2:=by exact_mod_cast o
  have H:-((K:Int)*z.2)<=z.1:=by exact_mod_cast v
  omega
 have n:K*z.2.natAbs<=K*(Q*2^d):=bC _ g;exact⟨Zd5 O1,Zd5 O1⟩
theorem Ynd (e:Nat)(w:Nat)(B:Nat){n:Nat}(h:En (2^n) Q (e+w) z)(x:0<Q)(j:Q<2^(2*n))(y:3*n+1+(e+w)<=B):bl z.1.natAbs<=B/\bl z.2.natAbs<=B:=by
 have f:∀m,m<=B->2^m<=2^B:=λm h=>cY O4 h;have i:0<2^(e+w):=cD O4;have g:Q*2^(e+w)<2^(2*n)*2^(e+w):=dM j i;have o:2^n*(Q*2^(e+w))<2^n*(2^(2*n)*2^(e+w)):=kF g (cD O4);have l:2^(2*n)*2^(e+w)=2^(2*n+(e+w)):=(bW _ _ _).symm;have v:2^n*(2^(2*n)*2^(e+w))=2^(n+(2*n+(e+w))):=by rw [l,<-bW]
 rw [l]at g;rw [v]at o;exact en_bl h x (dX g (f _ O1)) (dX o (f _ O1))
theorem Ed.const{g:List Int}(h:Ed g a)(o:Tr g)(m:Tr a)(l:a≠[])(w:g.length=a.length):∃k c:Int,k≠0/\c≠0/\∀x:Rat,(k:Rat)*Zi a x=(c:Rat)*Zi g x:=by
 obtain⟨k,s,i,h⟩:=h;obtain⟨v,f,j⟩:=Yaf i o m l h;have e:=aH.2 f
 match hs:tzl s,e,j with
 | [c],_,_=>
  have n:=by have:=(Qn s).mem f;rw [hs]at this;exact this
  refine⟨k,c,i,n,λx=>?_⟩;rw [h x,<-Ll s,hs,Oh]
 | c::d::r,_,h9=>grind
theorem Dx(p:List Int)(c:Int)(x:Rat):Zi (Zt p c) x=(c:Rat)*Zi p x:=by rw [<-Zu];grind [Nb,Yo,Pk,Int.mul_comm]
theorem Zpt(i:Tr p)(g:p≠[])(h:c≠0):Zt p c≠[]:=λe=>by have f:=Yo p c (p.length-1);rw [e]at f;exact bB (i.mem g) h f.symm
theorem Ed.dv{g:List Int}(h:Ed g a):Dv g a:=by obtain⟨k,s,e,h⟩:=h;refine⟨k,s,e,λt=>?_⟩;have:=Nv (p:=a.map λc=>k*c) (q:=Qx s g) (λx=>by rw [Zu,Xb];exact h x) t;rw [Pk,Gv]at this;exact this
theorem ed_cop{t w s:List Int}(F:k≠0)(m:Tr t)(H:Tr w)(t0:t≠[])(D:∀d,Tr d->Ed d t->Ed d w->d.length<=1)(h:∀x:Rat,(k:Rat)*(Zi u x*Zi w x)=Zi s x*Zi t x):Ed t u:=by
 obtain⟨g,A,B,f,j,n,y⟩:=Zoh w.length t w m H (aF _);have G:=D g f j n;have i:=(j.len f m t0).1
 match hgg:g,G,i with
 | [c],_,_=>
  have e:c≠0:=by have:=f.mem O6;exact this
  refine⟨k*c,Mw ((Qx A u).map λa=>k*a) (Qx B s),bB F e,λx=>?_⟩;rw [Xt,Zu,Xb,Xb];have l:=y x;rw [Oh]at l;have o:=h x;push_cast;rw [show(k:Rat)*c*Zi u x=k*(Zi u x*(c:Rat)) by grind,l];have v:(k:Rat)*(Zi u x*(Zi A x*Zi t x+Zi B x*Zi w x))=k*Zi A x*Zi u x*Zi t x+Zi B x*(k*(Zi u x*Zi w x)):=O5;rw [v,o];grind
 | c::d::r,h9,_=>simp at h9
def On(F:Nat)(p:List Int):List Int:=Nq F (Xj p) (Xi (Xj p))
def De(F:Nat)(p:List Int):Prop:=eok F (gA (Xj p) (Xi (Xj p))) (gB (Xj p) (Xi (Xj p)))
theorem Pp{F:Nat}(j:Tr p)(l:p≠[])(i:De F p):Tr (On F p)/\On F p≠[]/\Xj (On F p)=On F p/\Xj p=Qx (sqf F p) (On F p)/\(sqf F p).length+(On F p).length=p.length+1:=by obtain⟨f1,f2,f3,f4,f5,f6⟩:=Ow F j l i;have f:Tr (Xj p):=Ng (Yu j);have g:Tr (Xi (Xj p)):=Nt f;have h:=Zed F f g;have m:=Ox f2 h f3 f5;rw [<-f4,Pt j]at m;have n:=aH.2 f3;have o:=aH.2 f5;refine⟨h,f5,Zzo h (Zm0 f g f5) (Az (Znt F (Zjs f g) (Zjr f g)) (λe=>f5 (by unfold Nq;rw [e];rfl))),f4,?_⟩;unfold On;omega
theorem Yq4{h:List Int}(j:Tr h)(i:h≠[]){m:Int}(e:∀x:Rat,(k:Rat)*(Zi a x*Zi h x)=(m:Rat)*(Zi b x*Zi h x))(x:Rat):(k:Rat)*Zi a x=(m:Rat)*Zi b x:=by
 have g:=Da h (f:=Mw (a.map λc=>k*c) (b.map λc=>(-m)*c)) (by rw [Ao j];exact i) (λx=>by rw [Xt,Zu,Zu];have:=e x;push_cast;grind) x
 rw [Xt,Zu,Zu]at g;push_cast at g;grind
theorem Ycv{F:Nat}(W:Tr p)(h0:p≠[])(l:De F p)(e:De F (On F p)):Ed (sqf F (On F p)) (sqf F p):=by
 obtain⟨n,a2,f,a4,a5⟩:=Pp W h0 l;obtain⟨H,G,b3,b4,b5⟩:=Pp n a2 e;obtain⟨-,u2,u3,-,-,-⟩:=Ow F W h0 l;obtain⟨-,t2,t3,-,-,-⟩:=Ow F n a2 e;have ht:Tr (Xj p):=Ng (Yu W);have o:Ed (On F p) (Xi (Xj p)):=(Zeo ht (Nt ht) l).2.ed;have e2:Ed (On F (On F p)) (Xi (On F p)):=by have:=(Zeo (F:=F) (p:=Xj (On F p)) (q:=Xi (Xj (On F p))) (by rw [f];exact n) (Nt (by rw [f];exact n)) e).2.ed;have h9:On F (On F p)=Nq F (Xj (On F p)) (Xi (Xj (On F p))):=rfl;rw [<-h9,f]at this;exact this
 have R:∀d,Tr d->Ed d (On F p)->Ed d (Xi (On F p))->Ed d (On F (On F p)):=λd M i v=>by unfold On at *;have:=Zmy (F:=F) (d:=d) (p:=Xj (Nq F (Xj p) (Xi (Xj p)))) (q:=Xi (Xj (Nq F (Xj p) (Xi (Xj p))))) (by rw [f];exact n) (Nt (by rw [f];exact n)) (by rw [f];exact i) (by rw [f];exact v);exact this
 rw [f]at b4;generalize hg:On F p=g at *;generalize hh:On F g=h at *;generalize hu:sqf F p=u at *;generalize a0:sqf F g=t at *;obtain⟨k,s,hk,S⟩:=o;obtain⟨m,w,hm,V⟩:=e2;have hP:∀x:Rat,Zi (Xj p) x=Zi (lmul u g) x:=λx=>by rw [a4,Xb,Ym]
 have hG:∀x:Rat,Zi g x=Zi (lmul t h) x:=λx=>by
  have:Zi g x=Zi (Qx t h) x:=by rw [<-b4]
  rw [this,Xb,Ym]
 have N:∀x:Rat,Zi (Xi (Xj p)) x=Zi (ld u) x*Zi g x+Zi u x*Zi (ld g) x:=λx=>by rw [Ik,Cv _ _ hP,Bt]
 have y:∀x:Rat,(m:Rat)*Zi (ld g) x=Zi w x*Zi h x:=λx=>by rw [<-Ik];exact V x
 have Z:∀x:Rat,(k:Rat)*(Zi (Qx u w) x*Zi h x)=(m:Rat)*(Zi (Qx (Mw s ((ld u).map λc=>(-k)*c)) t) x*Zi h x):=λx=>by rw [Xb,Xb,Xt,Zu];have i:=S x;have v:=N x;have h3:=y x;have h4:=hG x;rw [Ym]at h4;rw [v]at i;have:(k:Rat)*(Zi u x*Zi w x*Zi h x)=Zi u x*k*(Zi w x*Zi h x):=O5;rw [this,<-h3];push_cast;have:Zi u x*(k:Rat)*(m*Zi (ld g) x)=m*(k*(Zi (ld u) x*Zi g x+Zi u x*Zi (ld g) x)-k*Zi (ld u) x*Zi g x):=O5;rw [this,i,h4];grind
 have D:=Yq4 H G Z;refine ed_cop (s:=(Qx (Mw s ((ld u).map λc=>(-k)*c)) [m])) hk t2 (w:=tzl w) (Qn w) t3 (λd M i v=>?_) (λx=>?_)
 .have I:Ed d w:=v.congr λx=>Ll w x;have P:Ed (Qx d h) h:=R _ (Qo _ _) (by
   obtain⟨Y,s1,j,o⟩:=i;exact⟨Y,s1,j,λx=>by rw [hG x,Ym,Xb];have:=o x;grind⟩) (by
   obtain⟨Y,s1,j,o⟩:=I;exact⟨Y*m,s1,bB j hm,λx=>by rw [Ik,Xb];have:=o x;have:=y x;push_cast;grind⟩)
  have d0:=(i.len M t2 t3).1;have hl:=Ox M H d0 G;have:=(P.len (Qo _ _) H G).2;have l2:=aH.2 G;omega
 .rw [Ll,Xb,Oh];have:=D x;rw [Xb,Xb]at this;rw [this];grind
theorem Yf9{t:List Int}(j:Tr u)(o:u≠[])(n:Tr t)(t0:t≠[])(l:Xj t=t)(h:Ed t u):pdv u t/\u=Qx (Kg u t) t/\Tr (Kg u t)/\Kg u t≠[]:=by
 have e:Yv t=1:=by grind [Zbs]
 obtain⟨k,s,f,h⟩:=h.dv;obtain⟨q,m⟩:=gauss e _ k s rfl f h;have g:u=Qx (tzl q) t:=j.ext (Qo _ _) λi=>by grind [Gv,Zrr]
 grind [Zr0,Qn,Fr]
theorem Znl{F:Nat}(g:Tr p)(l:p≠[])(f:De F p)(n:2<=p.length):(On F p).length<p.length:=by obtain⟨i,m,-⟩:=Pp g l f;have h:Tr (Xj p):=Ng (Yu g);have j:Ed (On F p) _:=(Zeo h (Nt h) f).2.ed;have o:=Og (Xj p);have v:=Pt g;have:=(j.len i (Nt h) (λe=>O5)).2;omega
theorem Yrv(h:Tr p)(o:Xj p=p)(n:p.length=1):p=[1]:=by
 have f:p≠[]:=λe=>O5;have l:=Zbs h f;have g:0<cf (Xj p) ((Xj p).length-1):=Az (Yu h) (λe=>f (aC (by grind [Yc])));rw [o]at l g
 match p,n with
 | [c],_=>
  have m:0<c:=g;have j:c∣Yv [c]:=Eg λi=>by
   match i with
   | 0=>exact mX c
   | i+1=>grind [Yr,Int.dvd_zero]
  have:=kS O1 j;grind
def Dp(p q:List Int):Prop:=Tr q/\q≠[]/\Xj q=q/\∃a,Tr a/\Xj p=Qx a q
theorem Dp.start(f:Tr p)(g:p≠[]):Dp p (Xj p):=
 ⟨Ng (Yu f),Zi8 f g,Zzo (Ng (Yu f)) (Zbs f g) (Az (Yu f) (λe=>g (aC (by grind [Yc])))),[1],.inr (show cf [1] 0≠0 by decide),by refine(Ng (Yu f)).ext (Qo _ _) λi=>?_;rw [Gv,Zv9];rfl⟩
theorem Dp.sz{n:Nat}(g:Tr p)(i:p≠[])(hs:Sz n p)(F:p.length<=13)(h:Dp p q):Sz (n+15) q/\q.length<=p.length:=by obtain⟨j,y,D,a,m,e⟩:=h;have l:fcs 0 13<=2^15*2^15:=O4;have o:=Pt g;have f:=Zi8 g i;have v:=Ng (Yu g);have w:a≠[]:=λx=>f (by grind [Fr]);refine⟨Fv _ 24 j m (Zqu hs) f v O1 O1 l (by grind [Ca]),?_⟩;grind [Ox,List.length_pos_iff]
theorem Dp.ok{n F:Nat}(f:Tr p)(e:p≠[])(hs:Sz n p)(l:n<=220)(j:p.length<=11)(i:p.length<=F+1)(h:Dp p q):Zac F q/\De F q:=by obtain⟨g,m⟩:=h.sz f e hs O1;have:=(chG F h.1 h.2.1 g O1 O1 O1).1;exact⟨this,this.1.2.2.1⟩
theorem Dp.next{F:Nat}(h:Dp p q)(f:De F q):Dp p (On F q):=by obtain⟨n,o,v,a,y,e⟩:=h;obtain⟨j,l,m,g,w⟩:=Pp n o f;refine⟨j,l,m,Qx a (sqf F q),Qo _ _,?_⟩;rw [v]at g;refine e.trans ((aD _ g).trans ?_);refine(Qo _ _).ext (Qo _ _) λi=>Nv (λx=>?_) i;grind [Xb]
def Bh(F:Nat):Nat->List Int->List Int
 | 0,p=>sqf F p
 | f+1,p=>if(sqf F p).length=1 then sqf F p else Qx (Kg (sqf F p) (sqf F (On F p))) (Bh F f (On F (On F p)))
def Zr5(F:Nat):Nat->List Int->List Int->List Int
 | 0,e,_=>e
 | f+1,e,q=>if(sqf F q).length=1 then e else if(sqf F (On F q)).length=1 then Qx e (Kg (sqf F q) (sqf F (On F q)))else Zr5 F f (Qx e (Kg (sqf F q) (sqf F (On F q)))) (On F (On F q))
theorem Zgm{F:Nat}(g:Tr q)(f:q≠[])(e:De F q)(h:(sqf F q).length=1):sqf F q=[1]/\q.length=1/\(On F q).length=1:=by
 obtain⟨f1,f2,f3,f4,f5,f6⟩:=Ow _ g f e;obtain⟨j,l,m,n,o⟩:=Pp g f e;have w:=aH.2 f;have v:q.length=1:=by
  rcases aW q.length 2 with i|i
  .omega
  .have:=Znl g f e i;omega
 grind [Yrv]
theorem Zrx(e:Tr p):Qx p [1]=p:=by refine(Qo _ _).ext e λi=>Nv (λx=>?_) i;grind [Xb,Oh]
theorem Yky{F:Nat}(i:Tr q)(g:q≠[])(e:De F q)(h:q.length=1):∀f,Bh F f q=[1]:=λf=>by
 obtain⟨f1,f2,f3,f4,f5,f6⟩:=Ow _ i g e;obtain⟨l,j,m,n,o⟩:=Pp i g e;have v:=aH.2 f3;have w:=aH.2 j;have hs:(sqf F q).length=1:=O1;have:=(Zgm i g e hs).1;cases f with
 | zero=>exact this
 | succ f=>unfold Bh;grind
theorem Zla (p:List Int){F:Nat}{f:Nat}(h:Tr q)(g:q≠[])(e:De F q):Tr (Bh F f q):=by
 obtain⟨f1,f2,f3,f4,f5,f6⟩:=Ow _ h g e;cases f with
 | zero=>exact f2
 | succ f=>unfold Bh;grind [Qo]
theorem Ycw{F n:Nat}(M:Tr p)(y:p≠[])(hs:Sz n p)(I:n<=220)(G:p.length<=11)(D:p.length<=F+1):∀(f:Nat) (j q:List Int),Tr j->Dp p q->q.length<=f->Zr5 F f j q=Qx j (Bh F f q):=by
 intro f
 induction f with
 | zero=>intro j q _ g H;have:=aH.2 g.2.1;omega
 | succ f R=>
  intro j q P g H;have h:=(g.ok M y hs I G D).2;have m:=g.next h;have e:=(m.ok M y hs I G D).2;have l:=m.next e;have o:=(l.ok M y hs I G D).2;unfold Zr5 Bh;by_cases v:(sqf F q).length=1
  .rw [aM v,aM v,(Zgm g.1 g.2.1 h v).1,Zrx P]
  .rw [aK v];have S:2<=q.length:=by obtain⟨f1,f2,f3,f4,f5,f6⟩:=Ow _ g.1 g.2.1 h;obtain⟨Y,Z,a3,a4,a5⟩:=Pp g.1 g.2.1 h;grind [List.length_pos_iff]
   have V:=Znl g.1 g.2.1 h S;obtain⟨-,-,-,-,b5⟩:=Pp m.1 m.2.1 e;obtain⟨-,b2,N,-,-,-⟩:=Ow _ m.1 m.2.1 e;have lb:=aH.2 N;by_cases w:(sqf F (On F q)).length=1
   .obtain⟨s1,s2,W⟩:=Zgm m.1 m.2.1 e w;rw [aM w,Yky l.1 l.2.1 o W];refine(Qo _ _).ext (Qo _ _) λi=>Nv (λx=>?_) i;grind [Xb,Oh]
   .rw [aK w,R _ _ (Qo _ _) l O1];refine(Qo _ _).ext (Qo _ _) λi=>Nv (λx=>?_) i;grind [Xb]
theorem Zzl{e:Int}(j:e=1\/e=-1)(h:Yv q=1):Yv (Zt q e)=1:=by
 have f:Yv (Zt q e)∣Yv q:=Eg λi=>by
  have:=Kr (Zt q e) i;rw [Yo]at this;rcases j with rfl|rfl
  .rwa [fH]at this
  .rw [Int.mul_neg_one]at this;exact(nA.1 this)
 rw [h]at f;have l:=Nw (Zt q e);have m:=kS O4 f;rcases(show Yv (Zt q e)=0\/Yv (Zt q e)=1 by omega)with g|g
 .rw [g]at f;exact absurd (Int.zero_dvd.1 f) O4
 .exact g
theorem Yku(h:Yv q=1):Yb q=q:=by unfold Yb;rw [h];simp
theorem Zu6{F:Nat}{e:Int}(g:Tr q)(h:q≠[])(j:Xj q=q)(f:De F q)(n:e=1\/e=-1) :
  Tr (Zt q e)/\Zt q e≠[]/\Xj (Zt q e)=q/\Yb (Zt q e)=Zt q e/\pdv (Zt q e) (sqf F q)/\Kg (Zt q e) (sqf F q)=Zt (On F q) e:=by
 have m:e≠0:=by rcases n with rfl|rfl<;>decide
 obtain⟨f1,f2,f3,f4,f5,f6⟩:=Ow F g h f;obtain⟨D,G,H,l,I⟩:=Pp g h f;have w:Yv q=1:=by have:=Zbs g h;rwa [j]at this
 rw [j]at l;have y:Zt q e=Qx (Zt (On F q) e) (sqf F q):=by
  refine(Ql _ _).ext (Qo _ _) λi=>Nv (λx=>?_) i;have:Zi q x=Zi (Qx (sqf F q) (On F q)) x:=by rw [<-l]
  rw [Dx,Xb,Dx,this,Xb];grind
 obtain⟨o,v⟩:=Zr0 (Ql (On F q) e) f2 f3;rw [<-y]at o v;exact⟨Ql _ _,Zpt g h m,by rw [Zr7 (Ql _ _) g (Zfq q m).symm,j],Yku (Zzl n w),o,v⟩
theorem Ykt(f:Tr p)(g:p≠[]):∃e:Int,(e=1\/e=-1)/\Yb p=Zt (Xj p) e:=by
 by_cases h:cf (Yb p) ((Yb p).length-1)<0
 .refine⟨-1,.inr rfl,?_⟩;rw [Zld (λe=>g (aC (by rw [<-Yc,e]))) h];refine(Yu f).ext (Ql _ _) λi=>?_;rw [Yo,Yo];omega
 .refine⟨1,.inl rfl,?_⟩;rw [Zlc h];refine(Yu f).ext (Ql _ _) λi=>?_;rw [Yo];omega
def Nh(F:Nat)(p:List Int):List Int:=Kg (Zt (Yb p) 1) (sqf F p)
def Au(F:Nat)(p:List Int):List Int:=Kg (Yb (Nh F p)) (sqf F (Nh F p))
def Zdi(F:Nat):Nat->List Int->List Int
 | 0,p=>sqf F p
 | f+1,p=>if(sqf F p).length=1 then sqf F p else Qx (Kg (sqf F p) (sqf F (Nh F p))) (Zdi F f (Au F p))
theorem Ch{F:Nat}(h:Xj p=Xj q):sqf F p=sqf F q:=by unfold sqf;rw [h]
theorem Zlh{F:Nat}(h:Xj p=Xj q):On F p=On F q:=by unfold On;rw [h]
theorem Zmx{F:Nat}(h:Xj p=Xj q):∀f,Bh F f p=Bh F f q
 | 0=>Ch h
 | f+1=>by unfold Bh;rw [Ch h,Zlh h]
theorem Zmm{F:Nat}(D:Tr p)(x:p≠[])(g:De F p)(f:De F (On F p)) :
  (∃e:Int,(e=1\/e=-1)/\Zt (Yb p) 1=Zt (Xj p) e/\pdv (Zt (Xj p) e) (sqf F p)/\Nh F p=Zt (On F p) e/\Yb (Nh F p)=Nh F p/\pdv (Nh F p) (sqf F (On F p))/\Au F p=Zt (On F (On F p)) e)/\
  Xj (Nh F p)=On F p/\Xj (Au F p)=On F (On F p)/\Tr (Nh F p)/\Nh F p≠[]/\Tr (Au F p)/\Au F p≠[]:=by
 obtain⟨b1,b2,m,-⟩:=Dp.start D x;have h:De F (Xj p):=by unfold De;rw [m];exact g
 have y:On F (Xj p)=On F p:=Zlh m;have l:sqf F (Xj p)=sqf F p:=Ch m;obtain⟨e,n,G⟩:=Ykt D x;have j:Zt (Yb p) 1=Zt (Xj p) e:=by rw [G];refine(Ql _ _).ext (Ql _ _) λi=>?_;rw [Yo,fH]
 obtain⟨-,-,-,-,P,R⟩:=Zu6 b1 b2 m h n;rw [y,l]at R;rw [l]at P;have hl:Nh F p=Zt (On F p) e:=by unfold Nh;rw [j,R]
 obtain⟨I,M,N,-,-⟩:=Pp D x g;obtain⟨S,V,v,w,W,Y⟩:=Zu6 I M N f n;rw [<-hl]at S V v w W Y;have H:sqf F (Nh F p)=sqf F (On F p):=Ch (by rw [v,N]);have o:Au F p=Zt (On F (On F p)) e:=by unfold Au;rw [w,H,Y]
 obtain⟨g1,g2,g3,-,-⟩:=Pp I M f;have Z:e≠0:=by rcases n with rfl|rfl<;>decide
 refine⟨⟨e,n,j,P,hl,w,W,o⟩,v,?_,S,V,?_,?_⟩
 .rw [o,Zr7 (Ql _ _) g1 (Zfq _ Z).symm,g3]
 .rw [o];exact Ql _ _
 .rw [o];exact Zpt g1 g2 Z
theorem Yb6{F n:Nat}(x:Tr p)(m:p≠[])(hs:Sz n p)(w:n<=220)(v:p.length<=11)(o:p.length<=F+1):∀(f:Nat) (q:List Int),Tr q->q≠[]->Dp p (Xj q)->Zdi F f q=Bh F f q:=by
 intro f
 induction f with
 | zero=>intro q _ _ _;rfl
 | succ f G=>
  intro q D H j;have g:=(j.ok x m hs w v o).2;have i:De F q:=by unfold De at g ⊢;rwa [j.2.2.1]at g
  have l:=j.next g;rw [Zlh j.2.2.1]at l;have e:=(l.ok x m hs w v o).2;have h:=l.next e;obtain⟨-,r1,r2,r3,N,I,M⟩:=Zmm D H i e;unfold Zdi Bh;have y:=l.2.2.1;rw [Ch (show Xj (Nh F q)=Xj (On F q) by rw [r1,y]),G _ I M (by rw [r2];exact h),Zmx (show Xj (Au F q)=Xj (On F (On F q)) by rw [r2,h.2.2.1])]
def Bl(F:Nat)(q:List Int):List Int:=Kg (sqf F q) (sqf F (On F q))
theorem Cy{F:Nat}(g:Tr q)(h:q≠[])(f:De F q)(e:De F (On F q)):pdv (sqf F q) (sqf F (On F q))/\sqf F q=Qx (Bl F q) (sqf F (On F q))/\Tr (Bl F q)/\Bl F q≠[]:=by obtain⟨f1,f2,f3,f4,f5,f6⟩:=Ow F g h f;obtain⟨i,j,l,m,n⟩:=Pp g h f;obtain⟨-,t2,t3,-,-,t6⟩:=Ow F i j e;exact Yf9 f2 f3 t2 t3 t6 (Ycv g h f e)
theorem Zz6{n:Nat}(j:Tr p)(w:p≠[])(hs:Sz n p)(D:p.length<=13)(o:Tr a)(v:Tr b)(e:Xj p=Qx a b):Sz (n+15) b/\b.length<=p.length/\b≠[]:=by have x:fcs 0 13<=2^15*2^15:=O7;have h:=Pt j;have f:=Zi8 j w;have y:Tr (Xj p):=Ng (Yu j);have l:a≠[]:=λg=>f (by rw [e,g,Fr]);have m:b≠[]:=λg=>f (by rw [e,g,Zcn]);refine⟨Fv 13 24 v o (Zqu hs) f y O1 O4 x (by rw [Ca];exact e),?_,m⟩;have i:=Ox o v l m;rw [<-e,h]at i;have:=aH.2 l;omega
def Op(p e q:List Int):Prop:=∃a,Tr a/\Xj p=Qx a (Qx e q)
theorem Op.start(e:Tr p):Op p [1] (Xj p):=⟨[1],.inr (show cf [1] 0≠0 by decide),by refine(Ng (Yu e)).ext (Qo _ _) λi=>Nv (λx=>?_) i;rw [Xb,Xb,Oh];push_cast;show Zi (Xj p) x=_;grind⟩
theorem Op.next{j:List Int}{F:Nat}(n:Tr q)(o:q≠[])(I:Xj q=q)(g:De F q)(f:De F (On F q))(h:Op p j q):Op p (Qx j (Bl F q)) (On F (On F q)):=by
 obtain⟨a,P,e⟩:=h;obtain⟨-,M,R,S⟩:=Cy n o g f;obtain⟨v,w,y,l,N⟩:=Pp n o g;obtain⟨-,-,-,m,-⟩:=Pp v w f;rw [I]at l;rw [y]at m;refine⟨Qx a (Qx (sqf F (On F q)) (sqf F (On F q))),Qo _ _,e.trans ?_⟩;refine(Qo _ _).ext (Qo _ _) λi=>Nv (λx=>?_) i;have D:Zi q x=Zi (sqf F q) x*Zi (On F q) x:=by rw [<-Xb,<-l]
 have G:Zi (sqf F q) x=Zi (Bl F q) x*Zi (sqf F (On F q)) x:=by rw [<-Xb,<-M]
 have H:Zi (On F q) x=Zi (sqf F (On F q)) x*Zi (On F (On F q)) x:=by rw [<-Xb,<-m]
 simp only [Xb];rw [D,G];rw [H];generalize Zi (sqf F (On F q)) x=A;generalize Zi (On F (On F q)) x=B;grind
theorem Op.sz{f:List Int}{n:Nat}(m:Tr p)(g:p≠[])(hs:Sz n p)(j:p.length<=13)(l:Tr f)(v:Tr q)(h:Op p f q):Sz (n+15) f/\f.length<=p.length/\f≠[]:=by obtain⟨a,o,e⟩:=h;exact Zz6 m g hs j (Qo a q) l (e.trans ((Qo _ _).ext (Qo _ _) λi=>Nv (λx=>by rw [Xb,Xb,Xb,Xb];grind) i))
theorem Yco(e:Tr p):Qx [1] p=p:=by rw [Ca];exact Zrx e
theorem Ylg{F n:Nat}(f:Tr p)(g:p≠[])(hs:Sz n p)(j:n<=220)(i:p.length<=11)(h:p.length<=F+1):Zr5 F p.length [1] (Xj p)=Zdi F p.length p:=by have e:=Dp.start f g;have l:=(e.ok f g hs j i h).2;rw [Ycw f g hs j i h p.length [1] (Xj p) (.inr (show cf [1] 0≠0 by decide)) e (by rw [Pt f];exact aF _),Yco (Zla p e.1 e.2.1 l),Yb6 f g hs j i h p.length p f g e];exact Zmx e.2.2.1 _
def Zl2{F:Nat}(h:Tr xs)(f:xs≠[])(g:Zac F xs)(e:s<=t):vch F xs t<=vch F xs s:=Zn7 h f g e
def Sqn.imp{P e:R2->R2->Prop}{hi:Rat}(f:∀x y,P x y->e x y):∀{g:Rat} {l:List (R2×R2)},Sqn P hi g l->Sqn e hi g l
 | _,[],h=>h
 | _,_::_,h=>⟨h.1,h.2.1,f _ _ h.2.2.1,Sqn.imp f h.2.2.2⟩
def oe(f:Nat->Int):Nat->Int
 | 0=>0
 | k+1=>err (oe f k) (f k)
def mon(d n:Nat):List Int:=mono d ((2:Int)^n)
variable {P:Program} {N:Nat} {sc:Nat->Prop} {env:Pw} {H:Hp}
end Go.Sky
namespace Go.Sky
variable{f:Rat->Rat}{xs p o:List Int}{x:Rat}
def HD(xs ys:List Int):Prop:=Vp ys/\ys≠[]/\Zbn ys/\Zac 13 ys/\chn 13 ys=chn 13 xs
def PH(xs:List Int)(x y:R2):Prop:=(0<x.2/\bl x.1.natAbs<=506/\bl x.2.natAbs<=506)/\(0<y.2/\bl y.1.natAbs<=506/\bl y.2.natAbs<=506)/\cvc 13 xs x-cvc 13 xs y=1
def DR:R2×R2:=((0,0),(0,0))
theorem Zig(d:Rat){h:Rat}(a:0<h):∃n:Nat,d<=(n:Rat)*h:=by
 have e:0<h⁻¹:=fR.2 a;refine⟨(d*h⁻¹).ceil.toNat,?_⟩;have b:=@nB (d*h⁻¹);have c:(((d*h⁻¹).ceil:Int):Rat)<=(((d*h⁻¹).ceil.toNat:Nat):Rat):=by have:(d*h⁻¹).ceil<=(((d*h⁻¹).ceil.toNat:Nat):Int):=kP _;exact_mod_cast this
 have g:=dE (eD b c) (show 0<=h by grind);have i:d*h⁻¹*h=d:=O5;grind
theorem Ztn{u v:Rat}(h:crs f u v<=0)(b:f u≠0):0<f u*f v:=by
 unfold crs at h;by_cases a:f u≠0/\f u*f v<=0
 .rw [aM a]at h;exact absurd h O4
 .have:¬f u*f v<=0:=λc=>a ⟨b,c⟩;grind
theorem Zew{F:Nat}(l:Tr xs)(i:xs≠[])(j:Zac F xs){s t:Rat}(G:s<=t)(D:vch F xs s<=vch F xs t)(hs:Zi (sqf F xs) s≠0):∀y,s<=y->y<=t->0<Zi (sqf F xs) s*Zi (sqf F xs) y:=by
 obtain⟨h,z,B⟩:=Zn6 l i j s t;have g:∀u v,s<=u->u<=v->v<=t->v-u<=h->crs (Zi (sqf F xs)) u v<=0:=λu v a b c d=>by have e:=B u v a b c d;have R:vat ((chn F xs).map Zi) u<=vat ((chn F xs).map Zi) s:=Zn7 l i j a;have S:vat ((chn F xs).map Zi) t<=vat ((chn F xs).map Zi) v:=Zn7 l i j c;have V:vat ((chn F xs).map Zi) s<=vat ((chn F xs).map Zi) t:=D;omega
 generalize Zi (sqf F xs)=f at *;have m:∀n:Nat,∀y,s<=y->y<=t->y-s<=(n:Rat)*h->0<f s*f y:=λn=>by
  induction n with
  | zero=>
   intro y a b c;have:y=s:=by push_cast at c;grind
   subst this;exact Ztn (g _ _ a O5 b O5) hs
  | succ n P=>
   intro y a b c;push_cast at c;by_cases H:y-s<=h
   .exact Ztn (g s y O5 a b H) hs
   .have r:=P (y-h) O5 O5 O5;have I:f (y-h)≠0:=λe=>by rw [e]at r;grind
    have M:=Ztn (g (y-h) y O5 O5 b O5) I;have N:=aT r M;have w:f s*f (y-h)*(f (y-h)*f y)=(f (y-h)*f (y-h))*(f s*f y):=O5;rw [w]at N;have Q:0<f (y-h)*f (y-h):=by
     rcases(show 0<f (y-h)\/f (y-h)<0 by grind)with q|q
     .exact aT q q
     .have:=aT (a:=-f (y-h)) (b:=-f (y-h)) O5 O5;grind
    rcases(show 0<f s*f y\/f s*f y<=0 by grind)with q|q
    .exact q
    .have:=aE (a:=f (y-h)*f (y-h)) (b:=-(f s*f y)) O5 O5;grind
 intro y a b;obtain⟨n,k⟩:∃n:Nat,y-s<=(n:Rat)*h:=by obtain⟨n,k⟩:=Zig (y-s) z;exact⟨n,k⟩
 exact m n y a b k
theorem Zhj (p:List Int)(s:Rat)(t:Rat)(B:s<=t)(v:∀u,s<=u->u<=t->0<=Zi (ld p) u):Zi p s<=Zi p t:=by
 rcases(show Zi p s<=Zi p t\/Zi p t<Zi p s by grind)with h|h
 .exact h
 .exfalso;obtain⟨M,V,H⟩:=Zk6 s t p;have y:s<t:=by
   rcases(show s<t\/s=t by grind)with d|d
   .exact d
   .rw [d]at h;grind
  obtain⟨n,z⟩:=Zig (M*(t-s)*(t-s)+1) (show 0<Zi p s-Zi p t by grind);have g:(0:Rat)<(n:Rat):=by
   rcases aU n with d|d
   .subst d;have:=aE (a:=M*(t-s)) (b:=t-s) (aE O5 O5) O5;push_cast at z;grind
   .exact_mod_cast d
  have m:(n:Rat)≠0:=λe=>by rw [e]at g;exact absurd g O4
  have c:(n:Rat)*((t-s)/n)=t-s:=by rw [gK,<-kT,kA (n:Rat),kT,mP _ m,Rat.mul_one]
  have q:∀k:Nat,(k:Rat)<=(n:Rat)->-(M*((t-s)/n)*((t-s)/n))*k<=Zi p (s+k*((t-s)/n))-Zi p s:=λk=>by
   induction k with
   | zero=>intro _;push_cast;rw [show s+0*((t-s)/n)=s by grind];grind
   | succ k D=>
    intro w;push_cast at w ⊢;have Q:=D O5;have l:0<=(t-s)/n:=by rw [gK];exact aE O5 (cS (fR.2 g))
    have i:=c;generalize (t-s)/(n:Rat)=h at *;have F:(0:Rat)<=(k:Rat):=by exact_mod_cast bE k
    have I:=aE (a:=(k:Rat)) (b:=h) F l;have N:=aE (a:=(n:Rat)-(k+1)) (b:=h) O5 l;have j:=(H (s+k*h) (s+(k+1)*h) O5 O5 O5).1;have e:=v (s+k*h) O5 O5;have P:=aE l e;rw [show s+(k+1)*h-(s+k*h)=h by grind]at j;grind
  have r:=q n O5;have i:=c;rw [i,show s+(t-s)=t by grind]at r;have G:-(M*((t-s)/n)*((t-s)/n))*n=-(M*((t-s)/n)*(t-s)):=O5;rw [G]at r;have R:M*((t-s)/n)*(t-s)*n=M*(t-s)*(t-s):=O5;have S:=aE (a:=Zi p t-Zi p s+M*((t-s)/n)*(t-s)) (b:=(n:Rat)) O5 O5;grind
theorem Zgy(p:List Int)(x:Rat):Zi (p.map λa=>-1*a) x=-Zi p x:=by rw [Zu];push_cast;grind
theorem Zqn (p:List Int){s t:Rat}(k:s<t)(e:∀u,s<u->u<=t->0<Zi (ld p) u)(g:0<=Zi (ld p) s):Zi p s<Zi p t:=by
 have i:s<(s+t)/2/\(s+t)/2<t:=by constructor<;>grind
 generalize (s+t)/2=m at *;have r:=Zhj p s m O5 (λu a b=>by
  rcases(show s<u\/u=s by grind)with h|h
  .exact cS (e u h O5)
  .rw [h];exact g)
 obtain⟨M,l,n⟩:=Zk6 m t p;have j:=e m i.1 O5;obtain⟨η,q,w,y⟩:=Gj (show 0<t-m by grind) l (show 0<Zi (ld p) m/2 by grind);have b:=(n m (m+η) O5 O5 O5).1;rw [show m+η-m=η by grind]at b;have v:=Zhj p (m+η) t O5 (λu a b=>cS (e u O5 b));have c:=aE (a:=η) (b:=Zi (ld p) m/2-η*M) O5 O5;have d:=aT q j;grind
def Dq:Nat->List Int->Rat->Int
 | 0,_,_=>0
 | n+1,p,x=>if Zi p x≠0 then Er (Zi p x)else Dq n (Xi p) x
theorem Yb4(h:0<x):Er x=1:=Zal h
theorem Zpi(h:x<0):Er x=-1:=Zam h
theorem Zvh(h:x=0):Er x=0:=by subst h;rfl
theorem Po(x:Rat):(0<x/\Er x=1)\/(x<0/\Er x=-1)\/(x=0/\Er x=0):=by
 rcases(show 0<x\/x<0\/x=0 by grind)with h|h|h
 .exact .inl ⟨h,Yb4 h⟩
 .exact .inr (.inl ⟨h,Zpi h⟩)
 .exact .inr (.inr ⟨h,Zvh h⟩)
theorem Ya5(n:Nat)(p:List Int)(x:Rat)(h:Zi p x≠0)(a:p.length<=n):Dq n p x=Er (Zi p x):=by
 cases n with
 | zero=>have:p=[]:=aC O1;subst this;exact absurd rfl h
 | succ n=>unfold Dq;rw [aM h]
theorem Zpz(p:List Int)(x:Rat)(h:Zi p x≠0):∃δ:Rat,0<δ/\∀y,x<y->y<=x+δ->Er (Zi p y)=Er (Zi p x):=by
 obtain⟨L,r,k⟩:=Bs x (x+1) p;have i:0<(if 0<Zi p x then Zi p x else -Zi p x):=by split<;>grind
 obtain⟨δ,j,m,g⟩:=Gj (show(0:Rat)<1 by decide) (show 0<L+1 by grind) (show 0<(if 0<Zi p x then Zi p x else -Zi p x)/2 by grind);refine⟨δ,j,λy n q=>?_⟩;have l:=k x y O5 O5 O5;have b:=aE (a:=L) (b:=δ-(y-x)) O5 O5;have c:L*(y-x)<=δ*(L+1):=O5;rcases Po (Zi p x)with⟨d,e⟩|⟨d,e⟩|⟨d,e⟩
 .rw [aM d]at g i;rw [e];exact Yb4 O5
 .rw [aK O5]at g i;rw [e];exact Zpi O5
 .exact absurd d h
theorem Zae:∀(n:Nat) (p:List Int) (x:Rat),p.length<=n->∃δ:Rat,0<δ/\∀y,x<y->y<=x+δ->Er (Zi p y)=Dq n p x
 | 0,p,x,q=>⟨1,O4,λy _ _=>by have:p=[]:=aC O1;subst this;exact Zvh rfl⟩
 | n+1,p,x,q=>by
  by_cases h:Zi p x≠0
  .rw [Ya5 (n+1) p x h q];exact Zpz p x h
  .have F:Zi p x=0:=eW.1 h;have B:=Og p;obtain⟨δ,v,w⟩:=Zae n (Xi p) x O1;have z:Dq (n+1) p x=Dq n (Xi p) x:=by unfold Dq;rw [aK h];cases n<;>rfl
   have k:Zi (ld p) x≠0->Er (Zi (ld p) x)=Dq n (Xi p) x:=λg=>by rw [<-Ik]at g ⊢;exact(Ya5 n (Xi p) x g O1).symm
   refine⟨δ,v,λy l G=>?_⟩;rw [z];have i:∀u,x<u->u<=y->Er (Zi (ld p) u)=Dq n (Xi p) x:=λu a b=>by rw [<-Ik];exact w u a O5
   have e:=i y l O5;generalize Dq n (Xi p) x=σ at *;rcases Po (Zi (ld p) y)with⟨m,j⟩|⟨m,j⟩|⟨m,j⟩
   .rw [j]at e;subst e;refine Yb4 ?_;have:=Zqn p l (λu a b=>by
     rcases Po (Zi (ld p) u)with⟨d,c⟩|⟨d,c⟩|⟨d,c⟩
     .exact d
     .have:=i u a b;rw [c]at this;exact absurd this O4
     .have:=i u a b;rw [c]at this;exact absurd this O4) (by
     rcases Po (Zi (ld p) x)with⟨d,c⟩|⟨d,c⟩|⟨d,c⟩
     .exact cS d
     .have:=k O5;rw [c]at this;exact absurd this O4
     .grind)
    grind
   .rw [j]at e;subst e;refine Zpi ?_;have r:∀u,Zi (ld (p.map λa=>-1*a)) u=-Zi (ld p) u:=λu=>by rw [Zao];push_cast;grind
    have:=Zqn (p.map λa=>-1*a) l (λu a b=>by
     rw [r];rcases Po (Zi (ld p) u)with⟨d,c⟩|⟨d,c⟩|⟨d,c⟩
     .have:=i u a b;rw [c]at this;exact absurd this O4
     .grind
     .have:=i u a b;rw [c]at this;exact absurd this O4) (by
     rw [r];rcases Po (Zi (ld p) x)with⟨d,c⟩|⟨d,c⟩|⟨d,c⟩
     .have:=k O5;rw [c]at this;exact absurd this O4
     .grind
     .grind)
    rw [Zgy,Zgy]at this;grind
   .rw [j]at e;subst e;refine Zvh ?_;have s:∀u,x<=u->u<=y->Zi (ld p) u=0:=λu a b=>by
     rcases(show x<u\/u=x by grind)with g|g
     .rcases Po (Zi (ld p) u)with⟨d,c⟩|⟨d,c⟩|⟨d,c⟩
      .have:=i u g b;rw [c]at this;exact absurd this O4
      .have:=i u g b;rw [c]at this;exact absurd this O4
      .exact d
     .subst g;rcases Po (Zi (ld p) u)with⟨d,c⟩|⟨d,c⟩|⟨d,c⟩
      .have:=k O5;rw [c]at this;exact absurd this O4
      .have:=k O5;rw [c]at this;exact absurd this O4
      .exact d
    have D:=Zhj p x y O5 (λu a b=>by rw [s u a b];grind);have t:=Zhj (p.map λa=>-1*a) x y O5 (λu a b=>by rw [Zao,s u a b];push_cast;grind);rw [Zgy,Zgy]at t;grind
theorem Ed.mul_l{a b c:List Int}(h:Ed a b):Ed (Qx c a) (Qx c b):=by obtain⟨k,s,d,e⟩:=h;exact⟨k,s,d,λx=>by rw [Xb,Xb];have:=e x;grind⟩
theorem Eb{F n:Nat}(t:Tr p)(k:p≠[])(hs:Sz n p)(s:n<=220)(m:p.length<=11)(l:p.length<=F+1):∀(f:Nat) (q:List Int),Dp p q->q.length<=f->
  (∃B:List Int,∀x:Rat,Zi q x=Zi (Bh F f q) x*(Zi B x*Zi B x))/\Ed (Bh F f q) (sqf F q):=by
 intro f
 induction f with
 | zero=>intro q a r;have:=aH.2 a.2.1;omega
 | succ f R=>
  intro q a r;have d:=(a.ok t k hs s m l).2;have e:=a.next d;have b:=(e.ok t k hs s m l).2;have g:=e.next b;unfold Bh;by_cases j:(sqf F q).length=1
  .rw [aM j];obtain⟨Y,Z,s3⟩:=Zgm a.1 a.2.1 d j;refine⟨⟨[1],λx=>?_⟩,Ed.refl _⟩;rw [Y,Yrv a.1 a.2.2.1 Z,Oh];push_cast;grind
  .rw [aK j];have V:2<=q.length:=by obtain⟨f1,f2,f3,f4,f5,f6⟩:=Ow F a.1 a.2.1 d;obtain⟨D,u,v,i,G⟩:=Pp a.1 a.2.1 d;have l1:=aH.2 f3;have l2:=aH.2 u;omega
   have W:=Znl a.1 a.2.1 d V;obtain⟨D,u,v,i,G⟩:=Pp a.1 a.2.1 d;obtain⟨b1,b2,b3,w,b5⟩:=Pp e.1 e.2.1 b;obtain⟨-,t2,t3,-,-,-⟩:=Ow F e.1 e.2.1 b;have lb:=aH.2 t3;obtain⟨⟨B,P⟩,Q⟩:=R _ g O1;obtain⟨-,z,o3,o4⟩:=Cy a.1 a.2.1 d b;have h:=(g.ok t k hs s m l).2;rw [a.2.2.1]at i;rw [v]at w;have H:∀x,Zi q x=Zi (sqf F q) x*Zi (On F q) x:=λx=>by rw [<-Xb,<-i]
   have I:∀x,Zi (sqf F q) x=Zi (Bl F q) x*Zi (sqf F (On F q)) x:=λx=>by rw [<-Xb,<-z]
   have M:∀x,Zi (On F q) x=Zi (sqf F (On F q)) x*Zi (On F (On F q)) x:=λx=>by rw [<-Xb,<-w]
   refine⟨⟨Qx (sqf F (On F q)) B,λx=>?_⟩,?_⟩
   .rw [Xb,Xb,H x,I x,M x,P x];show _=Zi (Bl F q) x*_*_;generalize Zi (sqf F (On F q)) x=S;generalize Zi B x=C;grind
   .have N:Ed (Bh F f (On F (On F q))) (sqf F (On F q)):=Q.trans (Ycv e.1 e.2.1 b h);have y:=N.mul_l (c:=Bl F q);rw [<-z]at y;exact y
theorem Zv6{F n:Nat}(P:Tr p)(I:p≠[])(hs:Sz n p)(hn:n<=220)(hl:p.length<=11)(hF:p.length<=F+1)(u:Tr o)(R:o≠[])(g:De F o)(r:De F p)(h:Ed o (sqf F p)):(On F o).length=1/\sqf F o=Xj o:=by
 obtain⟨D,S,V,G,a5⟩:=Pp u R g;obtain⟨f1,f2,f3,f4,f5,f6⟩:=Ow F P I r;obtain⟨-,s2,s3,s4,s5,s6⟩:=Ow F u R g;have Q:Tr (Xj o):=Ng (Yu u);have M:=Zeo Q (Nt Q) g;have H:Ed (On F o) (Xj o):=M.1.ed;have W:Ed (On F o) (ld (Xj o)):=(M.2.ed:Ed (On F o) (Xi (Xj o))).congr λx=>Ik _ x;have s:Sim (Xj o) o:=(Ht (Yb o)).trans (Qm u);obtain⟨k,w,t,l⟩:Ed (Xj o) (sqf F p):=by
  obtain⟨k,w,t,e⟩:=h;obtain⟨c,d,hc,B,v⟩:=s;have j:∀x:Rat,(c:Rat)*Zi (Xj o) x=(d:Rat)*Zi o x:=λx=>by rw [<-Zu,<-Zu];exact Nb x _ _ λi=>by rw [Pk,Pk];exact v i
  exact⟨d*k,w.map λa=>c*a,bB B t,λx=>by rw [Zu];have a:=e x;have b:=j x;push_cast;grind⟩
 have N:(On F o).length<=1:=by
  refine Zgn P I r D (H.trans ⟨k,w,t,l⟩) ?_;have Y:Ed (On F o) (lmul w (ld (Xj o))):=by obtain⟨m,z,hm,e⟩:=W;exact⟨m,lmul w z,hm,λx=>by rw [Ym,Ym];have:=e x;grind⟩
  have Z:Ed (On F o) (ld (sqf F p)):=Ed.lin H Y (ld w) k t λx=>by have:=Cv ((sqf F p).map λa=>k*a) (lmul w (Xj o)) (λy=>by rw [Zu,Ym];exact l y) x;rw [Zao,Bt]at this;rw [Ym,this]
  exact Z.congr λx=>(Ik _ x).symm
 have q:(On F o).length=1:=by have:=aH.2 S;omega
 refine⟨q,?_⟩;rw [Yrv D V q,Zrx s2]at G;exact G.symm
end Go.Sky

