/- Rules, arithmetic and contracts: part 6. No conditions but those that each theorem names. -/
import Derived.Test.YthennaflbbajkaaGreatAf04
set_option linter.all false
namespace Go.Sky
variable{s t:Rat}{u xs a p q b:List Int}{K B Q:Nat}{r d c k:Int}{z:R2}
def kkR(R:Nat):Nat->Nat
 | 0=>0
 | d+1=>2*(R+1)*kkR R d+1
def Zbr (L:Nat)(R:Nat){s v:List Int}{n e:Nat}(l:Tr u)(m:Tr v)(hs:Sz n s)(f:s≠[])(j:Tr s)(i:s.length<=L)(o:2*L<=R+2)(g:fcs 0 L<=2^e*2^e)(h:s=Qx u v):Sz (n+e) u:=Yci l m hs f i g h
theorem num13{e f:Nat}(i:e<=13)(j:f+1=e)(h:K<=600):Zss e f K:=λl m=>by have g:∀l,l<=12->(l+1)*(600*(27-2*l)+1)<=65536:=O3;refine aB (bB _ (Nat.succ_le_succ (aS h O))) (g l O)
theorem chH{n:Nat}(F:Nat)(v:Tr xs)(w:xs≠[])(hs:Sz n xs)(hn:n<=350)(hl:xs.length<=13)(hb:(xs.length+2)*(xs.length+2)*(n+13)<=65536)(hF:xs.length<=F+1) :
  Ak F xs/\Sz (n+15) (sqf F xs)/\(sqf F xs).length<=xs.length/\∀p∈chn F xs,Pb p<=(n+26)*25/\p.length<=xs.length:=by
 have e:=Zu8 hs;have Y:=Pn v;have l:Tr (Xr xs):=Nw (Xg v);have R:=Zas e O;have W:=Nt (Xr xs);have m:Tr (Xd (Xr xs)):=Mh l;have m1:=Oc e;have m2:=Oc R;have l0:=aL.2 w;have y:gA (Xr xs) (Xd (Xr xs))=Yu (Xr xs):=aJ O;have D:gB (Xr xs) (Xd (Xr xs))=Yu (Xd (Xr xs)):=aJ O;have j:eok F (gA (Xr xs) (Xd (Xr xs))) (gB (Xr xs) (Xd (Xr xs))):=by
  rw [y,D];refine(Ym8 (n:=n+5) (s:=5) (K:=n+11) (by grind [Yo]) (Xg l) (Xg m) (Ca (e.mono O7)) (Ca R) ?_ O ?_ ?_ ?_).1
  all_goals grind [Yo,num13,Nat.le_trans,Nat.mul_le_mul]
 obtain⟨f1,f2,f3,f4,f5,f6⟩:=Nf F v w j;have x:=Zfc F l m;have g:=Zko v w;have N:fcs 0 13<=2^15*2^15:=O3;have o:=Zbr 13 24 f2 x e g l O O N f4;have G:=Zbr 13 24 x f2 e g l O O N (by grind [Zax]);have H:=Nz f2 x f3 f5;rw [<-f4]at H;have lg:=aL.2 f5;have lq:=aL.2 f3;have mg:=Oc G;have M:(sqf F xs).length<=xs.length:=O;have I:=Zas o O;have S:=Nt (sqf F xs);have P:=Yns (a:=sqf F xs) (b:=Yu (Xd (sqf F xs))) (n:=n+15+5) (s:=5) (K:=n+26) (f:=F) (by grind [Yo]) f2 (Xg (Mh f2)) (o.mono O7) (Ca I) (by grind [Yo]) O (by grind [Yo,num13]) (Nat.le_trans (Nat.mul_le_mul (show(sqf F xs).length+1<=14 by omega) (show n+15+5+1<=500 by omega)) O7) (by grind [Yo]);refine⟨⟨⟨λi _=>aB (Zwm e O i) O,?_,j,?_,f1⟩,λi _=>aB (Zwm o O i) O,P.1⟩,o,M,λp Z=>?_⟩
 .intro h;have h3:(max (Xr xs).length (Xd (Xr xs)).length+2)*(max (Xr xs).length (Xd (Xr xs)).length+2)*(max (Pb (Xr xs)) (Pb (Xd (Xr xs)))+8)<=(xs.length+2)*(xs.length+2)*(n+13):=aS (aS O O) O;have:=h.2.2;omega
 .unfold Bc;rw [aJ O];split
  .rfl
  .have:((Xr xs).length-(Mt F (Xr xs) (Xd (Xr xs))).length+1)*(Pb (Mt F (Xr xs) (Xd (Xr xs)))+1)<=14*500:=aS O O;omega
 .obtain⟨V,a2⟩:=P.2 p Z;refine⟨aB V (bB _ ?_),O⟩;grind [Yo]
theorem chG{n:Nat}(F:Nat)(h:Tr xs)(e:xs≠[])(hs:Sz n xs)(g:n<=350)(i:xs.length<=11)(f:xs.length<=F+1) :
  Ak F xs/\Sz (n+15) (sqf F xs)/\(sqf F xs).length<=xs.length/\∀p∈chn F xs,Pb p<=(n+26)*25/\p.length<=xs.length:=
 chH F h e hs g O (aB (aS (aS (show _<=13 by omega) (show _<=13 by omega)) (show _<=363 by omega)) O) f
theorem Dv.ed{g:List Int}(h:Dv g a):Ed g a:=by obtain⟨k,s,e,h⟩:=h;refine⟨k,s,e,λx=>?_⟩;have:=Dt k 0 a s g [] (λt=>O4) x;grind
theorem Zlt{F:Nat}(m:Tr xs)(g:xs≠[])(i:Ak F xs)(s t:Rat) :
  ∃h:Rat,0<h/\∀u v,s<=u->u<=v->v<=t->v-u<=h->vat ((chn F xs).map Zc) u-vat ((chn F xs).map Zc) v=crs (Zc (sqf F xs)) u v:=by
 have f:=i.1.2.2.1;obtain⟨f1,f2,f3,f4,f5,f6⟩:=Nf _ m g f;have e:=Mh f2;by_cases n:Xd (sqf F xs)=[]
 .refine Zjt 1 f2 (Xg e) f3 i.2.2 (by rfl) (λx=>?_) λq l a b=>?_
  .rw [<-Ki,n];show(0)=1*0;simp
  .exact Zfd m g f l a (b.sim (Qu e))
 .have j:0<Xs (Xd (sqf F xs)):=by have o:=Zay e n;have w:=Mw (Xd (sqf F xs));omega
  refine Zjt (Xs _) f2 (Xg e) f3 i.2.2 (by exact_mod_cast j) (λx=>?_) λq l a b=>?_
  .rw [<-Ki,<-Zj];grind [Ng,Qt,Int.mul_comm,Fl]
  .exact Zfd m g f l a (b.sim (Qu e))
theorem Ymr{s g:List Int}(a0:∀x:Rat,Zc p x=Zc s x*Zc g x)(hg:Tr g)(W:g≠[])(v:Ed g (ld p))(l:Irr q)(G:Ed q p):Ed q s:=by
 refine bC λj=>?_;have f:=l.1;have D:=l.2.1;have F:¬Ed q (ld q):=λh=>by have Z:Ed q (Xd q):=h.congr λx=>(Ki q x).symm;have hl:=Nt q;have:=(Z.len f (Mh f) (λe=>O4)).2;omega
 obtain⟨c1,m1,k1,e1⟩:=G;obtain⟨i,m,k2,S⟩:=v;have I:∀k,Ed (Cf q k) g:=λk=>by
  induction k with
  | zero=>exact⟨1,g,O,λx=>by rw [show Cf q 0=[1]from rfl,Pt];simp⟩
  | succ k ih=>
   cases k with
   | zero=>
    have o:Ed q g:=(Zdo s g m1 l k1 (λx=>O4)).resolve_left j;exact o.congr_l λx=>by rw [Cd,show Cf q 0=[1]from rfl,Pt];simp
   | succ k=>
    obtain⟨c,u,kc,eu⟩:=ih;have hd:∀x:Rat,(c:Rat)*Zc (ld g) x=Zc (ld u) x*Zc (Cf q (k+1)) x+Zc u x*(((k:Rat)+1)*(Zc (Cf q k) x*Zc (ld q) x)):=λx=>by have:=Ce (g.map λa=>c*a) (lmul u (Cf q (k+1))) (λy=>by grind [Zj,Zz]) x;grind [Ar,Cy,Zos]
    have hp:∀x:Rat,Zc (ld p) x=Zc (ld s) x*Zc g x+Zc s x*Zc (ld g) x:=λx=>by have:=Ce p (lmul s g) (λy=>by grind [Zz]) x;grind [Cy]
    have hz:∀x:Rat,Zc (Ma ((lmul (lmul s u) (ld q)).map λa=>(i*((k:Int)+1))*a) ((lmul (Ma ((lmul s (ld u)).map λa=>i*a) ((lmul (Ma m ((ld s).map λa=>(-i)*a)) u).map λa=>(-1)*a)) q))) x=0:=λx=>by
     refine Eb (Cf q k) (λe=>?_) (λx=>?_) x
     .grind [Zam,Zce]
     .rw [Xh,Zj,Zz,Zz,Zz,Xh,Zj,Zz,Zj,Zz,Xh,Zj];have M:=S x;have N:=hp x;have P:=hd x;have R:=eu x;rw [Cd]at P R;push_cast;grind
    have o:=Zdo (lmul s u) (ld q) (Ma ((lmul (Ma m ((ld s).map λa=>(-i)*a)) u)) ((lmul s (ld u)).map λa=>(-i)*a)) (k:=i*((k:Int)+1)) l (bD k2 O) (λx=>by have:=hz x;rw [Xh,Zj,Zz,Zz,Zz,Xh,Zj,Zz,Zj,Zz,Xh,Zj]at this;rw [Zz,Xh,Zz,Xh,Zj,Zj,Zz];grind)
    have Y:Ed q u:=by obtain⟨n,w,H,V⟩:=o.resolve_right F;exact(Zdo s u w (k:=n) l H (λx=>by grind [Zz])).resolve_left j
    obtain⟨n,w,H,V⟩:=Y;refine⟨n*c,w,bD H kc,λx=>?_⟩;grind [Cd]
 obtain⟨M,N⟩:=Zce f D g.length;have:=((I g.length).len M hg W).2;omega
theorem Ymc(f:d≠0):Irr [-r,d]:=by have e:Tr [-r,d]:= .inr f;refine⟨e,O7,λq h g=>?_⟩;have:=(g.len h e O7).2;grind
theorem Zir(r d:Int)(x:Rat):Zc [-r,d] x=(d:Rat)*x-r:=by show((-r))+x*((d)+x*0)=_;grind
theorem Ylh(n:Tr p)(g:d≠0)(h:Zc p ((r:Rat)/d)=0):Ed [-r,d] p:=by
 have i:(d:Rat)≠0:=O10;have m:Tr [-r,d]:= .inr g;obtain⟨k,s,hs⟩:=Zav p (q:=[-r,d]) O7;have e:=Ii (m.mem O7) k;generalize cf _ _^k=L at hs e;have j:∀x,(L)*Zc p x=Zc s x*Zc [-r,d] x+Zc (Qr p [-r,d]) x:=λx=>by have:=Dt L (-1) p s [-r,d] (Qr p [-r,d]) (λt=>O4) x;grind
 have l:=Pq p (q:=[-r,d]) O7;have o:∀x,Zc (Qr p _) x=0:=λx=>by
  have f:=j ((r)/d);rw [Zir]at f
  match hr:Qr p _,l with
  | [],_=>rfl
  | [c],_=>
   grind [Pt]
 exact⟨L,s,e,λx=>O4⟩
theorem Ed.root(g:d≠0)(h:Ed [-r,d] p):Zc p ((r:Rat)/d)=0:=by obtain⟨k,s,i,h⟩:=h;have e:(d:Rat)≠0:=O10;have f:(k:Rat)≠0:=O10;grind [Zir]
theorem Yd1{F:Nat}(g:Tr xs)(j:xs≠[])(f:eok F (gA (Xr xs) (Xd (Xr xs))) (gB (Xr xs) (Xd (Xr xs))))(i:d≠0)(h:Zc xs ((r:Rat)/d)=0):Zc (sqf F xs) ((r:Rat)/d)=0:=by
 obtain⟨f1,f2,f3,f4,f5,f6⟩:=Nf _ g j f;have hs:=Nw (Xg g);have e:=Mh hs;have l:=(Ylh g i h).sim ((Qu g).symm.trans (Iy _).symm);have m:∀x,Zc (Xr xs) x=Zc (sqf F xs) x*Zc (Mt F (Xr xs) (Xd (Xr xs))) x:=λx=>by grind [Xm]
 have n:=((Zde hs e f).2.ed).congr λx=>Ki _ x;exact(Ymr m (Zfc _ hs e) f5 n (Ymc i) l).root i
def Away(s t:Rat)(f:Rat->Rat):Prop:=∃δ:Rat,0<δ/\∀x,s<=x->x<=t->δ<=f x\/f x<=-δ
theorem Away.mul{f g h:Rat->Rat}(y:Away s t f)(D:Away s t g)(e:∀x,h x=f x*g x):Away s t h:=by
 obtain⟨a,l,m⟩:=y;obtain⟨b,n,o⟩:=D;refine⟨a*b,aV l n,λx i j=>?_⟩;rcases m x i j with v|v<;>rcases o x i j with w|w
 .have:=aG (a:=f x-a) (b:=g x) O4 O4;have:=aG (a:=a) (b:=g x-b) O4 O4;grind
 .have:=aG (a:=f x-a) (b:=- g x) O4 O4;have:=aG (a:=a) (b:=- g x-b) O4 O4;grind
 .have:=aG (a:=- f x-a) (b:=g x) O4 O4;have:=aG (a:=a) (b:=g x-b) O4 O4;grind
 .have:=aG (a:=- f x-a) (b:=- g x) O4 O4;have:=aG (a:=a) (b:=- g x-b) O4 O4;grind
theorem Away.lin(g:0<d)(h:(r:Rat)<d*s\/(d:Rat)*t<r):Away s t (Zc [-r,d]):=by
 have i:(0)<(d:Rat):=by exact_mod_cast g
 rcases h with h|h
 .refine⟨d*s-r,O4,λx e f=> .inl ?_⟩;rw [Zir];have:=aG (a:=(d)) (b:=x-s) O4 O4;grind
 .refine⟨r-d*t,O4,λx e f=> .inr ?_⟩;rw [Zir];have:=aG (a:=(d)) (b:=t-x) O4 O4;grind
theorem Away.sq(s t:Rat):Away s t (Zc [1,0,1]):=⟨1,by rfl,λx _ _=>by
 left;show(1)<=((1))+x*(((0))+x*(((1))+x*0));have:0<=x*x:=by
  rcases(show 0<=x\/x<0 by grind)with h|h
  .grind [Rat.mul_nonneg]
  .have:=aG (a:=-x) (b:=-x) O4 O4;grind
 grind⟩
theorem Away.one(s t:Rat):Away s t (Zc [1]):=⟨1,by rfl,λx _ _=>by grind [Pt,Rat.le_refl]⟩
def cntP(P:Int->Prop)[DecidablePred P](m:Int):Nat->Int
 | 0=>0
 | n+1=>cntP P m n+(if P (m+n+1)then 1 else 0)
def eB(K C:Nat):Nat->Nat
 | 0=>0
 | n+1=>C+K*eB K C n
def eL(K C:Nat):Nat->Nat
 | 0=>0
 | n+1=>K*eL K C n+eB K C n
def eM(K C:Nat):Nat->Nat
 | 0=>0
 | n+1=>eL K C n+K*eM K C n
theorem Fx{a b:Nat}(h:a<=b):(a:Rat)<=(b:Rat):=by exact_mod_cast h
theorem Yi1{C:Nat}(h:c.natAbs<=C):-(C:Rat)<=(c:Rat)/\(c:Rat)<=(C:Rat):=by
 have e:((-(C:Int)))<=(c:Rat):=by exact_mod_cast (show -(C)<=c by omega)
 have f:(c:Rat)<=(C):=by exact_mod_cast (show c<=(C) by omega)
 push_cast at e f
 all_goals grind
def Zql{C:Nat}(h:∀i,(cf (c::p) i).natAbs<=C):c.natAbs<=C/\∀i,(cf p i).natAbs<=C:=⟨h 0,λi=>h (i+1)⟩
theorem Zop{K C:Nat} : ∀(n:Nat) (p:List Int),p.length<=n->(∀i,(cf p i).natAbs<=C)->∀x:Rat,-(K:Rat)<=x->x<=(K:Rat)->-(eB K C n:Rat)<=Zc p x/\Zc p x<=(eB K C n:Rat)
 | n,[],_,_,x,_,_=>by
  show -(eB K C n:Rat)<=0/\(0:Rat)<=(eB K C n)
  all_goals grind
 | 0,c::p,hl,_,_,_,_=>absurd hl O7
 | n+1,c::p,hl,hc,x,h1,h2=>by
  obtain⟨f,g⟩:=Zql hc;obtain⟨h,j⟩:=Zop n p (by simpa using hl) g x h1 h2;obtain⟨m,o⟩:=Yi1 f;have l:(0:Rat)<=(K):=Fx (bH _);obtain⟨f1,f2⟩:=Zbz h1 h2 h j l;have e:((eB K C (n+1)))=(C:Rat)+(K)*(eB K C n):=by show((C+K*eB K C n:Nat):Rat)=_;push_cast;rfl
  rw [show Zc _ x=(c)+x*Zc p x from rfl];constructor<;>grind
theorem Zoo{K C:Nat} : ∀(n:Nat) (p:List Int),p.length<=n->(∀i,(cf p i).natAbs<=C)->Lip (-(K:Rat)) (K:Rat) (eL K C n:Rat) (Zc p)
 | n,[],_,_,x,y,_,j,_=>by
  have h:(0:Rat)<=(eL K C n):=Fx (bH _);have:=aG (b:=y-x) h O4;show(0:Rat)-0<=_/\(0:Rat)-0<=_
  all_goals grind
 | 0,c::p,hl,_,_,_,_,_,_=>absurd hl O7
 | n+1,c::p,hl,hc,x,y,h1,j,h2=>by
  obtain⟨m,f⟩:=Zql hc;obtain⟨o,v⟩:=Zoo n p O4 f x y h1 j h2;obtain⟨w,D⟩:=Zop n p O4 f y O4 h2;have l:(0:Rat)<=(K:Rat):=Fx (bH _);obtain⟨f1,f2⟩:=Zbz (q:=x) (g:=Zc p x-Zc p y) (e:=(eL K C n)*(y-x)) h1 O4 O4 O4 l;have F:=aG (a:=(eB K C n)-Zc p y) (b:=y-x) O4 O4;have G:=aG (a:=(eB K C n)+Zc p y) (b:=y-x) O4 O4;have e:((eL K C (n+1):Nat))=(K:Rat)*(eL K C n)+(eB K C n):=by show((K*eL K C n+eB K C n:Nat):Rat)=_;simp
  rw [e,show Zc (c::p) x=(c:Rat)+x*Zc p x from rfl,show Zc (c::p) y=(c:Rat)+y*Zc p y from rfl]
  all_goals grind
theorem Yey{K C:Nat} : ∀(n:Nat) (p:List Int),p.length<=n->(∀i,(cf p i).natAbs<=C)->Tay (-(K:Rat)) (K:Rat) (eM K C n:Rat) p
 | n,[],_,_,x,y,_,f,_=>by
  have h:(0:Rat)<=(eM K C n):=Fx (bH _);have o:=aG (a:=y-x) (b:=y-x) O4 O4;have:=aG h o;show -((eM K C n)*(y-x)*(y-x))<=(0:Rat)-0-(y-x)*0/\(0:Rat)-0-(y-x)*0<=(eM K C n)*(y-x)*(y-x)
  all_goals grind
 | 0,c::p,hl,_,_,_,_,_,_=>absurd hl O7
 | n+1,c::p,hl,hc,x,y,hs,f,ht=>by
  obtain⟨w,g⟩:=Zql hc;obtain⟨l,m⟩:=Yey n p O4 g x y hs f ht;obtain⟨D,F⟩:=Zoo n p O4 g x y hs f ht;have v:(0)<=(K:Rat):=Fx (bH _);have j:0<=y-x:=O4;obtain⟨f1,f2⟩:=Zbz (q:=x) hs O4 l m v;have G:=aG (b:=(eL K C n)*(y-x)-(Zc p y-Zc p x)) j O4;have H:=aG (b:=(eL K C n)*(y-x)+(Zc p y-Zc p x)) j O4;have e:((eM K C (n+1):Nat))=(eL K C n)+(K:Rat)*(eM K C n):=by show((eL K C n+K*eM K C n:Nat):Rat)=_;simp
  rw [e,Zfl,show Zc (c::p) y=(c)+y*Zc p y from rfl,show Zc (c::p) x=(c)+x*Zc p x from rfl]
  all_goals grind
theorem Zwt{A:Nat}(j:Tr a)(W:Tr b)(la:2<=a.length)(lb:b.length+1=a.length)(N:0<A)(na:∀i,(cf a i).natAbs<=A)(nb:∀i,(cf b i).natAbs<=A)(Y:∀q,Tr q->Ed q a->Ed q b->q.length<=1) :
  ∃(U V:List Int) (c:Int),c≠0/\U.length+2=a.length/\V.length+1=a.length/\(∀i,(cf U i).natAbs<=(2*(2*a.length-3)*A)^(2*a.length-4))/\(∀i,(cf V i).natAbs<=(2*(2*a.length-3)*A)^(2*a.length-4))/\
   ∀x,(c:Rat)=Zc U x*Zc a x+Zc V x*Zc b x:=by
 obtain⟨U,V,lU,lV,m,n,o,hz⟩:=Zhz a b 1 (p:=a.length-2) (q:=a.length-1) N na nb O O O;have F:¬(tzl U=[]/\tzl V=[]):=λ⟨h1,h2⟩=>by grind [Kx]
 clear m;rw [show a.length-2+(a.length-1)=2*a.length-3 by omega]at n o;have h:a≠[]:=λe=>O4;have H:∀i,cf (Ma (lmul U a) (lmul V b)) i=(ps U*ps a).c i+(ps V*ps b).c i:=λi=>by rw [Mz,El,El,PS.mul_c,PS.mul_c];rfl
 have G:∀t,Zc (Ma (lmul U a) (lmul V b)) t=Zc U t*Zc a t+Zc V t*Zc b t:=λt=>by grind [Xh,Zz]
 generalize Ma (lmul U a) (lmul V b)=R at H G;have S:∀t,Zc R t=(cf R 0:Rat):=λt=>by
  rw [<-Pt (cf R 0) t];refine Ng t _ _ λi=>?_
  match i with
  | 0=>rfl
  | i+1=>grind [Yw]
 refine⟨U,V,cf R 0,λM=>?_,O,O,n,o,λx=>O4⟩;have a0:∀t,Zc U t*Zc a t+Zc V t*Zc b t=0:=λt=>by rw [<-G,S,M];rfl
 obtain⟨g,P,Q,f,v,I,w⟩:=Zly _ a b j W (aI _);have hl:=Y g f v I;have hg:=(v.len f j h).1;have D:tzl V=[]:=by
  refine bC λD=>?_
  match g,hg,hl,f,w with
  | [c],_,_,f,w=>
   have l:c≠0:=f.mem O7;have Z:Ed a (tzl V):=⟨c,Ma (lmul P V) ((lmul Q U).map λz=>(-1)*z),l,λx=>by grind [Pt,Lk,Xh,Zj,Zz]⟩
   have:=(Z.len j (Qp V) D).2;grind [Hm]
  | c::d::r,_,h9,_,_=>grind
 have y:tzl U=[]:=by
  refine bC λy=>?_;have:∀t,Zc a t=0:=Eb U y λt=>by grind [Aq]
  exact j.mem h (Zor this _)
 grind
def Zx2(K A n e:Nat):Bool:=
 let X:=(2*(2*n-3)*A)^(2*n-4);let W:=eB K X (n-1)
 Nat.ble (2*(2*W+1)*(2*eL K A n)) (2^e) && Nat.ble (2*(2*W+1)*eM K A n) (2^e)
theorem big_or  {A n e:Nat} (hK:0<K) (F:0<A) (G:Tr a) (H:Tr b) (N:a.length=n) (h2:2<=n) (S:b.length+1=a.length) (Y:∀i,(cf a i).natAbs<=A) (Z:∀i,(cf b i).natAbs<=A) (I:∀q,Tr q->Ed q a->Ed q b->q.length<=1)
  (x:Rat) (j:-(K:Rat)<=x) (l:x<=(K:Rat)):Big (1/((2*eB K ((2*(2*n-3)*A)^(2*n-4)) (n-1)+1:Nat):Rat)) x (Zc a)\/Big (1/((2*eB K ((2*(2*n-3)*A)^(2*n-4)) (n-1)+1:Nat):Rat)) x (Zc b):=by
 obtain⟨U,V,c,D,lU,lV,f,g,M⟩:=Zwt G H O S F Y Z I;rw [N]at f g;generalize (2*(2*n-3)*A)^(2*n-4)=X at *;obtain⟨u1,u2⟩:=Zop (n-1) U O f x j l;obtain⟨v1,v2⟩:=Zop (n-1) V O g x j l;generalize eB K X (n-1)=W at *;have m:(0:Rat)<=(W:Rat):=Fx (bH _);generalize hε:1/((2*W+1):Rat)=ε;have P:0<=ε:=by grind [Rat.inv_pos,Rat.div_def]
 by_cases p1:Big ε x (Zc a)
 .grind
 .by_cases p2:Big ε x (Zc b)
  .grind
  .obtain⟨o,v⟩:=Zdh p1;obtain⟨w,y⟩:=Zdh p2;obtain⟨q1,q2⟩:=Zbz u1 u2 o v m;obtain⟨r1,r2⟩:=Zbz v1 v2 w y m;have h5:(c:Rat)<=-1\/1<=(c:Rat):=by
    rcases lL D with h|h
    .left;have:((c:Int):Rat)<=((-1:Int)):=by exact_mod_cast (show c<=-1 by omega)
     grind
    .right;have:=O;exact_mod_cast this
   have R:0<ε:=by grind
   all_goals grind
theorem two_pow_pos(e:Nat):(0:Rat)<((2^e:Nat):Rat):=by have:0<2^e:=bR O;exact_mod_cast this
theorem Yn5  {F A n e:Nat} (hx:Tr xs) (h0:xs≠[]) (hC:Ak F xs) (hK:0<K) (hA:0<A) (hn:(sqf F xs).length=n) (h2:2<=n) (V:∀i,(cf (sqf F xs) i).natAbs<=A) (nb:∀i,(cf (Xd (sqf F xs)) i).natAbs<=A) (hs:Zx2 K A n e=true)
  {u v:Rat} (h1:-(K:Rat)<=u) (S:u<=v) (h3:v<=(K:Rat)) (hh:v-u<=1/((2^e:Nat):Rat)) :
  vat ((chn F xs).map Zc) u-vat ((chn F xs).map Zc) v=crs (Zc (sqf F xs)) u v:=by
 have w:=hC.1.2.2.1;obtain⟨f1,f2,f3,f4,f5,f6⟩:=Nf F hx h0 w;have f:=Mh f2;have a1:=Nt (sqf F xs);have hd:Xd (sqf F xs)≠[]:=λe=>O4;have R:1<=Xs (Xd (sqf F xs)):=by have h1:=Zay f hd;have h2:=Mw (Xd (sqf F xs));omega
 have a0:(1:Rat)<=(Xs (Xd (sqf F xs)):Rat):=by exact_mod_cast R
 have y:∀i,(cf (Yu (Xd (sqf F xs))) i).natAbs<=A:=λi=>by have h5:=Fl (Xd (sqf F xs)) i;have h6:=nb i;rw [<-h5,bQ]at h6;have:(cf (Yu (Xd (sqf F xs))) i).natAbs*1<=(cf (Yu (Xd (sqf F xs))) i).natAbs*(Xs (Xd (sqf F xs))).natAbs:=bB _ O;omega
 have l:∀q,Tr q->Ed q (sqf F xs)->Ed q (Yu (Xd (sqf F xs)))->q.length<=1:=λq hq a b=>Zfd hx h0 w hq a (b.sim (Qu f));have N:(Yu (Xd (sqf F xs))).length+1=(sqf F xs).length:=by grind [Yo]
 have g:=big_or (e:=e) hK hA f2 (Xg f) hn h2 N V y l;unfold Zx2 at hs;simp only [aQ,Nat.ble_eq]at hs;obtain⟨s1,s2⟩:=hs;generalize (2*(2*n-3)*A)^(2*n-4)=X at *;generalize eB K X (n-1)=W at *;have hD:(0:Rat)<((2*W+1:Nat):Rat):=by grind
 have hP:=two_pow_pos e;have Y:=Fx s1;have Z:=Fx s2;have c1:((2*(2*W+1)*(2*eL K A n):Nat):Rat)=2*((2*W+1:Nat):Rat)*(2*(eL K A n:Rat)):=O7;have c2:((2*(2*W+1)*eM K A n:Nat):Rat)=2*((2*W+1:Nat):Rat)*(eM K A n:Rat):=O7;rw [c1]at Y;rw [c2]at Z;have hi:=fD.2 hD;have I:=fD.2 hP;have m:((2*W+1:Nat):Rat)*((2*W+1:Nat):Rat)⁻¹=1:=O4;have o:((2^e:Nat):Rat)*((2^e:Nat):Rat)⁻¹=1:=O4;rw [kZ,Rat.one_mul]at hh;simp only [kZ,Rat.one_mul]at g;generalize ((2*W+1:Nat):Rat)=D at *;generalize ((2^e:Nat):Rat)=P at *;have j:(0:Rat)<=(eL K A n:Rat):=Fx (bH _);have H:(0:Rat)<=(eM K A n:Rat):=Fx (bH _);refine Zhx (s:=-(K:Rat)) (t:=(K:Rat)) (κ:=(Xs (Xd (sqf F xs)):Rat)) (ε:=D⁻¹) (L:=(eL K A n:Rat)) (L':=(eL K A n:Rat)) (M:=(eM K A n:Rat)) (h:=P⁻¹) f2 (Xg f) hC.2.2 O4 (λx=>?_) hi g j (Zoo n _ O V) j (Zoo n _ O y) H (Yey n _ O V) I ?_ ?_ h1 S h3 hh
 .rw [<-Ki,<-Zj];grind [Ng,Qt,Int.mul_comm,Fl]
 .-- P⁻¹ * (2 L) ≤ D⁻¹ / 2
  have t1:=aG (a:=P⁻¹*D⁻¹) (b:=P-2*D*(2*(eL K A n:Rat))) (by have:=aV I hi;grind) O4;have G:P⁻¹*D⁻¹*(P-2*D*(2*(eL K A n:Rat)))=D⁻¹*(P*P⁻¹)-2*P⁻¹*(D*D⁻¹)*(2*(eL K A n:Rat)):=O4;rw [G,m,o]at t1;grind
 .have t1:=aG (a:=P⁻¹*D⁻¹) (b:=P-2*D*(eM K A n:Rat)) (by have:=aV I hi;grind) O4;have G:P⁻¹*D⁻¹*(P-2*D*(eM K A n:Rat))=D⁻¹*(P*P⁻¹)-2*P⁻¹*(D*D⁻¹)*(eM K A n:Rat):=O4;rw [G,m,o]at t1;have t2:=aG (a:=(Xs (Xd (sqf F xs)):Rat)-1) (b:=D⁻¹) O4 O4;grind
theorem Zlu{F:Nat}(H:Tr xs)(m:xs≠[])(D:Ak F xs)(G:s<=t):vat ((chn F xs).map Zc) t<=vat ((chn F xs).map Zc) s:=by
 obtain⟨h,o,N⟩:=Zlt H m D s t;have P:∀f u v,0<=crs f u v:=λf u v=>by unfold crs;all_goals omega
 have M:∀n:Nat,∀y,s<=y->y<=t->y-s<=(n:Rat)*h->vat ((chn F xs).map Zc) y<=vat ((chn F xs).map Zc) s:=λn=>by
  induction n with
  | zero=>
    grind
  | succ n I=>
   intro y e w g;have i:((n+1:Nat):Rat)*h=(n:Rat)*h+h:=O4;rcases(show y-s<=(n:Rat)*h\/(n:Rat)*h<y-s by grind)with j|j
   .grind
   .have x:(0:Rat)<=(n:Rat)*h:=aG O4 O4;rcases(show s<=y-h\/y-h<s by grind)with l|l
    .have a:=I (y-h) l O4 O4;grind
    grind
 have e:∃n:Nat,t-s<=(n:Rat)*h:=by
  have w:0<h⁻¹:=fD.2 o;refine⟨((t-s)*h⁻¹).ceil.toNat,?_⟩;have g:=@mN ((t-s)*h⁻¹);have i:((((t-s)*h⁻¹).ceil:Int):Rat)<=((((t-s)*h⁻¹).ceil.toNat:Nat):Rat):=by have:((t-s)*h⁻¹).ceil<=((((t-s)*h⁻¹).ceil.toNat:Nat):Int):=jV _;exact_mod_cast this
  have j:=dI (mD g i) (show 0<=h by grind);have x:(t-s)*h⁻¹*h=t-s:=O4;grind
 obtain⟨n,R⟩:=e;grind
def qv(z:R2):Rat:=(z.1:Rat)/(z.2:Rat)
theorem Zuc{x y X Y g:Nat}(F:g=Nat.gcd x y)(H:0<y)(D:0<Y)(h:x*Y=X*y):y/g∣Y/\x/g<=X:=by
 have f:0<g:=O4;have n:Nat.Coprime (x/g) (y/g):=by grind [Nat.coprime_div_gcd_div_gcd]
 have o:x/g*g=x:=lM (by grind [Nat.gcd_dvd_left]);have v:y/g*g=y:=lM (by grind [Nat.gcd_dvd_right]);have w:x/g*Y=X*(y/g):=by refine jL f ?_;grind
 have l:y/g∣Y:=n.symm.dvd_of_dvd_mul_left (by grind [Nat.dvd_mul_left]);refine⟨l,?_⟩;obtain⟨k,G⟩:=l;have i:0<k:=lN λe=>O4;have j:0<y/g:=lN λe=>O4;have m:x/g*k=X:=by refine jL j ?_;grind
 rw [<-m];exact eF _ i
theorem Zpe{x y X Y:Int}(m:0<y)(F:0<Y)(h:x*Y=X*y)(j:bl X.natAbs<=B)(e:bl Y.natAbs<=B)(D:B<=65536) :
  ¬Lb x y/\Ir x y∣Y/\0<Ir x y/\bl (Gn x y).natAbs<=B/\bl (Ir x y).natAbs<=B/\Gn x y*y=x*Ir x y:=by
 have G:Lf x y=(Nat.gcd x.natAbs y.natAbs):=by rw [Yme O];rfl
 have l:x.natAbs*Y.natAbs=X.natAbs*y.natAbs:=by rw [<-bQ,<-bQ,h]
 obtain⟨g,v⟩:=Zuc rfl O O l;have i:(y/Lf x y).natAbs=y.natAbs/Nat.gcd x.natAbs y.natAbs:=by grind
 have w:(x/Lf x y).natAbs=x.natAbs/Nat.gcd x.natAbs y.natAbs:=by grind [Int.natAbs_ediv_of_dvd,Zs1,Zf1]
 have n:bl (y/Lf x y).natAbs<=B:=aB (Ll (by rw [i];exact jY O g)) e;have o:bl (x/Lf x y).natAbs<=B:=aB (Ll O) j;have f:¬Lb x y:=λh=>by unfold Lb at h;omega
 obtain⟨H,I,-⟩:=Zbl f;refine⟨f,?_,Zo8 f m,O4,O4,?_⟩
 all_goals grind [Int.natAbs_dvd_natAbs,Ygh]
structure En (K Q:Nat) (d:Nat) (z:R2):Prop where
 pos:0<z.2
 dv:z.2∣((Q*2^d:Nat):Int)
 lo:-(K:Rat)<=qv z
 hi:qv z<=(K:Rat)
theorem En.up{d:Nat}(h:En K Q d z):En K Q (d+1) z:=by obtain⟨e,i,f,g⟩:=h;refine⟨e,?_,f,g⟩;have:((Q*2^(d+1):Nat))=((Q*2^d):Int)*2:=O4;rw [this];grind [Int.dvd_trans,Int.dvd_mul_right]
theorem canc{N p s Y X D:Int}(e:p≠0)(f:N*p=s*D)(g:s*Y=X*p):N*Y=X*D:=by refine jM e ?_;grind
theorem Ge{z:Int}(h:0<z):(0:Rat)<(z:Rat):=by exact_mod_cast h
def Zc4{n m:Nat}(h:n<2^m):bl n<=m:=(Qs m n).2 h
theorem mid_en{d:Nat}{a b:R2}(ha:En K Q d a)(hb:En K Q d b)(hQ:0<Q)(Z:Q*2^(d+1)<2^B)(a0:2*K*(Q*2^d)<2^B)(I:B<=65536) :
  Zd7 a b/\En K Q (d+1) (Ps a b)/\qv (Ps a b)=(qv a+qv b)/2/\bl (Ps a b).1.natAbs<=B/\bl (Ps a b).2.natAbs<=B:=by
 obtain⟨M,⟨e,da⟩,la,ua⟩:=ha;obtain⟨N,⟨f,P⟩,lb,ub⟩:=hb;generalize hY:((Q*2^d:Nat):Int)=Y at *;have a2:0<Q*2^d:=gL hQ (bR O);have i:0<Y:=O;have a8:=Ge M;have a9:=Ge N;have rY:=Ge i;have v:0<a.2*b.2:=fC M N;have g:(a.1*b.2+b.1*a.2)*Y=(a.1*e+b.1*f)*(a.2*b.2):=by grind
 have a5:(a.1:Rat)*e=qv a*Y:=by unfold qv;have:(Y:Rat)=(a.2:Rat)*e:=O10;grind
 have a6:(b.1:Rat)*f=qv b*Y:=by
  unfold qv;have:(Y:Rat)=(b.2:Rat)*f:=by rw [P];simp
  grind
 have D:((a.1*e+b.1*f:Int):Rat)=(qv a+qv b)*Y:=O4;have a3:(a.1*e+b.1*f).natAbs<=2*K*(Q*2^d):=by
  have h:((2*K*(Q*2^d):Nat):Rat)=2*(K:Rat)*(Y:Rat):=by rw [<-hY];push_cast;rfl
  have t1:=aG (a:=2*(K:Rat)-(qv a+qv b)) (b:=(Y:Rat)) O4 O4;have t2:=aG (a:=2*(K:Rat)+(qv a+qv b)) (b:=(Y:Rat)) O4 O4;have u1:((a.1*e+b.1*f:Int):Rat)<=(((2*K*(Q*2^d):Nat):Int):Rat):=by rw [D];push_cast at h ⊢;grind
  have u2:((-((2*K*(Q*2^d):Nat):Int):Int):Rat)<=((a.1*e+b.1*f:Int):Rat):=by rw [D];push_cast at h ⊢;grind
  have v1:a.1*e+b.1*f<=((2*K*(Q*2^d):Nat):Int):=by exact_mod_cast u1
  have v2:-((2*K*(Q*2^d):Nat):Int)<=a.1*e+b.1*f:=by exact_mod_cast u2
  omega
 have a4:Y.natAbs=Q*2^d:=O;have a1:Q*2^(d+1)=2*(Q*2^d):=O4;have F:bl Y.natAbs<=B:=Zc4 O;have j:bl (a.1*e+b.1*f).natAbs<=B:=Zc4 O;obtain⟨f1,f2,f3,f4,f5,f6⟩:=Zpe v i g j F I;have a7:=canc (Int.ne_of_gt v) f6 g;have l:bl (2*Y).natAbs<=B:=Zc4 O4;have w:Gn (a.1*b.2+b.1*a.2) (a.2*b.2)*1*(2*Y)=(a.1*e+b.1*f)*(Ir (a.1*b.2+b.1*a.2) (a.2*b.2)*2):=by grind
 have o:0<Ir (a.1*b.2+b.1*a.2) (a.2*b.2)*2:=O;obtain⟨R,S,y,G,H,V⟩:=Zpe o (by omega:0<2*Y) w j l I;have x:=canc (Int.ne_of_gt o) V w;have m:(Ps a b).1=Gn (Gn (a.1*b.2+b.1*a.2) (a.2*b.2)*1) (Ir (a.1*b.2+b.1*a.2) (a.2*b.2)*2):=rfl;have n:(Ps a b).2=Ir (Gn (a.1*b.2+b.1*a.2) (a.2*b.2)*1) (Ir (a.1*b.2+b.1*a.2) (a.2*b.2)*2):=rfl;rw [<-m,<-n]at x;rw [<-n]at S y H;rw [<-m]at G;have hq:qv (Ps a b)=(qv a+qv b)/2:=by
  have W:(((Ps a b).1:Int):Rat)*(2*(Y:Rat))=((a.1*e+b.1*f:Int):Rat)*(((Ps a b).2:Int):Rat):=by
   have:(((Ps a b).1*(2*Y):Int):Rat)=(((a.1*e+b.1*f)*(Ps a b).2:Int):Rat):=by rw [x]
   grind
  rw [D]at W;have rd:=Ge y;unfold qv at *;grind
 refine⟨⟨f1,R⟩,⟨y,?_,O4,O4⟩,hq,G,H⟩;grind
def vch(F:Nat)(xs:List Int)(x:Rat):Int:=vat ((chn F xs).map Zc) x
def cvc_v{F:Nat}(h:0<z.2):cvc F xs z=vch F xs (qv z):=Ynv h
def Sqn(P:R2->R2->Prop)(hi:Rat):Rat->List (R2×R2)->Prop
 | e,[]=>e<=hi
 | e,c::r=>e<=qv c.1/\qv c.1<qv c.2/\P c.1 c.2/\Sqn P hi (qv c.2) r
theorem Sqn.le{P:R2->R2->Prop}{hi:Rat} : ∀{e:Rat} {l:List (R2×R2)},Sqn P hi e l->e<=hi
 | e,[],h=>h
 | e,c::r,h=>by have:=Sqn.le h.2.2.2;have:=h.1;have:=h.2.1;grind
theorem Sqn.low{P:R2->R2->Prop}{hi:Rat}{f e:Rat}(g:e<=f):∀{l:List (R2×R2)},Sqn P hi f l->Sqn P hi e l
 | [],h=>by have h:f<=hi:=h;show e<=hi;grind
 | c::r,h=>⟨by have:=h.1;grind,h.2⟩
def Sqn.app{P:R2->R2->Prop}{e hi:Rat}{j:List (R2×R2)}(g:Sqn P hi e j):∀{f:Rat} {i:List (R2×R2)},Sqn P e f i->Sqn P hi f (i ++ j)
 | f,[],h=>g.low h
 | f,c::r,h=>⟨h.1,h.2.1,h.2.2.1,Sqn.app g h.2.2.2⟩
theorem Zot{a:R2}(m:0<a.2)(h:a.1.natAbs<=K):-(K:Rat)<=qv a/\qv a<=(K:Rat):=by
 obtain⟨j,l⟩:=Yi1 h;have n:(1:Rat)<=(a.2):=by exact_mod_cast (show 1<=a.2 by omega)
 have e:(0)<=(K:Rat):=Fx (bH _);have hi:=fD.2 (show 0<(a.2:Rat) by grind);have f:(a.2)*(a.2:Rat)⁻¹=1:=O4;unfold qv;have t1:=aG (a:=(a.2)⁻¹) (b:=(K)*a.2-a.1) O4 (by have:=aG (b:=(a.2)-1) e O4;grind);have t2:=aG (a:=(a.2)⁻¹) (b:=(K)*a.2+a.1) O4 (by have:=aG (b:=(a.2)-1) e O4;grind);have g:(a.2:Rat)⁻¹*((K)*a.2-a.1)=(K)*(a.2*(a.2:Rat)⁻¹)-a.1*(a.2:Rat)⁻¹:=O4;have i:(a.2:Rat)⁻¹*((K)*a.2+a.1)=(K)*(a.2*(a.2:Rat)⁻¹)+a.1*(a.2:Rat)⁻¹:=O4;rw [g,f]at t1;rw [i,f]at t2
 all_goals grind
theorem Zb8{a:R2}{n:Nat}(e:0<a.2)(f:bl a.1.natAbs<=n)(g:bl a.2.natAbs<=n)(h:n<=65536) :
  ¬Lb a.1 a.2/\0<(slow a).2/\bl (slow a).1.natAbs<=n/\bl (slow a).2.natAbs<=n/\qv (slow a)=qv a:=by
 obtain⟨f1,f2,f3,f4,f5,f6⟩:=Zpe e e rfl f g h;refine⟨f1,f3,f4,f5,?_⟩;have r1:=Ge e;have r2:=Ge f3;have i:((Gn a.1 a.2))*(a.2:Rat)=(a.1)*((Ir a.1 a.2)):=by exact_mod_cast f6
 show((Gn a.1 a.2))/((Ir a.1 a.2))=(a.1)/(a.2:Rat);grind
theorem sep_of  {F A e:Nat} (D:Tr xs) (l:xs≠[]) (w:Ak F xs) (x:0<K) (o:0<A) (G:∀i,(cf (sqf F xs) i).natAbs<=A) (H:∀i,(cf (Xd (sqf F xs)) i).natAbs<=A)
  (hs:2<=(sqf F xs).length->Zx2 K A (sqf F xs).length e=true) (u v:Rat) (m:-(K:Rat)<=u) (f:u<=v) (n:v<=(K:Rat)) (y:v-u<=1/((2^e:Nat):Rat)):vch F xs u-vch F xs v<=1:=by
 by_cases j:2<=(sqf F xs).length
 .have h:=Yn5 D l w x o rfl j G H (hs j) m f n y;show vat _ u-vat _ v<=1;rw [h];unfold crs;all_goals omega
 .have N:=Nt (sqf F xs);have M:Xd (sqf F xs)=[]:=aH O;have I:chn F xs=[sqf F xs]:=by unfold chn;grind [Ybq,Bo]
  unfold vch vat;have r1:=Zhm (([Zc (sqf F xs)]).map λg=>Ep (g u));have r2:=Zhm (([Zc (sqf F xs)]).map λg=>Ep (g v));grind
theorem Sqn.mem{P:R2->R2->Prop}{hi:Rat} : ∀{f:Rat} {l:List (R2×R2)},Sqn P hi f l->∀c∈l,P c.1 c.2
 | _,[],_,c,e=>O4
 | f,d::r,h,c,e=>by
  rcases aU.1 e with rfl|e
  .exact h.2.2.1
  .exact Sqn.mem h.2.2.2 c e
theorem en_bl{d:Nat}(h:En K Q d z)(i:0<Q)(w:Q*2^d<2^B)(x:K*(Q*2^d)<2^B):bl z.1.natAbs<=B/\bl z.2.natAbs<=B:=by
 obtain⟨l,j,y,F⟩:=h;have g:0<Q*2^d:=gL i (bR O);have f:z.2.natAbs<=Q*2^d:=by have:=fK.2 j;rw [eH]at this;simp_all [jY]
 have m:z.1.natAbs<=K*z.2.natAbs:=by
  have r:=Ge l;have e:(z.1)=qv z*z.2:=by unfold qv;grind
  have t1:=aG (a:=(K)-qv z) (b:=(z.2)) O4 O4;have t2:=aG (a:=(K)+qv z) (b:=(z.2)) O4 O4;have D:((K*z.2.natAbs:Nat))=(K)*z.2:=O4;have o:((z.1):Rat)<=(((K:Int)*z.2:Int)):=by push_cast;grind
  have v:((-((K:Int)*z.2):Int))<=((z.1):Rat):=by push_cast;grind
  have G:=by exact_mod_cast o
  have H:=by exact_mod_cast v
  omega
 have n:K*z.2.natAbs<=K*(Q*2^d):=bB _ f;exact⟨Zc4 O,Zc4 O⟩
theorem Yh1 (e:Nat)(w:Nat)(B:Nat){n:Nat}(h:En (2^n) Q (e+w) z)(x:0<Q)(j:Q<2^(2*n))(y:3*n+1+(e+w)<=B):bl z.1.natAbs<=B/\bl z.2.natAbs<=B:=by
 have f:∀m,m<=B->2^m<=2^B:=λm h=>cY O h;have i:0<2^(e+w):=bR O;have g:=dL j i;have l:2^n*(Q*2^(e+w))<2^n*(2^(2*n)*2^(e+w)):=jN g (bR O);have o:2^(2*n)*2^(e+w)=2^(2*n+(e+w)):=(bM _ _ _).symm;have v:2^n*(2^(2*n)*2^(e+w))=2^(n+(2*n+(e+w))):=by simp [bM]
 rw [o]at g;rw [v]at l;exact en_bl h x (dB g (f _ O)) (dB l (f _ O))
theorem Ed.const{g:List Int}(h:Ed g a)(o:Tr g)(m:Tr a)(l:a≠[])(w:g.length=a.length):∃k c:Int,k≠0/\c≠0/\∀x:Rat,(k:Rat)*Zc a x=(c:Rat)*Zc g x:=by
 obtain⟨k,s,i,h⟩:=h;obtain⟨v,f,j⟩:=Zwi i o m l h;have e:=aL.2 f
 match hs:tzl s,e,j with
 | [c],_,_=>
  have n:=by have:=(Qp s).mem f;rw [hs]at this;exact this
  refine⟨k,c,i,n,λx=>?_⟩;rw [h x,<-Lk s,hs,Pt]
 | c::d::r,_,h9=>grind
theorem Zvk(p:List Int)(c:Int)(x:Rat):Zc (Yy p c) x=(c:Rat)*Zc p x:=by rw [<-Zj];grind [Ng,Qn,Qt,Int.mul_comm]
theorem Ed.dv{g:List Int}(h:Ed g a):Dv g a:=by obtain⟨k,s,e,h⟩:=h;refine⟨k,s,e,λt=>?_⟩;have:=Ml (p:=a.map λc=>k*c) (q:=Qx s g) (λx=>by rw [Zj,Xm];exact h x) t;rw [Qt,Gj]at this;exact this
theorem ed_cop{t w s:List Int}(F:k≠0)(m:Tr t)(H:Tr w)(t0:t≠[])(D:∀d,Tr d->Ed d t->Ed d w->d.length<=1)(h:∀x:Rat,(k:Rat)*(Zc u x*Zc w x)=Zc s x*Zc t x):Ed t u:=by
 obtain⟨g,A,B,f,j,n,y⟩:=Zly w.length t w m H (aI _);have G:=D g f j n;have i:=(j.len f m t0).1
 match hgg:g,G,i with
 | [c],_,_=>
  have e:c≠0:=by have:=f.mem O7;exact this
  refine⟨k*c,Ma ((Qx A u).map λa=>k*a) (Qx B s),bD F e,λx=>?_⟩;rw [Xh,Zj,Xm,Xm];have l:=y x;rw [Pt]at l;have o:=h x;push_cast;rw [show(k:Rat)*c*Zc u x=k*(Zc u x*(c:Rat)) by grind,l];have v:(k:Rat)*(Zc u x*(Zc A x*Zc t x+Zc B x*Zc w x))=k*Zc A x*Zc u x*Zc t x+Zc B x*(k*(Zc u x*Zc w x)):=O4;rw [v,o];grind
 | c::d::r,h9,_=>simp at h9
def Mu(F:Nat)(p:List Int):List Int:=Mt F (Xr p) (Xd (Xr p))
def Za1(F:Nat)(p:List Int):Prop:=eok F (gA (Xr p) (Xd (Xr p))) (gB (Xr p) (Xd (Xr p)))
theorem Oz{F:Nat}(j:Tr p)(l:p≠[])(i:Za1 F p):Tr (Mu F p)/\Mu F p≠[]/\Xr (Mu F p)=Mu F p/\Xr p=Qx (sqf F p) (Mu F p)/\(sqf F p).length+(Mu F p).length=p.length+1:=by obtain⟨f1,f2,f3,f4,f5,f6⟩:=Nf F j l i;have f:Tr (Xr p):=Nw (Xg j);have g:Tr (Xd (Xr p)):=Mh f;have h:=Zfc F f g;have m:=Nz f2 h f3 f5;rw [<-f4,Pn j]at m;have n:=aL.2 f3;have o:=aL.2 f5;refine⟨h,f5,Zvu h (Zkh f g f5) (Bt (Ztq F (Zjp f g) (Zjo f g)) (λe=>f5 (by unfold Mt;rw [e];rfl))),f4,?_⟩;unfold Mu;omega
theorem Ylk{h:List Int}(j:Tr h)(i:h≠[]){m:Int}(e:∀x:Rat,(k:Rat)*(Zc a x*Zc h x)=(m:Rat)*(Zc b x*Zc h x))(x:Rat):(k:Rat)*Zc a x=(m:Rat)*Zc b x:=by
 have g:=Eb h (f:=Ma (a.map λc=>k*c) (b.map λc=>(-m)*c)) (by rw [Zam j];exact i) (λx=>by rw [Xh,Zj,Zj];have:=e x;push_cast;grind) x
 rw [Xh,Zj,Zj]at g;push_cast at g;grind
theorem Zyn{F:Nat}(W:Tr p)(h0:p≠[])(l:Za1 F p)(e:Za1 F (Mu F p)):Ed (sqf F (Mu F p)) (sqf F p):=by
 obtain⟨n,a2,f,a4,a5⟩:=Oz W h0 l;obtain⟨H,G,b3,b4,b5⟩:=Oz n a2 e;obtain⟨-,u2,u3,-,-,-⟩:=Nf F W h0 l;obtain⟨-,t2,t3,-,-,-⟩:=Nf F n a2 e;have ht:Tr (Xr p):=Nw (Xg W);have o:Ed (Mu F p) (Xd (Xr p)):=(Zde ht (Mh ht) l).2.ed;have e2:Ed (Mu F (Mu F p)) (Xd (Mu F p)):=by have:=(Zde (F:=F) (p:=Xr (Mu F p)) (q:=Xd (Xr (Mu F p))) (by rw [f];exact n) (Mh (by rw [f];exact n)) e).2.ed;have h9:Mu F (Mu F p)=Mt F (Xr (Mu F p)) (Xd (Xr (Mu F p))):=rfl;rw [<-h9,f]at this;exact this
 have R:∀d,Tr d->Ed d (Mu F p)->Ed d (Xd (Mu F p))->Ed d (Mu F (Mu F p)):=λd M i v=>by unfold Mu at *;have:=Zkf (F:=F) (d:=d) (p:=Xr (Mt F (Xr p) (Xd (Xr p)))) (q:=Xd (Xr (Mt F (Xr p) (Xd (Xr p))))) (by rw [f];exact n) (Mh (by rw [f];exact n)) (by rw [f];exact i) (by rw [f];exact v);exact this
 rw [f]at b4;generalize hg:Mu F p=g at *;generalize hh:Mu F g=h at *;generalize hu:sqf F p=u at *;generalize a0:sqf F g=t at *;obtain⟨k,s,hk,S⟩:=o;obtain⟨m,w,hm,V⟩:=e2;have hP:∀x:Rat,Zc (Xr p) x=Zc (lmul u g) x:=λx=>by rw [a4,Xm,Zz]
 have hG:∀x:Rat,Zc g x=Zc (lmul t h) x:=λx=>by
  have:Zc g x=Zc (Qx t h) x:=by rw [<-b4]
  rw [this,Xm,Zz]
 have N:∀x:Rat,Zc (Xd (Xr p)) x=Zc (ld u) x*Zc g x+Zc u x*Zc (ld g) x:=λx=>by rw [Ki,Ce _ _ hP,Cy]
 have y:∀x:Rat,(m:Rat)*Zc (ld g) x=Zc w x*Zc h x:=λx=>by rw [<-Ki];exact V x
 have Z:∀x:Rat,(k:Rat)*(Zc (Qx u w) x*Zc h x)=(m:Rat)*(Zc (Qx (Ma s ((ld u).map λc=>(-k)*c)) t) x*Zc h x):=λx=>by rw [Xm,Xm,Xh,Zj];have i:=S x;have v:=N x;have h3:=y x;have h4:=hG x;rw [Zz]at h4;rw [v]at i;have:(k:Rat)*(Zc u x*Zc w x*Zc h x)=Zc u x*k*(Zc w x*Zc h x):=O4;rw [this,<-h3];push_cast;have:Zc u x*(k:Rat)*(m*Zc (ld g) x)=m*(k*(Zc (ld u) x*Zc g x+Zc u x*Zc (ld g) x)-k*Zc (ld u) x*Zc g x):=O4;rw [this,i,h4];grind
 have D:=Ylk H G Z;refine ed_cop (s:=(Qx (Ma s ((ld u).map λc=>(-k)*c)) [m])) hk t2 (w:=tzl w) (Qp w) t3 (λd M i v=>?_) (λx=>?_)
 .have I:Ed d w:=v.congr λx=>Lk w x;have P:Ed (Qx d h) h:=R _ (Qo _ _) (by
   obtain⟨Y,s1,j,o⟩:=i;exact⟨Y,s1,j,λx=>by rw [hG x,Zz,Xm];have:=o x;grind⟩) (by
   obtain⟨Y,s1,j,o⟩:=I;exact⟨Y*m,s1,bD j hm,λx=>by rw [Ki,Xm];have:=o x;have:=y x;push_cast;grind⟩)
  have d0:=(i.len M t2 t3).1;have hl:=Nz M H d0 G;have:=(P.len (Qo _ _) H G).2;have l2:=aL.2 G;omega
 .rw [Lk,Xm,Pt];have:=D x;rw [Xm,Xm]at this;rw [this];grind
theorem Ybo{t:List Int}(j:Tr u)(o:u≠[])(n:Tr t)(t0:t≠[])(l:Xr t=t)(h:Ed t u):pdv u t/\u=Qx (He u t) t/\Tr (He u t)/\He u t≠[]:=by
 have e:Xs t=1:=by grind [Zdf]
 obtain⟨k,s,f,h⟩:=h.dv;obtain⟨q,m⟩:=gauss e _ k s rfl f h;have g:u=Qx (tzl q) t:=j.ext (Qo _ _) λi=>by grind [Gj,Ye4]
 grind [Zyi,Qp,Dd]
theorem Zpo{F:Nat}(g:Tr p)(l:p≠[])(f:Za1 F p)(n:2<=p.length):(Mu F p).length<p.length:=by obtain⟨i,m,-⟩:=Oz g l f;have h:Tr (Xr p):=Nw (Xg g);have j:Ed (Mu F p) _:=(Zde h (Mh h) f).2.ed;have o:=Nt (Xr p);have v:=Pn g;have:=(j.len i (Mh h) (λe=>O4)).2;omega
theorem nrm1(h:Tr p)(o:Xr p=p)(n:p.length=1):p=[1]:=by
 have f:p≠[]:=λe=>O4;have l:=Zdf h f;have g:0<cf (Xr p) ((Xr p).length-1):=Bt (Xg h) (λe=>f (aH (by grind [Yo])));rw [o]at l g
 match p,n with
 | [c],_=>
  have m:0<c:=g;have j:c∣Xs [c]:=Di λi=>by
   match i with
   | 0=>exact kF c
   | i+1=>grind [Yw,Int.dvd_zero]
  have:=lH O j;grind
def Dp(p q:List Int):Prop:=Tr q/\q≠[]/\Xr q=q/\∃a,Tr a/\Xr p=Qx a q
theorem Dp.start(f:Tr p)(g:p≠[]):Dp p (Xr p):=
 ⟨Nw (Xg f),Zko f g,Zvu (Nw (Xg f)) (Zdf f g) (Bt (Xg f) (λe=>g (aH (by grind [Yo])))),[1],.inr (show cf [1] 0≠0 by decide),by refine(Nw (Xg f)).ext (Qo _ _) λi=>?_;rw [Gj,Zso];rfl⟩
theorem Dp.sz{n:Nat}(g:Tr p)(i:p≠[])(hs:Sz n p)(F:p.length<=13)(h:Dp p q):Sz (n+15) q/\q.length<=p.length:=by obtain⟨j,y,D,a,m,e⟩:=h;have l:fcs 0 13<=2^15*2^15:=O3;have o:=Pn g;have f:=Zko g i;have v:=Nw (Xg g);have w:a≠[]:=λx=>f (by grind [Dd]);refine⟨Zbr _ 24 j m (Zu8 hs) f v O O l (by grind [Zax]),?_⟩;grind [Nz,List.length_pos_iff]
theorem Dp.ok{n F:Nat}(f:Tr p)(e:p≠[])(hs:Sz n p)(l:n<=220)(j:p.length<=11)(i:p.length<=F+1)(h:Dp p q):Ak F q/\Za1 F q:=by obtain⟨g,m⟩:=h.sz f e hs O;have:=(chG F h.1 h.2.1 g O O O).1;exact⟨this,this.1.2.2.1⟩
theorem Dp.next{F:Nat}(h:Dp p q)(f:Za1 F q):Dp p (Mu F q):=by obtain⟨n,o,v,a,y,e⟩:=h;obtain⟨j,l,m,g,w⟩:=Oz n o f;refine⟨j,l,m,Qx a (sqf F q),Qo _ _,?_⟩;rw [v]at g;refine e.trans ((aE _ g).trans ?_);refine(Qo _ _).ext (Qo _ _) λi=>Ml (λx=>?_) i;grind [Xm]
def Zep(F:Nat):Nat->List Int->List Int
 | 0,p=>sqf F p
 | f+1,p=>if(sqf F p).length=1 then sqf F p else Qx (He (sqf F p) (sqf F (Mu F p))) (Zep F f (Mu F (Mu F p)))
def Zsr(F:Nat):Nat->List Int->List Int->List Int
 | 0,e,_=>e
 | f+1,e,q=>if(sqf F q).length=1 then e else if(sqf F (Mu F q)).length=1 then Qx e (He (sqf F q) (sqf F (Mu F q)))else Zsr F f (Qx e (He (sqf F q) (sqf F (Mu F q)))) (Mu F (Mu F q))
theorem Zik{F:Nat}(g:Tr q)(f:q≠[])(e:Za1 F q)(h:(sqf F q).length=1):sqf F q=[1]/\q.length=1/\(Mu F q).length=1:=by
 obtain⟨f1,f2,f3,f4,f5,f6⟩:=Nf _ g f e;obtain⟨j,l,m,n,o⟩:=Oz g f e;have w:=aL.2 f;have v:q.length=1:=by
  rcases aW q.length 2 with i|i
  .omega
  .have:=Zpo g f e i;omega
 grind [nrm1]
theorem Zoz(e:Tr p):Qx p [1]=p:=by refine(Qo _ _).ext e λi=>Ml (λx=>?_) i;grind [Xm,Pt]
theorem Yfc{F:Nat}(i:Tr q)(g:q≠[])(e:Za1 F q)(h:q.length=1):∀f,Zep F f q=[1]:=λf=>by
 obtain⟨f1,f2,f3,f4,f5,f6⟩:=Nf _ i g e;obtain⟨l,j,m,n,o⟩:=Oz i g e;have v:=aL.2 f3;have w:=aL.2 j;have hs:(sqf F q).length=1:=O;have:=(Zik i g e hs).1;cases f with
 | zero=>exact this
 | succ f=>unfold Zep;grind
theorem Zyc (p:List Int){F:Nat}{f:Nat}(h:Tr q)(g:q≠[])(e:Za1 F q):Tr (Zep F f q):=by
 obtain⟨f1,f2,f3,f4,f5,f6⟩:=Nf _ h g e;cases f with
 | zero=>exact f2
 | succ f=>unfold Zep;grind [Qo]
theorem Yl2{F n:Nat}(M:Tr p)(y:p≠[])(hs:Sz n p)(I:n<=220)(G:p.length<=11)(D:p.length<=F+1):∀(f:Nat) (j q:List Int),Tr j->Dp p q->q.length<=f->Zsr F f j q=Qx j (Zep F f q):=by
 intro f
 induction f with
 | zero=>intro j q _ g H;have:=aL.2 g.2.1;omega
 | succ f R=>
  intro j q P g H;have h:=(g.ok M y hs I G D).2;have m:=g.next h;have e:=(m.ok M y hs I G D).2;have l:=m.next e;have o:=(l.ok M y hs I G D).2;unfold Zsr Zep;by_cases v:(sqf F q).length=1
  .rw [aO v,aO v,(Zik g.1 g.2.1 h v).1,Zoz P]
  .rw [aJ v];have S:2<=q.length:=by obtain⟨f1,f2,f3,f4,f5,f6⟩:=Nf _ g.1 g.2.1 h;obtain⟨Y,Z,a3,a4,a5⟩:=Oz g.1 g.2.1 h;grind [List.length_pos_iff]
   have V:=Zpo g.1 g.2.1 h S;obtain⟨-,-,-,-,b5⟩:=Oz m.1 m.2.1 e;obtain⟨-,b2,N,-,-,-⟩:=Nf _ m.1 m.2.1 e;have lb:=aL.2 N;by_cases w:(sqf F (Mu F q)).length=1
   .obtain⟨s1,s2,W⟩:=Zik m.1 m.2.1 e w;rw [aO w,Yfc l.1 l.2.1 o W];refine(Qo _ _).ext (Qo _ _) λi=>Ml (λx=>?_) i;grind [Xm,Pt]
   .rw [aJ w,R _ _ (Qo _ _) l O];refine(Qo _ _).ext (Qo _ _) λi=>Ml (λx=>?_) i;grind [Xm]
def Yex(F:Nat)(p:List Int):List Int:=He (Yy (Yu p) 1) (sqf F p)
def rrest(F:Nat)(p:List Int):List Int:=He (Yu (Yex F p)) (sqf F (Yex F p))
def rodd(F:Nat):Nat->List Int->List Int
 | 0,p=>sqf F p
 | f+1,p=>if(sqf F p).length=1 then sqf F p else Qx (He (sqf F p) (sqf F (Yex F p))) (rodd F f (rrest F p))
theorem Zog{F:Nat}(h:Xr p=Xr q):sqf F p=sqf F q:=by unfold sqf;rw [h]
def Zaw(F:Nat)(q:List Int):List Int:=He (sqf F q) (sqf F (Mu F q))
theorem Zcf{F:Nat}(g:Tr q)(h:q≠[])(f:Za1 F q)(e:Za1 F (Mu F q)):pdv (sqf F q) (sqf F (Mu F q))/\sqf F q=Qx (Zaw F q) (sqf F (Mu F q))/\Tr (Zaw F q)/\Zaw F q≠[]:=by obtain⟨f1,f2,f3,f4,f5,f6⟩:=Nf F g h f;obtain⟨i,j,l,m,n⟩:=Oz g h f;obtain⟨-,t2,t3,-,-,t6⟩:=Nf F i j e;exact Ybo f2 f3 t2 t3 t6 (Zyn g h f e)
theorem Zwc{n:Nat}(j:Tr p)(w:p≠[])(hs:Sz n p)(D:p.length<=13)(o:Tr a)(v:Tr b)(e:Xr p=Qx a b):Sz (n+15) b/\b.length<=p.length/\b≠[]:=by have x:fcs 0 13<=2^15*2^15:=O8;have h:=Pn j;have f:=Zko j w;have y:Tr (Xr p):=Nw (Xg j);have l:a≠[]:=λg=>f (by rw [e,g,Dd]);have m:b≠[]:=λg=>f (by rw [e,g,Zeq]);refine⟨Zbr 13 24 v o (Zu8 hs) f y O O3 x (by rw [Zax];exact e),?_,m⟩;have i:=Nz o v l m;rw [<-e,h]at i;have:=aL.2 l;omega
def Op(p e q:List Int):Prop:=∃a,Tr a/\Xr p=Qx a (Qx e q)
theorem Op.start(e:Tr p):Op p [1] (Xr p):=⟨[1],.inr (show cf [1] 0≠0 by decide),by refine(Nw (Xg e)).ext (Qo _ _) λi=>Ml (λx=>?_) i;rw [Xm,Xm,Pt];push_cast;show Zc (Xr p) x=_;grind⟩
theorem Op.next{j:List Int}{F:Nat}(n:Tr q)(o:q≠[])(I:Xr q=q)(g:Za1 F q)(f:Za1 F (Mu F q))(h:Op p j q):Op p (Qx j (Zaw F q)) (Mu F (Mu F q)):=by
 obtain⟨a,P,e⟩:=h;obtain⟨-,M,R,S⟩:=Zcf n o g f;obtain⟨v,w,y,l,N⟩:=Oz n o g;obtain⟨-,-,-,m,-⟩:=Oz v w f;rw [I]at l;rw [y]at m;refine⟨Qx a (Qx (sqf F (Mu F q)) (sqf F (Mu F q))),Qo _ _,e.trans ?_⟩;refine(Qo _ _).ext (Qo _ _) λi=>Ml (λx=>?_) i;have D:Zc q x=Zc (sqf F q) x*Zc (Mu F q) x:=by rw [<-Xm,<-l]
 have G:Zc (sqf F q) x=Zc (Zaw F q) x*Zc (sqf F (Mu F q)) x:=by rw [<-Xm,<-M]
 have H:Zc (Mu F q) x=Zc (sqf F (Mu F q)) x*Zc (Mu F (Mu F q)) x:=by rw [<-Xm,<-m]
 simp only [Xm];rw [D,G];rw [H];generalize Zc (sqf F (Mu F q)) x=A;generalize Zc (Mu F (Mu F q)) x=B;grind
theorem Op.sz{f:List Int}{n:Nat}(m:Tr p)(g:p≠[])(hs:Sz n p)(j:p.length<=13)(l:Tr f)(v:Tr q)(h:Op p f q):Sz (n+15) f/\f.length<=p.length/\f≠[]:=by obtain⟨a,o,e⟩:=h;exact Zwc m g hs j (Qo a q) l (e.trans ((Qo _ _).ext (Qo _ _) λi=>Ml (λx=>by rw [Xm,Xm,Xm,Xm];grind) i))
theorem Ylr(e:Tr p):Qx [1] p=p:=by rw [Zax];exact Zoz e
def Zjj{F:Nat}(h:Tr xs)(f:xs≠[])(g:Ak F xs)(e:s<=t):vch F xs t<=vch F xs s:=Zlu h f g e
def Sqn.imp{P e:R2->R2->Prop}{hi:Rat}(f:∀x y,P x y->e x y):∀{g:Rat} {l:List (R2×R2)},Sqn P hi g l->Sqn e hi g l
 | _,[],h=>h
 | _,_::_,h=>⟨h.1,h.2.1,f _ _ h.2.2.1,Sqn.imp f h.2.2.2⟩
def oe(f:Nat->Int):Nat->Int
 | 0=>0
 | k+1=>err (oe f k) (f k)
def mon(d n:Nat):List Int:=mono d ((2:Int)^n)
variable {P:Program} {N:Nat} {sc:Nat->Prop} {env:Qk} {H:Hp}
end Go.Sky
namespace Go.Sky
variable{f:Rat->Rat}{xs p o:List Int}{x:Rat}
def HD(xs ys:List Int):Prop:=Vp ys/\ys≠[]/\Zau ys/\Ak 13 ys/\chn 13 ys=chn 13 xs
def PH(xs:List Int)(x y:R2):Prop:=(0<x.2/\bl x.1.natAbs<=506/\bl x.2.natAbs<=506)/\(0<y.2/\bl y.1.natAbs<=506/\bl y.2.natAbs<=506)/\cvc 13 xs x-cvc 13 xs y=1
def DR:R2×R2:=((0,0),(0,0))
theorem Zgo(d:Rat){h:Rat}(a:0<h):∃n:Nat,d<=(n:Rat)*h:=by
 have e:0<h⁻¹:=fD.2 a;refine⟨(d*h⁻¹).ceil.toNat,?_⟩;have b:=@mN (d*h⁻¹);have c:(((d*h⁻¹).ceil:Int):Rat)<=(((d*h⁻¹).ceil.toNat:Nat):Rat):=by have:(d*h⁻¹).ceil<=(((d*h⁻¹).ceil.toNat:Nat):Int):=jV _;exact_mod_cast this
 have g:=dI (mD b c) (show 0<=h by grind);have i:d*h⁻¹*h=d:=O4;grind
theorem Zqf{u v:Rat}(h:crs f u v<=0)(b:f u≠0):0<f u*f v:=by
 unfold crs at h;by_cases a:f u≠0/\f u*f v<=0
 .rw [aO a]at h;exact absurd h O3
 .have:¬f u*f v<=0:=λc=>a ⟨b,c⟩;grind
theorem Zdn{F:Nat}(l:Tr xs)(i:xs≠[])(j:Ak F xs){s t:Rat}(G:s<=t)(D:vch F xs s<=vch F xs t)(hs:Zc (sqf F xs) s≠0):∀y,s<=y->y<=t->0<Zc (sqf F xs) s*Zc (sqf F xs) y:=by
 obtain⟨h,z,B⟩:=Zlt l i j s t;have g:∀u v,s<=u->u<=v->v<=t->v-u<=h->crs (Zc (sqf F xs)) u v<=0:=λu v a b c d=>by have e:=B u v a b c d;have R:vat ((chn F xs).map Zc) u<=vat ((chn F xs).map Zc) s:=Zlu l i j a;have S:vat ((chn F xs).map Zc) t<=vat ((chn F xs).map Zc) v:=Zlu l i j c;have V:vat ((chn F xs).map Zc) s<=vat ((chn F xs).map Zc) t:=D;omega
 generalize Zc (sqf F xs)=f at *;have m:∀n:Nat,∀y,s<=y->y<=t->y-s<=(n:Rat)*h->0<f s*f y:=λn=>by
  induction n with
  | zero=>
   intro y a b c;have:y=s:=by push_cast at c;grind
   subst this;exact Zqf (g _ _ a O4 b O4) hs
  | succ n P=>
   intro y a b c;push_cast at c;by_cases H:y-s<=h
   .exact Zqf (g s y O4 a b H) hs
   .have r:=P (y-h) O4 O4 O4;have I:f (y-h)≠0:=λe=>by rw [e]at r;grind
    have M:=Zqf (g (y-h) y O4 O4 b O4) I;have N:=aV r M;have w:f s*f (y-h)*(f (y-h)*f y)=(f (y-h)*f (y-h))*(f s*f y):=O4;rw [w]at N;have Q:0<f (y-h)*f (y-h):=by
     rcases(show 0<f (y-h)\/f (y-h)<0 by grind)with q|q
     .exact aV q q
     .have:=aV (a:=-f (y-h)) (b:=-f (y-h)) O4 O4;grind
    rcases(show 0<f s*f y\/f s*f y<=0 by grind)with q|q
    .exact q
    .have:=aG (a:=f (y-h)*f (y-h)) (b:=-(f s*f y)) O4 O4;grind
 intro y a b;obtain⟨n,k⟩:∃n:Nat,y-s<=(n:Rat)*h:=by obtain⟨n,k⟩:=Zgo (y-s) z;exact⟨n,k⟩
 exact m n y a b k
theorem Zfy (p:List Int)(s:Rat)(t:Rat)(B:s<=t)(v:∀u,s<=u->u<=t->0<=Zc (ld p) u):Zc p s<=Zc p t:=by
 rcases(show Zc p s<=Zc p t\/Zc p t<Zc p s by grind)with h|h
 .exact h
 .exfalso;obtain⟨M,V,H⟩:=Zip s t p;have y:s<t:=by
   rcases(show s<t\/s=t by grind)with d|d
   .exact d
   .rw [d]at h;grind
  obtain⟨n,z⟩:=Zgo (M*(t-s)*(t-s)+1) (show 0<Zc p s-Zc p t by grind);have g:(0:Rat)<(n:Rat):=by
   rcases aX n with d|d
   .subst d;have:=aG (a:=M*(t-s)) (b:=t-s) (aG O4 O4) O4;push_cast at z;grind
   .exact_mod_cast d
  have m:(n:Rat)≠0:=λe=>by rw [e]at g;exact absurd g O3
  have c:(n:Rat)*((t-s)/n)=t-s:=by rw [kZ,<-Rat.mul_assoc,kG (n:Rat),Rat.mul_assoc,Rat.mul_inv_cancel _ m,Rat.mul_one]
  have q:∀k:Nat,(k:Rat)<=(n:Rat)->-(M*((t-s)/n)*((t-s)/n))*k<=Zc p (s+k*((t-s)/n))-Zc p s:=λk=>by
   induction k with
   | zero=>intro _;push_cast;rw [show s+0*((t-s)/n)=s by grind];grind
   | succ k D=>
    intro w;push_cast at w ⊢;have Q:=D O4;have l:0<=(t-s)/n:=by rw [kZ];exact aG O4 (dE (fD.2 g))
    have i:=c;generalize (t-s)/(n:Rat)=h at *;have F:(0:Rat)<=(k:Rat):=by exact_mod_cast bH k
    have I:=aG (a:=(k:Rat)) (b:=h) F l;have N:=aG (a:=(n:Rat)-(k+1)) (b:=h) O4 l;have j:=(H (s+k*h) (s+(k+1)*h) O4 O4 O4).1;have e:=v (s+k*h) O4 O4;have P:=aG l e;rw [show s+(k+1)*h-(s+k*h)=h by grind]at j;grind
  have r:=q n O4;have i:=c;rw [i,show s+(t-s)=t by grind]at r;have G:-(M*((t-s)/n)*((t-s)/n))*n=-(M*((t-s)/n)*(t-s)):=O4;rw [G]at r;have R:M*((t-s)/n)*(t-s)*n=M*(t-s)*(t-s):=O4;have S:=aG (a:=Zc p t-Zc p s+M*((t-s)/n)*(t-s)) (b:=(n:Rat)) O4 O4;grind
theorem Zfj(p:List Int)(x:Rat):Zc (p.map λa=>-1*a) x=-Zc p x:=by rw [Zj];push_cast;grind
theorem Zny (p:List Int){s t:Rat}(k:s<t)(e:∀u,s<u->u<=t->0<Zc (ld p) u)(g:0<=Zc (ld p) s):Zc p s<Zc p t:=by
 have i:s<(s+t)/2/\(s+t)/2<t:=by constructor<;>grind
 generalize (s+t)/2=m at *;have r:=Zfy p s m O4 (λu a b=>by
  rcases(show s<u\/u=s by grind)with h|h
  .exact dE (e u h O4)
  .rw [h];exact g)
 obtain⟨M,l,n⟩:=Zip m t p;have j:=e m i.1 O4;obtain⟨η,q,w,y⟩:=Gb (show 0<t-m by grind) l (show 0<Zc (ld p) m/2 by grind);have b:=(n m (m+η) O4 O4 O4).1;rw [show m+η-m=η by grind]at b;have v:=Zfy p (m+η) t O4 (λu a b=>dE (e u O4 b));have c:=aG (a:=η) (b:=Zc (ld p) m/2-η*M) O4 O4;have d:=aV q j;grind
def Et:Nat->List Int->Rat->Int
 | 0,_,_=>0
 | n+1,p,x=>if Zc p x≠0 then Ep (Zc p x)else Et n (Xd p) x
theorem Zx7(h:0<x):Ep x=1:=Ao h
theorem Zmy(h:x<0):Ep x=-1:=Ap h
theorem Zr3(h:x=0):Ep x=0:=by subst h;rfl
theorem Pe(x:Rat):(0<x/\Ep x=1)\/(x<0/\Ep x=-1)\/(x=0/\Ep x=0):=by
 rcases(show 0<x\/x<0\/x=0 by grind)with h|h|h
 .exact .inl ⟨h,Zx7 h⟩
 .exact .inr (.inl ⟨h,Zmy h⟩)
 .exact .inr (.inr ⟨h,Zr3 h⟩)
theorem Zxg(n:Nat)(p:List Int)(x:Rat)(h:Zc p x≠0)(a:p.length<=n):Et n p x=Ep (Zc p x):=by
 cases n with
 | zero=>have:p=[]:=aH O;subst this;exact absurd rfl h
 | succ n=>unfold Et;rw [aO h]
theorem Zm8(p:List Int)(x:Rat)(h:Zc p x≠0):∃δ:Rat,0<δ/\∀y,x<y->y<=x+δ->Ep (Zc p y)=Ep (Zc p x):=by
 obtain⟨L,r,k⟩:=Cx x (x+1) p;have i:0<(if 0<Zc p x then Zc p x else -Zc p x):=by split<;>grind
 obtain⟨δ,j,m,g⟩:=Gb (show(0:Rat)<1 by decide) (show 0<L+1 by grind) (show 0<(if 0<Zc p x then Zc p x else -Zc p x)/2 by grind);refine⟨δ,j,λy n q=>?_⟩;have l:=k x y O4 O4 O4;have b:=aG (a:=L) (b:=δ-(y-x)) O4 O4;have c:L*(y-x)<=δ*(L+1):=O4;rcases Pe (Zc p x)with⟨d,e⟩|⟨d,e⟩|⟨d,e⟩
 .rw [aO d]at g i;rw [e];exact Zx7 O4
 .rw [aJ O4]at g i;rw [e];exact Zmy O4
 .exact absurd d h
theorem Aa:∀(n:Nat) (p:List Int) (x:Rat),p.length<=n->∃δ:Rat,0<δ/\∀y,x<y->y<=x+δ->Ep (Zc p y)=Et n p x
 | 0,p,x,q=>⟨1,O3,λy _ _=>by have:p=[]:=aH O;subst this;exact Zr3 rfl⟩
 | n+1,p,x,q=>by
  by_cases h:Zc p x≠0
  .rw [Zxg (n+1) p x h q];exact Zm8 p x h
  .have F:Zc p x=0:=cD.1 h;have B:=Nt p;obtain⟨δ,v,w⟩:=Aa n (Xd p) x O;have z:Et (n+1) p x=Et n (Xd p) x:=by unfold Et;rw [aJ h];cases n<;>rfl
   have k:Zc (ld p) x≠0->Ep (Zc (ld p) x)=Et n (Xd p) x:=λg=>by rw [<-Ki]at g ⊢;exact(Zxg n (Xd p) x g O).symm
   refine⟨δ,v,λy l G=>?_⟩;rw [z];have i:∀u,x<u->u<=y->Ep (Zc (ld p) u)=Et n (Xd p) x:=λu a b=>by rw [<-Ki];exact w u a O4
   have e:=i y l O4;generalize Et n (Xd p) x=σ at *;rcases Pe (Zc (ld p) y)with⟨m,j⟩|⟨m,j⟩|⟨m,j⟩
   .rw [j]at e;subst e;refine Zx7 ?_;have:=Zny p l (λu a b=>by
     rcases Pe (Zc (ld p) u)with⟨d,c⟩|⟨d,c⟩|⟨d,c⟩
     .exact d
     .have:=i u a b;rw [c]at this;exact absurd this O3
     .have:=i u a b;rw [c]at this;exact absurd this O3) (by
     rcases Pe (Zc (ld p) x)with⟨d,c⟩|⟨d,c⟩|⟨d,c⟩
     .exact dE d
     .have:=k O4;rw [c]at this;exact absurd this O3
     .grind)
    grind
   .rw [j]at e;subst e;refine Zmy ?_;have r:∀u,Zc (ld (p.map λa=>-1*a)) u=-Zc (ld p) u:=λu=>by rw [Ar];push_cast;grind
    have:=Zny (p.map λa=>-1*a) l (λu a b=>by
     rw [r];rcases Pe (Zc (ld p) u)with⟨d,c⟩|⟨d,c⟩|⟨d,c⟩
     .have:=i u a b;rw [c]at this;exact absurd this O3
     .grind
     .have:=i u a b;rw [c]at this;exact absurd this O3) (by
     rw [r];rcases Pe (Zc (ld p) x)with⟨d,c⟩|⟨d,c⟩|⟨d,c⟩
     .have:=k O4;rw [c]at this;exact absurd this O3
     .grind
     .grind)
    rw [Zfj,Zfj]at this;grind
   .rw [j]at e;subst e;refine Zr3 ?_;have s:∀u,x<=u->u<=y->Zc (ld p) u=0:=λu a b=>by
     rcases(show x<u\/u=x by grind)with g|g
     .rcases Pe (Zc (ld p) u)with⟨d,c⟩|⟨d,c⟩|⟨d,c⟩
      .have:=i u g b;rw [c]at this;exact absurd this O3
      .have:=i u g b;rw [c]at this;exact absurd this O3
      .exact d
     .subst g;rcases Pe (Zc (ld p) u)with⟨d,c⟩|⟨d,c⟩|⟨d,c⟩
      .have:=k O4;rw [c]at this;exact absurd this O3
      .have:=k O4;rw [c]at this;exact absurd this O3
      .exact d
    have D:=Zfy p x y O4 (λu a b=>by rw [s u a b];grind);have t:=Zfy (p.map λa=>-1*a) x y O4 (λu a b=>by rw [Ar,s u a b];push_cast;grind);rw [Zfj,Zfj]at t;grind
theorem Ed.mul_l{a b c:List Int}(h:Ed a b):Ed (Qx c a) (Qx c b):=by obtain⟨k,s,d,e⟩:=h;exact⟨k,s,d,λx=>by rw [Xm,Xm];have:=e x;grind⟩
theorem Fm{F n:Nat}(t:Tr p)(k:p≠[])(hs:Sz n p)(s:n<=220)(m:p.length<=11)(l:p.length<=F+1):∀(f:Nat) (q:List Int),Dp p q->q.length<=f->
  (∃B:List Int,∀x:Rat,Zc q x=Zc (Zep F f q) x*(Zc B x*Zc B x))/\Ed (Zep F f q) (sqf F q):=by
 intro f
 induction f with
 | zero=>intro q a r;have:=aL.2 a.2.1;omega
 | succ f R=>
  intro q a r;have d:=(a.ok t k hs s m l).2;have e:=a.next d;have b:=(e.ok t k hs s m l).2;have g:=e.next b;unfold Zep;by_cases j:(sqf F q).length=1
  .rw [aO j];obtain⟨Y,Z,s3⟩:=Zik a.1 a.2.1 d j;refine⟨⟨[1],λx=>?_⟩,Ed.refl _⟩;rw [Y,nrm1 a.1 a.2.2.1 Z,Pt];push_cast;grind
  .rw [aJ j];have V:2<=q.length:=by obtain⟨f1,f2,f3,f4,f5,f6⟩:=Nf F a.1 a.2.1 d;obtain⟨D,u,v,i,G⟩:=Oz a.1 a.2.1 d;have l1:=aL.2 f3;have l2:=aL.2 u;omega
   have W:=Zpo a.1 a.2.1 d V;obtain⟨D,u,v,i,G⟩:=Oz a.1 a.2.1 d;obtain⟨b1,b2,b3,w,b5⟩:=Oz e.1 e.2.1 b;obtain⟨-,t2,t3,-,-,-⟩:=Nf F e.1 e.2.1 b;have lb:=aL.2 t3;obtain⟨⟨B,P⟩,Q⟩:=R _ g O;obtain⟨-,z,o3,o4⟩:=Zcf a.1 a.2.1 d b;have h:=(g.ok t k hs s m l).2;rw [a.2.2.1]at i;rw [v]at w;have H:∀x,Zc q x=Zc (sqf F q) x*Zc (Mu F q) x:=λx=>by rw [<-Xm,<-i]
   have I:∀x,Zc (sqf F q) x=Zc (Zaw F q) x*Zc (sqf F (Mu F q)) x:=λx=>by rw [<-Xm,<-z]
   have M:∀x,Zc (Mu F q) x=Zc (sqf F (Mu F q)) x*Zc (Mu F (Mu F q)) x:=λx=>by rw [<-Xm,<-w]
   refine⟨⟨Qx (sqf F (Mu F q)) B,λx=>?_⟩,?_⟩
   .rw [Xm,Xm,H x,I x,M x,P x];show _=Zc (Zaw F q) x*_*_;generalize Zc (sqf F (Mu F q)) x=S;generalize Zc B x=C;grind
   .have N:Ed (Zep F f (Mu F (Mu F q))) (sqf F (Mu F q)):=Q.trans (Zyn e.1 e.2.1 b h);have y:=N.mul_l (c:=Zaw F q);rw [<-z]at y;exact y
theorem Zsj{F n:Nat}(P:Tr p)(I:p≠[])(hs:Sz n p)(hn:n<=220)(hl:p.length<=11)(hF:p.length<=F+1)(u:Tr o)(R:o≠[])(g:Za1 F o)(r:Za1 F p)(h:Ed o (sqf F p)):(Mu F o).length=1/\sqf F o=Xr o:=by
 obtain⟨D,S,V,G,a5⟩:=Oz u R g;obtain⟨f1,f2,f3,f4,f5,f6⟩:=Nf F P I r;obtain⟨-,s2,s3,s4,s5,s6⟩:=Nf F u R g;have Q:Tr (Xr o):=Nw (Xg u);have M:=Zde Q (Mh Q) g;have H:Ed (Mu F o) (Xr o):=M.1.ed;have W:Ed (Mu F o) (ld (Xr o)):=(M.2.ed:Ed (Mu F o) (Xd (Xr o))).congr λx=>Ki _ x;have s:Sim (Xr o) o:=(Iy (Yu o)).trans (Qu u);obtain⟨k,w,t,l⟩:Ed (Xr o) (sqf F p):=by
  obtain⟨k,w,t,e⟩:=h;obtain⟨c,d,hc,B,v⟩:=s;have j:∀x:Rat,(c:Rat)*Zc (Xr o) x=(d:Rat)*Zc o x:=λx=>by rw [<-Zj,<-Zj];exact Ng x _ _ λi=>by rw [Qt,Qt];exact v i
  exact⟨d*k,w.map λa=>c*a,bD B t,λx=>by rw [Zj];have a:=e x;have b:=j x;push_cast;grind⟩
 have N:(Mu F o).length<=1:=by
  refine Zfd P I r D (H.trans ⟨k,w,t,l⟩) ?_;have Y:Ed (Mu F o) (lmul w (ld (Xr o))):=by obtain⟨m,z,hm,e⟩:=W;exact⟨m,lmul w z,hm,λx=>by rw [Zz,Zz];have:=e x;grind⟩
  have Z:Ed (Mu F o) (ld (sqf F p)):=Ed.lin H Y (ld w) k t λx=>by have:=Ce ((sqf F p).map λa=>k*a) (lmul w (Xr o)) (λy=>by rw [Zj,Zz];exact l y) x;rw [Ar,Cy]at this;rw [Zz,this]
  exact Z.congr λx=>(Ki _ x).symm
 have q:(Mu F o).length=1:=by have:=aL.2 S;omega
 refine⟨q,?_⟩;rw [nrm1 D V q,Zoz s2]at G;exact G.symm
end Go.Sky

