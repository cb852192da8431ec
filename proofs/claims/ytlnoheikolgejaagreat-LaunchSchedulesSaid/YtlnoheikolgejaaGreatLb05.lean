/- Rules, arithmetic and contracts: part 6. No conditions but those that each theorem names. -/
import Derived.Test.YtlnoheikolgejaaGreatLb04
set_option linter.all false
namespace Go.Sky
variable{s t:Rat}{u xs a p q b:List Int}{K B Q:Nat}{r d c:Int}{z:R2}
def Fr (L:Nat)(R:Nat){s v:List Int}{n e:Nat}(k:Tr u)(l:Tr v)(hs:Sz n s)(f:s≠[])(j:Tr s)(i:s.length<=L)(m:2*L<=R+2)(g:fcs 0 L<=2^e*2^e)(h:s=Qz u v):Sz (n+e) u:=Ygz k l hs f i g h
theorem Yk9{e f:Nat}(i:e<=13)(j:f+1=e)(h:K<=600):Zv1 e f K:=λl k=>by have g:∀l,l<=12->(l+1)*(600*(27-2*l)+1)<=65536:=O3;refine aB (aW _ (Nat.succ_le_succ (aO h O))) (g l O)
theorem chH{n:Nat}(F:Nat)(o:Tr xs)(v:xs≠[])(hs:Sz n xs)(hn:n<=350)(hl:xs.length<=13)(hb:(xs.length+2)*(xs.length+2)*(n+13)<=65536)(hF:xs.length<=F+1) :
  Zbe F xs/\Sz (n+15) (sqf F xs)/\(sqf F xs).length<=xs.length/\∀p∈chn F xs,Xw p<=(n+26)*25/\p.length<=xs.length:=by
 have e:=Zqz hs;have W:=Pq o;have k:Tr (Xf xs):=Nc (Yu o);have P:=Gz e O;have V:=Oe (Xf xs);have l:Tr (Xg (Xf xs)):=Np k;have m1:=Qv e;have m2:=Qv P;have l0:=aI.2 v;have x:gA (Xf xs) (Xg (Xf xs))=Yg (Xf xs):=aJ O;have y:gB (Xf xs) (Xg (Xf xs))=Yg (Xg (Xf xs)):=aJ O;have j:eok F (gA (Xf xs) (Xg (Xf xs))) (gB (Xf xs) (Xg (Xf xs))):=by
  rw [x,y];refine(Ydt 5 (n+11) (n:=n+5) (by grind [Yj]) (Yu k) (Yu l) (Gb (e.mono O5)) (Gb P) ?_ O ?_ ?_ ?_).1
  all_goals grind [Yj,Yk9,Nat.le_trans,Nat.mul_le_mul]
 obtain⟨f1,f2,f3,f4,f5,f6⟩:=Ov F o v j;have w:=Zec F k l;have g:=Zi6 o v;have M:fcs 0 13<=2^15*2^15:=O3;have m:=Fr 13 24 f2 w e g k O O M f4;have D:=Fr 13 24 w f2 e g k O O M (by grind [Dy]);have G:=Ox f2 w f3 f5;rw [<-f4]at G;have lg:=aI.2 f5;have lq:=aI.2 f3;have mg:=Qv D;have I:(sqf F xs).length<=xs.length:=O;have H:=Gz m O;have R:=Oe (sqf F xs);have N:=Yta (a:=sqf F xs) (b:=Yg (Xg (sqf F xs))) (n:=n+15+5) (s:=5) (K:=n+26) (f:=F) (by grind [Yj]) f2 (Yu (Np f2)) (m.mono O5) (Gb H) (by grind [Yj]) O (by grind [Yj,Yk9]) (Nat.le_trans (Nat.mul_le_mul (show(sqf F xs).length+1<=14 by omega) (show n+15+5+1<=500 by omega)) O5) (by grind [Yj]);refine⟨⟨⟨λi _=>aB (Zzz e O i) O,?_,j,?_,f1⟩,λi _=>aB (Zzz m O i) O,N.1⟩,m,I,λp Y=>?_⟩
 .intro h;have h3:(max (Xf xs).length (Xg (Xf xs)).length+2)*(max (Xf xs).length (Xg (Xf xs)).length+2)*(max (Xw (Xf xs)) (Xw (Xg (Xf xs)))+8)<=(xs.length+2)*(xs.length+2)*(n+13):=aO (aO O O) O;have:=h.2.2;omega
 .unfold Ai;rw [aJ O];split
  .rfl
  .have:((Xf xs).length-(Nm F (Xf xs) (Xg (Xf xs))).length+1)*(Xw (Nm F (Xf xs) (Xg (Xf xs)))+1)<=14*500:=aO O O;omega
 .obtain⟨S,Z⟩:=N.2 p Y;refine⟨aB S (aW _ ?_),O⟩;grind [Yj]
theorem chG{n:Nat}(F:Nat)(h:Tr xs)(e:xs≠[])(hs:Sz n xs)(g:n<=350)(i:xs.length<=11)(f:xs.length<=F+1) :
  Zbe F xs/\Sz (n+15) (sqf F xs)/\(sqf F xs).length<=xs.length/\∀p∈chn F xs,Xw p<=(n+26)*25/\p.length<=xs.length:=
 chH F h e hs g O (aB (aO (aO (show _<=13 by omega) (show _<=13 by omega)) (show _<=363 by omega)) O) f
theorem Dv.ed{g:List Int}(h:Dv g a):Ed g a:=by obtain⟨k,s,e,h⟩:=h;refine⟨k,s,e,λx=>?_⟩;have:=Ck k 0 a s g [] (λt=>O4) x;grind
theorem Zoa{F:Nat}(l:Tr xs)(g:xs≠[])(i:Zbe F xs)(s t:Rat) :
  ∃h:Rat,0<h/\∀u v,s<=u->u<=v->v<=t->v-u<=h->vat ((chn F xs).map Zi) u-vat ((chn F xs).map Zi) v=crs (Zi (sqf F xs)) u v:=by
 have f:=i.1.2.2.1;obtain⟨f1,f2,f3,f4,f5,f6⟩:=Ov _ l g f;have e:=Np f2;by_cases m:Xg (sqf F xs)=[]
 .refine Zl3 1 f2 (Yu e) f3 i.2.2 (by rfl) (λx=>?_) λq k a b=>?_
  .rw [<-Ku,m];show(0)=1*0;simp
  .exact Zgv l g f k a (b.sim (Qk e))
 .have j:0<Yv (Xg (sqf F xs)):=by have n:=Bb e m;have o:=Ns (Xg (sqf F xs));omega
  refine Zl3 (Yv _) f2 (Yu e) f3 i.2.2 (by exact_mod_cast j) (λx=>?_) λq k a b=>?_
  .rw [<-Ku,<-Zx];grind [Ma,Pp,Int.mul_comm,Fx]
  .exact Zgv l g f k a (b.sim (Qk e))
theorem Ysa{s g:List Int}(a0:∀x:Rat,Zi p x=Zi s x*Zi g x)(hg:Tr g)(W:g≠[])(v:Ed g (ld p))(l:Irr q)(G:Ed q p):Ed q s:=by
 refine bE λj=>?_;have f:=l.1;have D:=l.2.1;have F:¬Ed q (ld q):=λh=>by have Z:Ed q (Xg q):=h.congr λx=>(Ku q x).symm;have hl:=Oe q;have:=(Z.len f (Np f) (λe=>O4)).2;omega
 obtain⟨c1,m1,k1,e1⟩:=G;obtain⟨i,m,k2,S⟩:=v;have I:∀k,Ed (Cy q k) g:=λk=>by
  induction k with
  | zero=>exact⟨1,g,O,λx=>by rw [show Cy q 0=[1]from rfl,Of];simp⟩
  | succ k ih=>
   cases k with
   | zero=>
    have o:Ed q g:=(Zev s g m1 l k1 (λx=>O4)).resolve_left j;exact o.congr_l λx=>by rw [Cv,show Cy q 0=[1]from rfl,Of];simp
   | succ k=>
    obtain⟨c,u,kc,eu⟩:=ih;have hd:∀x:Rat,(c:Rat)*Zi (ld g) x=Zi (ld u) x*Zi (Cy q (k+1)) x+Zi u x*(((k:Rat)+1)*(Zi (Cy q k) x*Zi (ld q) x)):=λx=>by have:=Cw (g.map λa=>c*a) (lmul u (Cy q (k+1))) (λy=>by grind [Zx,Yn]) x;grind [Zas,Bx,Zri]
    have hp:∀x:Rat,Zi (ld p) x=Zi (ld s) x*Zi g x+Zi s x*Zi (ld g) x:=λx=>by have:=Cw p (lmul s g) (λy=>by grind [Yn]) x;grind [Bx]
    have hz:∀x:Rat,Zi (Ms ((lmul (lmul s u) (ld q)).map λa=>(i*((k:Int)+1))*a) ((lmul (Ms ((lmul s (ld u)).map λa=>i*a) ((lmul (Ms m ((ld s).map λa=>(-i)*a)) u).map λa=>(-1)*a)) q))) x=0:=λx=>by
     refine Ev (Cy q k) (λe=>?_) (λx=>?_) x
     .grind [Aw,Zdg]
     .rw [Xp,Zx,Yn,Yn,Yn,Xp,Zx,Yn,Zx,Yn,Xp,Zx];have M:=S x;have N:=hp x;have P:=hd x;have R:=eu x;rw [Cv]at P R;push_cast;grind
    have o:=Zev (lmul s u) (ld q) (Ms ((lmul (Ms m ((ld s).map λa=>(-i)*a)) u)) ((lmul s (ld u)).map λa=>(-i)*a)) (k:=i*((k:Int)+1)) l (bC k2 O) (λx=>by have:=hz x;rw [Xp,Zx,Yn,Yn,Yn,Xp,Zx,Yn,Zx,Yn,Xp,Zx]at this;rw [Yn,Xp,Yn,Xp,Zx,Zx,Yn];grind)
    have Y:Ed q u:=by obtain⟨n,w,H,V⟩:=o.resolve_right F;exact(Zev s u w (k:=n) l H (λx=>by grind [Yn])).resolve_left j
    obtain⟨n,w,H,V⟩:=Y;refine⟨n*c,w,bC H kc,λx=>?_⟩;grind [Cv]
 obtain⟨M,N⟩:=Zdg f D g.length;have:=((I g.length).len M hg W).2;omega
theorem Yry(f:d≠0):Irr [-r,d]:=by have e:Tr [-r,d]:= .inr f;refine⟨e,O5,λq h g=>?_⟩;have:=(g.len h e O5).2;grind
theorem Zkx(r d:Int)(x:Rat):Zi [-r,d] x=(d:Rat)*x-r:=by show((-r))+x*((d)+x*0)=_;grind
theorem Yqu(n:Tr p)(g:d≠0)(h:Zi p ((r:Rat)/d)=0):Ed [-r,d] p:=by
 have i:(d:Rat)≠0:=O11;have m:Tr [-r,d]:= .inr g;obtain⟨k,s,hs⟩:=Cx p (q:=[-r,d]) O5;have e:=Mj (m.mem O5) k;generalize cf _ _^k=L at hs e;have j:∀x,(L)*Zi p x=Zi s x*Zi [-r,d] x+Zi (Qp p [-r,d]) x:=λx=>by have:=Ck L (-1) p s [-r,d] (Qp p [-r,d]) (λt=>O4) x;grind
 have l:=Pf p (q:=[-r,d]) O5;have o:∀x,Zi (Qp p _) x=0:=λx=>by
  have f:=j ((r)/d);rw [Zkx]at f
  match hr:Qp p _,l with
  | [],_=>rfl
  | [c],_=>
   grind [Of]
 exact⟨L,s,e,λx=>O4⟩
theorem Ed.root(g:d≠0)(h:Ed [-r,d] p):Zi p ((r:Rat)/d)=0:=by obtain⟨k,s,i,h⟩:=h;have e:(d:Rat)≠0:=O11;have f:(k:Rat)≠0:=O11;grind [Zkx]
theorem Yin{F:Nat}(g:Tr xs)(j:xs≠[])(f:eok F (gA (Xf xs) (Xg (Xf xs))) (gB (Xf xs) (Xg (Xf xs))))(i:d≠0)(h:Zi xs ((r:Rat)/d)=0):Zi (sqf F xs) ((r:Rat)/d)=0:=by
 obtain⟨f1,f2,f3,f4,f5,f6⟩:=Ov _ g j f;have hs:=Nc (Yu g);have e:=Np hs;have k:=(Yqu g i h).sim ((Qk g).symm.trans (Hm _).symm);have l:∀x,Zi (Xf xs) x=Zi (sqf F xs) x*Zi (Nm F (Xf xs) (Xg (Xf xs))) x:=λx=>by grind [Xa]
 have m:=((Zen hs e f).2.ed).congr λx=>Ku _ x;exact(Ysa l (Zec _ hs e) f5 m (Yry i) k).root i
def Away(s t:Rat)(f:Rat->Rat):Prop:=∃δ:Rat,0<δ/\∀x,s<=x->x<=t->δ<=f x\/f x<=-δ
theorem Away.mul{f g h:Rat->Rat}(w:Away s t f)(y:Away s t g)(e:∀x,h x=f x*g x):Away s t h:=by
 obtain⟨a,k,l⟩:=w;obtain⟨b,m,n⟩:=y;refine⟨a*b,aX k m,λx i j=>?_⟩;rcases l x i j with o|o<;>rcases n x i j with v|v
 .have:=aG (a:=f x-a) (b:=g x) O4 O4;have:=aG (a:=a) (b:=g x-b) O4 O4;grind
 .have:=aG (a:=f x-a) (b:=- g x) O4 O4;have:=aG (a:=a) (b:=- g x-b) O4 O4;grind
 .have:=aG (a:=- f x-a) (b:=g x) O4 O4;have:=aG (a:=a) (b:=g x-b) O4 O4;grind
 .have:=aG (a:=- f x-a) (b:=- g x) O4 O4;have:=aG (a:=a) (b:=- g x-b) O4 O4;grind
theorem Away.lin(g:0<d)(h:(r:Rat)<d*s\/(d:Rat)*t<r):Away s t (Zi [-r,d]):=by
 have i:(0)<(d:Rat):=by exact_mod_cast g
 rcases h with h|h
 .refine⟨d*s-r,O4,λx e f=> .inl ?_⟩;rw [Zkx];have:=aG (a:=(d)) (b:=x-s) O4 O4;grind
 .refine⟨r-d*t,O4,λx e f=> .inr ?_⟩;rw [Zkx];have:=aG (a:=(d)) (b:=t-x) O4 O4;grind
theorem Away.sq(s t:Rat):Away s t (Zi [1,0,1]):=⟨1,by rfl,λx _ _=>by
 left;show(1)<=((1))+x*(((0))+x*(((1))+x*0));have:0<=x*x:=by
  rcases(show 0<=x\/x<0 by grind)with h|h
  .grind [Rat.mul_nonneg]
  .have:=aG (a:=-x) (b:=-x) O4 O4;grind
 grind⟩
theorem Away.one(s t:Rat):Away s t (Zi [1]):=⟨1,by rfl,λx _ _=>by grind [Of,Rat.le_refl]⟩
def eB(K C:Nat):Nat->Nat
 | 0=>0
 | n+1=>C+K*eB K C n
def eL(K C:Nat):Nat->Nat
 | 0=>0
 | n+1=>K*eL K C n+eB K C n
def eM(K C:Nat):Nat->Nat
 | 0=>0
 | n+1=>eL K C n+K*eM K C n
theorem Ep{a b:Nat}(h:a<=b):(a:Rat)<=(b:Rat):=by exact_mod_cast h
theorem Yod{C:Nat}(h:c.natAbs<=C):-(C:Rat)<=(c:Rat)/\(c:Rat)<=(C:Rat):=by
 have e:((-(C:Int)))<=(c:Rat):=by exact_mod_cast (show -(C)<=c by omega)
 have f:(c:Rat)<=(C):=by exact_mod_cast (show c<=(C) by omega)
 push_cast at e f
 all_goals grind
def Zti{C:Nat}(h:∀i,(cf (c::p) i).natAbs<=C):c.natAbs<=C/\∀i,(cf p i).natAbs<=C:=⟨h 0,λi=>h (i+1)⟩
theorem Zrd{K C:Nat} : ∀(n:Nat) (p:List Int),p.length<=n->(∀i,(cf p i).natAbs<=C)->∀x:Rat,-(K:Rat)<=x->x<=(K:Rat)->-(eB K C n:Rat)<=Zi p x/\Zi p x<=(eB K C n:Rat)
 | n,[],_,_,x,_,_=>by
  show -(eB K C n:Rat)<=0/\(0:Rat)<=(eB K C n)
  all_goals grind
 | 0,c::p,hl,_,_,_,_=>absurd hl O5
 | n+1,c::p,hl,hc,x,h1,h2=>by
  obtain⟨f,g⟩:=Zti hc;obtain⟨h,j⟩:=Zrd n p (by simpa using hl) g x h1 h2;obtain⟨l,m⟩:=Yod f;have k:(0:Rat)<=(K):=Ep (aV _);obtain⟨f1,f2⟩:=Zcx h1 h2 h j k;have e:((eB K C (n+1)))=(C:Rat)+(K)*(eB K C n):=by show((C+K*eB K C n:Nat):Rat)=_;push_cast;rfl
  rw [show Zi _ x=(c)+x*Zi p x from rfl];constructor<;>grind
theorem Zrc{K C:Nat} : ∀(n:Nat) (p:List Int),p.length<=n->(∀i,(cf p i).natAbs<=C)->Lip (-(K:Rat)) (K:Rat) (eL K C n:Rat) (Zi p)
 | n,[],_,_,x,y,_,j,_=>by
  have h:(0:Rat)<=(eL K C n):=Ep (aV _);have:=aG (b:=y-x) h O4;show(0:Rat)-0<=_/\(0:Rat)-0<=_
  all_goals grind
 | 0,c::p,hl,_,_,_,_,_,_=>absurd hl O5
 | n+1,c::p,hl,hc,x,y,h1,j,h2=>by
  obtain⟨l,f⟩:=Zti hc;obtain⟨m,o⟩:=Zrc n p O4 f x y h1 j h2;obtain⟨v,w⟩:=Zrd n p O4 f y O4 h2;have k:(0:Rat)<=(K:Rat):=Ep (aV _);obtain⟨f1,f2⟩:=Zcx (q:=x) (g:=Zi p x-Zi p y) (e:=(eL K C n)*(y-x)) h1 O4 O4 O4 k;have D:=aG (a:=(eB K C n)-Zi p y) (b:=y-x) O4 O4;have F:=aG (a:=(eB K C n)+Zi p y) (b:=y-x) O4 O4;have e:((eL K C (n+1):Nat))=(K:Rat)*(eL K C n)+(eB K C n):=by show((K*eL K C n+eB K C n:Nat):Rat)=_;simp
  rw [e,show Zi (c::p) x=(c:Rat)+x*Zi p x from rfl,show Zi (c::p) y=(c:Rat)+y*Zi p y from rfl]
  all_goals grind
theorem Yjo{K C:Nat} : ∀(n:Nat) (p:List Int),p.length<=n->(∀i,(cf p i).natAbs<=C)->Tay (-(K:Rat)) (K:Rat) (eM K C n:Rat) p
 | n,[],_,_,x,y,_,f,_=>by
  have h:(0:Rat)<=(eM K C n):=Ep (aV _);have m:=aG (a:=y-x) (b:=y-x) O4 O4;have:=aG h m;show -((eM K C n)*(y-x)*(y-x))<=(0:Rat)-0-(y-x)*0/\(0:Rat)-0-(y-x)*0<=(eM K C n)*(y-x)*(y-x)
  all_goals grind
 | 0,c::p,hl,_,_,_,_,_,_=>absurd hl O5
 | n+1,c::p,hl,hc,x,y,hs,f,ht=>by
  obtain⟨v,g⟩:=Zti hc;obtain⟨k,l⟩:=Yjo n p O4 g x y hs f ht;obtain⟨w,D⟩:=Zrc n p O4 g x y hs f ht;have o:(0)<=(K:Rat):=Ep (aV _);have j:0<=y-x:=O4;obtain⟨f1,f2⟩:=Zcx (q:=x) hs O4 k l o;have F:=aG (b:=(eL K C n)*(y-x)-(Zi p y-Zi p x)) j O4;have G:=aG (b:=(eL K C n)*(y-x)+(Zi p y-Zi p x)) j O4;have e:((eM K C (n+1):Nat))=(eL K C n)+(K:Rat)*(eM K C n):=by show((eL K C n+K*eM K C n:Nat):Rat)=_;simp
  rw [e,Zg6,show Zi (c::p) y=(c)+y*Zi p y from rfl,show Zi (c::p) x=(c)+x*Zi p x from rfl]
  all_goals grind
theorem Zz6{A:Nat}(j:Tr a)(S:Tr b)(la:2<=a.length)(lb:b.length+1=a.length)(M:0<A)(na:∀i,(cf a i).natAbs<=A)(nb:∀i,(cf b i).natAbs<=A)(W:∀q,Tr q->Ed q a->Ed q b->q.length<=1) :
  ∃(U V:List Int) (c:Int),c≠0/\U.length+2=a.length/\V.length+1=a.length/\(∀i,(cf U i).natAbs<=(2*(2*a.length-3)*A)^(2*a.length-4))/\(∀i,(cf V i).natAbs<=(2*(2*a.length-3)*A)^(2*a.length-4))/\
   ∀x,(c:Rat)=Zi U x*Zi a x+Zi V x*Zi b x:=by
 obtain⟨U,V,lU,lV,l,m,n,hz⟩:=Zju a b 1 (p:=a.length-2) (q:=a.length-1) M na nb O O O;have D:¬(tzl U=[]/\tzl V=[]):=λ⟨h1,h2⟩=>by grind [Ii]
 clear l;rw [show a.length-2+(a.length-1)=2*a.length-3 by omega]at m n;have h:a≠[]:=λe=>O4;have G:∀i,cf (Ms (lmul U a) (lmul V b)) i=(ps U*ps a).c i+(ps V*ps b).c i:=λi=>by rw [Li,Dc,Dc,PS.mul_c,PS.mul_c];rfl
 have F:∀t,Zi (Ms (lmul U a) (lmul V b)) t=Zi U t*Zi a t+Zi V t*Zi b t:=λt=>by grind [Xp,Yn]
 generalize Ms (lmul U a) (lmul V b)=R at G F;have N:∀t,Zi R t=(cf R 0:Rat):=λt=>by
  rw [<-Of (cf R 0) t];refine Ma t _ _ λi=>?_
  match i with
  | 0=>rfl
  | i+1=>grind [Yr]
 refine⟨U,V,cf R 0,λI=>?_,O,O,m,n,λx=>O4⟩;have a0:∀t,Zi U t*Zi a t+Zi V t*Zi b t=0:=λt=>by rw [<-F,N,I];rfl
 obtain⟨g,P,Q,f,o,H,v⟩:=Zok _ a b j S (aH _);have hl:=W g f o H;have Z:=(o.len f j h).1;have y:tzl V=[]:=by
  refine bE λy=>?_
  match g,Z,hl,f,v with
  | [c],_,_,f,v=>
   have k:c≠0:=f.mem O5;have Y:Ed a (tzl V):=⟨c,Ms (lmul P V) ((lmul Q U).map λz=>(-1)*z),k,λx=>by grind [Of,Lu,Xp,Zx,Yn]⟩
   have:=(Y.len j (Xx V) y).2;grind [Md]
  | c::d::r,_,h9,_,_=>grind
 have w:tzl U=[]:=by
  refine bE λw=>?_;have:∀t,Zi a t=0:=Ev U w λt=>by grind [Zar]
  exact j.mem h (Zre this _)
 grind
def Ybd(K A n e:Nat):Bool:=
 let X:=(2*(2*n-3)*A)^(2*n-4);let W:=eB K X (n-1)
 Nat.ble (2*(2*W+1)*(2*eL K A n)) (2^e) && Nat.ble (2*(2*W+1)*eM K A n) (2^e)
theorem big_or  {A n e:Nat} (hK:0<K) (D:0<A) (F:Tr a) (G:Tr b) (M:a.length=n) (h2:2<=n) (R:b.length+1=a.length) (S:∀i,(cf a i).natAbs<=A) (Y:∀i,(cf b i).natAbs<=A) (H:∀q,Tr q->Ed q a->Ed q b->q.length<=1)
  (x:Rat) (j:-(K:Rat)<=x) (k:x<=(K:Rat)):Big (1/((2*eB K ((2*(2*n-3)*A)^(2*n-4)) (n-1)+1:Nat):Rat)) x (Zi a)\/Big (1/((2*eB K ((2*(2*n-3)*A)^(2*n-4)) (n-1)+1:Nat):Rat)) x (Zi b):=by
 obtain⟨U,V,c,y,lU,lV,f,g,I⟩:=Zz6 F G O R D S Y H;rw [M]at f g;generalize (2*(2*n-3)*A)^(2*n-4)=X at *;obtain⟨u1,u2⟩:=Zrd (n-1) U O f x j k;obtain⟨v1,v2⟩:=Zrd (n-1) V O g x j k;generalize eB K X (n-1)=W at *;have l:(0:Rat)<=(W:Rat):=Ep (aV _);generalize hε:1/((2*W+1):Rat)=ε;have N:0<=ε:=by grind [Rat.inv_pos,Rat.div_def]
 by_cases Z:Big ε x (Zi a)
 .grind
 .by_cases p2:Big ε x (Zi b)
  .grind
  .obtain⟨m,o⟩:=Zep Z;obtain⟨v,w⟩:=Zep p2;obtain⟨q1,q2⟩:=Zcx u1 u2 m o l;obtain⟨r1,r2⟩:=Zcx v1 v2 v w l;have h5:(c:Rat)<=-1\/1<=(c:Rat):=by
    rcases mA y with h|h
    .left;have:((c:Int):Rat)<=((-1:Int)):=by exact_mod_cast (show c<=-1 by omega)
     grind
    .right;have:=O;exact_mod_cast this
   have P:0<ε:=by grind
   all_goals grind
theorem two_pow_pos(e:Nat):(0:Rat)<((2^e:Nat):Rat):=by have:0<2^e:=cE O;exact_mod_cast this
theorem Ytq  {F A n e:Nat} (hx:Tr xs) (Z:xs≠[]) (hC:Zbe F xs) (hK:0<K) (hA:0<A) (hn:(sqf F xs).length=n) (h2:2<=n) (S:∀i,(cf (sqf F xs) i).natAbs<=A) (nb:∀i,(cf (Xg (sqf F xs)) i).natAbs<=A) (hs:Ybd K A n e=true)
  {u v:Rat} (h1:-(K:Rat)<=u) (R:u<=v) (h3:v<=(K:Rat)) (hh:v-u<=1/((2^e:Nat):Rat)) :
  vat ((chn F xs).map Zi) u-vat ((chn F xs).map Zi) v=crs (Zi (sqf F xs)) u v:=by
 have o:=hC.1.2.2.1;obtain⟨f1,f2,f3,f4,f5,f6⟩:=Ov F hx Z o;have f:=Np f2;have a1:=Oe (sqf F xs);have hd:Xg (sqf F xs)≠[]:=λe=>O4;have N:1<=Yv (Xg (sqf F xs)):=by have h1:=Bb f hd;have h2:=Ns (Xg (sqf F xs));omega
 have a0:(1:Rat)<=(Yv (Xg (sqf F xs)):Rat):=by exact_mod_cast N
 have w:∀i,(cf (Yg (Xg (sqf F xs))) i).natAbs<=A:=λi=>by have h5:=Fx (Xg (sqf F xs)) i;have h6:=nb i;rw [<-h5,bT]at h6;have:(cf (Yg (Xg (sqf F xs))) i).natAbs*1<=(cf (Yg (Xg (sqf F xs))) i).natAbs*(Yv (Xg (sqf F xs))).natAbs:=aW _ O;omega
 have k:∀q,Tr q->Ed q (sqf F xs)->Ed q (Yg (Xg (sqf F xs)))->q.length<=1:=λq hq a b=>Zgv hx Z o hq a (b.sim (Qk f));have I:(Yg (Xg (sqf F xs))).length+1=(sqf F xs).length:=by grind [Yj]
 have g:=big_or (e:=e) hK hA f2 (Yu f) hn h2 I S w k;unfold Ybd at hs;simp only [aY,Nat.ble_eq]at hs;obtain⟨s1,s2⟩:=hs;generalize (2*(2*n-3)*A)^(2*n-4)=X at *;generalize eB K X (n-1)=W at *;have hD:(0:Rat)<((2*W+1:Nat):Rat):=by grind
 have hP:=two_pow_pos e;have V:=Ep s1;have Y:=Ep s2;have c1:((2*(2*W+1)*(2*eL K A n):Nat):Rat)=2*((2*W+1:Nat):Rat)*(2*(eL K A n:Rat)):=O5;have c2:((2*(2*W+1)*eM K A n:Nat):Rat)=2*((2*W+1:Nat):Rat)*(eM K A n:Rat):=O5;rw [c1]at V;rw [c2]at Y;have hi:=fD.2 hD;have H:=fD.2 hP;have l:((2*W+1:Nat):Rat)*((2*W+1:Nat):Rat)⁻¹=1:=O4;have m:((2^e:Nat):Rat)*((2^e:Nat):Rat)⁻¹=1:=O4;rw [lF,Rat.one_mul]at hh;simp only [lF,Rat.one_mul]at g;generalize ((2*W+1:Nat):Rat)=D at *;generalize ((2^e:Nat):Rat)=P at *;have j:(0:Rat)<=(eL K A n:Rat):=Ep (aV _);have G:(0:Rat)<=(eM K A n:Rat):=Ep (aV _);refine Zjs (s:=-(K:Rat)) (t:=(K:Rat)) (κ:=(Yv (Xg (sqf F xs)):Rat)) (ε:=D⁻¹) (L:=(eL K A n:Rat)) (L':=(eL K A n:Rat)) (M:=(eM K A n:Rat)) (h:=P⁻¹) f2 (Yu f) hC.2.2 O4 (λx=>?_) hi g j (Zrc n _ O S) j (Zrc n _ O w) G (Yjo n _ O S) H ?_ ?_ h1 R h3 hh
 .rw [<-Ku,<-Zx];grind [Ma,Pp,Int.mul_comm,Fx]
 .-- P⁻¹ * (2 L) ≤ D⁻¹ / 2
  have t1:=aG (a:=P⁻¹*D⁻¹) (b:=P-2*D*(2*(eL K A n:Rat))) (by have:=aX H hi;grind) O4;have y:P⁻¹*D⁻¹*(P-2*D*(2*(eL K A n:Rat)))=D⁻¹*(P*P⁻¹)-2*P⁻¹*(D*D⁻¹)*(2*(eL K A n:Rat)):=O4;rw [y,l,m]at t1;grind
 .have t1:=aG (a:=P⁻¹*D⁻¹) (b:=P-2*D*(eM K A n:Rat)) (by have:=aX H hi;grind) O4;have y:P⁻¹*D⁻¹*(P-2*D*(eM K A n:Rat))=D⁻¹*(P*P⁻¹)-2*P⁻¹*(D*D⁻¹)*(eM K A n:Rat):=O4;rw [y,l,m]at t1;have t2:=aG (a:=(Yv (Xg (sqf F xs)):Rat)-1) (b:=D⁻¹) O4 O4;grind
theorem Zob{F:Nat}(G:Tr xs)(l:xs≠[])(x:Zbe F xs)(D:s<=t):vat ((chn F xs).map Zi) t<=vat ((chn F xs).map Zi) s:=by
 obtain⟨h,m,M⟩:=Zoa G l x s t;have N:∀f u v,0<=crs f u v:=λf u v=>by unfold crs;all_goals omega
 have I:∀n:Nat,∀y,s<=y->y<=t->y-s<=(n:Rat)*h->vat ((chn F xs).map Zi) y<=vat ((chn F xs).map Zi) s:=λn=>by
  induction n with
  | zero=>
    grind
  | succ n H=>
   intro y e o g;have i:((n+1:Nat):Rat)*h=(n:Rat)*h+h:=O4;rcases(show y-s<=(n:Rat)*h\/(n:Rat)*h<y-s by grind)with j|j
   .grind
   .have w:(0:Rat)<=(n:Rat)*h:=aG O4 O4;rcases(show s<=y-h\/y-h<s by grind)with k|k
    .have a:=H (y-h) k O4 O4;grind
    grind
 have e:∃n:Nat,t-s<=(n:Rat)*h:=by
  have o:0<h⁻¹:=fD.2 m;refine⟨((t-s)*h⁻¹).ceil.toNat,?_⟩;have g:=@mP ((t-s)*h⁻¹);have i:((((t-s)*h⁻¹).ceil:Int):Rat)<=((((t-s)*h⁻¹).ceil.toNat:Nat):Rat):=by have:((t-s)*h⁻¹).ceil<=((((t-s)*h⁻¹).ceil.toNat:Nat):Int):=jZ _;exact_mod_cast this
  have j:=dH (mL g i) (show 0<=h by grind);have w:(t-s)*h⁻¹*h=t-s:=O4;grind
 obtain⟨n,P⟩:=e;grind
def qv(z:R2):Rat:=(z.1:Rat)/(z.2:Rat)
theorem Zxm{x y X Y g:Nat}(F:g=Nat.gcd x y)(H:0<y)(D:0<Y)(h:x*Y=X*y):y/g∣Y/\x/g<=X:=by
 have f:0<g:=O4;have n:Nat.Coprime (x/g) (y/g):=by grind [Nat.coprime_div_gcd_div_gcd]
 have o:x/g*g=x:=mB (by grind [Nat.gcd_dvd_left]);have v:y/g*g=y:=mB (by grind [Nat.gcd_dvd_right]);have w:x/g*Y=X*(y/g):=by refine jO f ?_;grind
 have l:y/g∣Y:=n.symm.dvd_of_dvd_mul_left (by grind [Nat.dvd_mul_left]);refine⟨l,?_⟩;obtain⟨k,G⟩:=l;have i:0<k:=mC λe=>O4;have j:0<y/g:=mC λe=>O4;have m:x/g*k=X:=by refine jO j ?_;grind
 rw [<-m];exact dJ _ i
theorem Zsb{x y X Y:Int}(l:0<y)(D:0<Y)(h:x*Y=X*y)(j:bl X.natAbs<=B)(e:bl Y.natAbs<=B)(w:B<=65536) :
  ¬Hh x y/\Dw x y∣Y/\0<Dw x y/\bl (Zac x y).natAbs<=B/\bl (Dw x y).natAbs<=B/\Zac x y*y=x*Dw x y:=by
 have F:Kh x y=(Nat.gcd x.natAbs y.natAbs):=by rw [Yr0 O];rfl
 have k:x.natAbs*Y.natAbs=X.natAbs*y.natAbs:=by rw [<-bT,<-bT,h]
 obtain⟨g,o⟩:=Zxm rfl O O k;have i:(y/Kh x y).natAbs=y.natAbs/Nat.gcd x.natAbs y.natAbs:=by grind
 have v:(x/Kh x y).natAbs=x.natAbs/Nat.gcd x.natAbs y.natAbs:=by grind [Int.natAbs_ediv_of_dvd,Zwf,Zho]
 have m:bl (y/Kh x y).natAbs<=B:=aB (Oh (by rw [i];exact kE O g)) e;have n:bl (x/Kh x y).natAbs<=B:=aB (Oh O) j;have f:¬Hh x y:=λh=>by unfold Hh at h;omega
 obtain⟨G,H,-⟩:=Zf5 f;refine⟨f,?_,Zy9 f l,O4,O4,?_⟩
 all_goals grind [Int.natAbs_dvd_natAbs,Yl3]
structure En (K Q:Nat) (d:Nat) (z:R2):Prop where
 pos:0<z.2
 dv:z.2∣((Q*2^d:Nat):Int)
 lo:-(K:Rat)<=qv z
 hi:qv z<=(K:Rat)
theorem En.up{d:Nat}(h:En K Q d z):En K Q (d+1) z:=by obtain⟨e,i,f,g⟩:=h;refine⟨e,?_,f,g⟩;have:((Q*2^(d+1):Nat))=((Q*2^d):Int)*2:=O4;rw [this];grind [Int.dvd_trans,Int.dvd_mul_right]
theorem canc{N p s Y X D:Int}(e:p≠0)(f:N*p=s*D)(g:s*Y=X*p):N*Y=X*D:=by refine Int.eq_of_mul_eq_mul_right e ?_;grind
theorem Gn{z:Int}(h:0<z):(0:Rat)<(z:Rat):=by exact_mod_cast h
def Zd5{n m:Nat}(h:n<2^m):bl n<=m:=(Qq m n).2 h
theorem mid_en{d:Nat}{a b:R2}(ha:En K Q d a)(hb:En K Q d b)(hQ:0<Q)(W:Q*2^(d+1)<2^B)(Z:2*K*(Q*2^d)<2^B)(H:B<=65536) :
  Zfk a b/\En K Q (d+1) (Nd a b)/\qv (Nd a b)=(qv a+qv b)/2/\bl (Nd a b).1.natAbs<=B/\bl (Nd a b).2.natAbs<=B:=by
 obtain⟨I,⟨e,da⟩,la,ua⟩:=ha;obtain⟨M,⟨f,N⟩,lb,ub⟩:=hb;generalize hY:((Q*2^d:Nat):Int)=Y at *;have a1:0<Q*2^d:=gY hQ (cE O);have i:0<Y:=O;have a7:=Gn I;have a8:=Gn M;have rY:=Gn i;have o:0<a.2*b.2:=fQ I M;have g:(a.1*b.2+b.1*a.2)*Y=(a.1*e+b.1*f)*(a.2*b.2):=by grind
 have a4:(a.1:Rat)*e=qv a*Y:=by unfold qv;have:(Y:Rat)=(a.2:Rat)*e:=O11;grind
 have a5:(b.1:Rat)*f=qv b*Y:=by
  unfold qv;have:(Y:Rat)=(b.2:Rat)*f:=by rw [N];simp
  grind
 have y:((a.1*e+b.1*f:Int):Rat)=(qv a+qv b)*Y:=O4;have a2:(a.1*e+b.1*f).natAbs<=2*K*(Q*2^d):=by
  have h:((2*K*(Q*2^d):Nat):Rat)=2*(K:Rat)*(Y:Rat):=by rw [<-hY];push_cast;rfl
  have t1:=aG (a:=2*(K:Rat)-(qv a+qv b)) (b:=(Y:Rat)) O4 O4;have t2:=aG (a:=2*(K:Rat)+(qv a+qv b)) (b:=(Y:Rat)) O4 O4;have u1:((a.1*e+b.1*f:Int):Rat)<=(((2*K*(Q*2^d):Nat):Int):Rat):=by rw [y];push_cast at h ⊢;grind
  have u2:((-((2*K*(Q*2^d):Nat):Int):Int):Rat)<=((a.1*e+b.1*f:Int):Rat):=by rw [y];push_cast at h ⊢;grind
  have v1:a.1*e+b.1*f<=((2*K*(Q*2^d):Nat):Int):=by exact_mod_cast u1
  have v2:-((2*K*(Q*2^d):Nat):Int)<=a.1*e+b.1*f:=by exact_mod_cast u2
  omega
 have a3:Y.natAbs=Q*2^d:=O;have a0:Q*2^(d+1)=2*(Q*2^d):=O4;have D:bl Y.natAbs<=B:=Zd5 O;have j:bl (a.1*e+b.1*f).natAbs<=B:=Zd5 O;obtain⟨f1,f2,f3,f4,f5,f6⟩:=Zsb o i g j D H;have a6:=canc (Int.ne_of_gt o) f6 g;have k:bl (2*Y).natAbs<=B:=Zd5 O4;have v:Zac (a.1*b.2+b.1*a.2) (a.2*b.2)*1*(2*Y)=(a.1*e+b.1*f)*(Dw (a.1*b.2+b.1*a.2) (a.2*b.2)*2):=by grind
 have n:0<Dw (a.1*b.2+b.1*a.2) (a.2*b.2)*2:=O;obtain⟨P,R,x,F,G,S⟩:=Zsb n (by omega:0<2*Y) v j k H;have w:=canc (Int.ne_of_gt n) S v;have l:(Nd a b).1=Zac (Zac (a.1*b.2+b.1*a.2) (a.2*b.2)*1) (Dw (a.1*b.2+b.1*a.2) (a.2*b.2)*2):=rfl;have m:(Nd a b).2=Dw (Zac (a.1*b.2+b.1*a.2) (a.2*b.2)*1) (Dw (a.1*b.2+b.1*a.2) (a.2*b.2)*2):=rfl;rw [<-l,<-m]at w;rw [<-m]at R x G;rw [<-l]at F;have hq:qv (Nd a b)=(qv a+qv b)/2:=by
  have V:(((Nd a b).1:Int):Rat)*(2*(Y:Rat))=((a.1*e+b.1*f:Int):Rat)*(((Nd a b).2:Int):Rat):=by
   have:(((Nd a b).1*(2*Y):Int):Rat)=(((a.1*e+b.1*f)*(Nd a b).2:Int):Rat):=by rw [w]
   grind
  rw [y]at V;have rd:=Gn x;unfold qv at *;grind
 refine⟨⟨f1,P⟩,⟨x,?_,O4,O4⟩,hq,F,G⟩;grind
def vch(F:Nat)(xs:List Int)(x:Rat):Int:=vat ((chn F xs).map Zi) x
def cvc_v{F:Nat}(h:0<z.2):cvc F xs z=vch F xs (qv z):=Ytd h
def Sqn(P:R2->R2->Prop)(hi:Rat):Rat->List (R2×R2)->Prop
 | e,[]=>e<=hi
 | e,c::r=>e<=qv c.1/\qv c.1<qv c.2/\P c.1 c.2/\Sqn P hi (qv c.2) r
theorem Sqn.le{P:R2->R2->Prop}{hi:Rat} : ∀{e:Rat} {l:List (R2×R2)},Sqn P hi e l->e<=hi
 | e,[],h=>h
 | e,c::r,h=>by have:=Sqn.le h.2.2.2;have:=h.1;have:=h.2.1;grind
theorem Sqn.low{P:R2->R2->Prop}{hi:Rat}{f e:Rat}(g:e<=f):∀{l:List (R2×R2)},Sqn P hi f l->Sqn P hi e l
 | [],h=>by have h:f<=hi:=h;show e<=hi;grind
 | c::r,h=>⟨by have:=h.1;grind,h.2⟩
def Sqn.app{P:R2->R2->Prop}{e hi:Rat}{j:List (R2×R2)}(g:Sqn P hi e j):∀{f:Rat} {i:List (R2×R2)},Sqn P e f i->Sqn P hi f (i ++ j)
 | f,[],h=>g.low h
 | f,c::r,h=>⟨h.1,h.2.1,h.2.2.1,Sqn.app g h.2.2.2⟩
theorem Zrl{a:R2}(l:0<a.2)(h:a.1.natAbs<=K):-(K:Rat)<=qv a/\qv a<=(K:Rat):=by
 obtain⟨j,k⟩:=Yod h;have m:(1:Rat)<=(a.2):=by exact_mod_cast (show 1<=a.2 by omega)
 have e:(0)<=(K:Rat):=Ep (aV _);have hi:=fD.2 (show 0<(a.2:Rat) by grind);have f:(a.2)*(a.2:Rat)⁻¹=1:=O4;unfold qv;have t1:=aG (a:=(a.2)⁻¹) (b:=(K)*a.2-a.1) O4 (by have:=aG (b:=(a.2)-1) e O4;grind);have t2:=aG (a:=(a.2)⁻¹) (b:=(K)*a.2+a.1) O4 (by have:=aG (b:=(a.2)-1) e O4;grind);have g:(a.2:Rat)⁻¹*((K)*a.2-a.1)=(K)*(a.2*(a.2:Rat)⁻¹)-a.1*(a.2:Rat)⁻¹:=O4;have i:(a.2:Rat)⁻¹*((K)*a.2+a.1)=(K)*(a.2*(a.2:Rat)⁻¹)+a.1*(a.2:Rat)⁻¹:=O4;rw [g,f]at t1;rw [i,f]at t2
 all_goals grind
theorem Zc7{a:R2}{n:Nat}(e:0<a.2)(f:bl a.1.natAbs<=n)(g:bl a.2.natAbs<=n)(h:n<=65536) :
  ¬Hh a.1 a.2/\0<(slow a).2/\bl (slow a).1.natAbs<=n/\bl (slow a).2.natAbs<=n/\qv (slow a)=qv a:=by
 obtain⟨f1,f2,f3,f4,f5,f6⟩:=Zsb e e rfl f g h;refine⟨f1,f3,f4,f5,?_⟩;have r1:=Gn e;have r2:=Gn f3;have i:((Zac a.1 a.2))*(a.2:Rat)=(a.1)*((Dw a.1 a.2)):=by exact_mod_cast f6
 show((Zac a.1 a.2))/((Dw a.1 a.2))=(a.1)/(a.2:Rat);grind
theorem sep_of  {F A e:Nat} (y:Tr xs) (k:xs≠[]) (o:Zbe F xs) (w:0<K) (n:0<A) (D:∀i,(cf (sqf F xs) i).natAbs<=A) (G:∀i,(cf (Xg (sqf F xs)) i).natAbs<=A)
  (hs:2<=(sqf F xs).length->Ybd K A (sqf F xs).length e=true) (u v:Rat) (l:-(K:Rat)<=u) (f:u<=v) (m:v<=(K:Rat)) (x:v-u<=1/((2^e:Nat):Rat)):vch F xs u-vch F xs v<=1:=by
 by_cases j:2<=(sqf F xs).length
 .have h:=Ytq y k o w n rfl j D G (hs j) l f m x;show vat _ u-vat _ v<=1;rw [h];unfold crs;all_goals omega
 .have M:=Oe (sqf F xs);have I:Xg (sqf F xs)=[]:=aC O;have H:chn F xs=[sqf F xs]:=by unfold chn;grind [Yf6,Du]
  unfold vch vat;have r1:=Zb1 (([Zi (sqf F xs)]).map λg=>Eo (g u));have r2:=Zb1 (([Zi (sqf F xs)]).map λg=>Eo (g v));grind
theorem Sqn.mem{P:R2->R2->Prop}{hi:Rat} : ∀{f:Rat} {l:List (R2×R2)},Sqn P hi f l->∀c∈l,P c.1 c.2
 | _,[],_,c,e=>O4
 | f,d::r,h,c,e=>by
  rcases bD.1 e with rfl|e
  .exact h.2.2.1
  .exact Sqn.mem h.2.2.2 c e
theorem en_bl{d:Nat}(h:En K Q d z)(i:0<Q)(v:Q*2^d<2^B)(w:K*(Q*2^d)<2^B):bl z.1.natAbs<=B/\bl z.2.natAbs<=B:=by
 obtain⟨k,j,x,D⟩:=h;have g:0<Q*2^d:=gY i (cE O);have f:z.2.natAbs<=Q*2^d:=by have:=fJ.2 j;rw [dB]at this;simp_all [kE]
 have l:z.1.natAbs<=K*z.2.natAbs:=by
  have r:=Gn k;have e:(z.1)=qv z*z.2:=by unfold qv;grind
  have t1:=aG (a:=(K)-qv z) (b:=(z.2)) O4 O4;have t2:=aG (a:=(K)+qv z) (b:=(z.2)) O4 O4;have y:((K*z.2.natAbs:Nat))=(K)*z.2:=O4;have n:((z.1):Rat)<=(((K:Int)*z.2:Int)):=by push_cast;grind
  have o:((-((K:Int)*z.2):Int))<=((z.1):Rat):=by push_cast;grind
  have F:=by exact_mod_cast n
  have G:=by exact_mod_cast o
  omega
 have m:K*z.2.natAbs<=K*(Q*2^d):=aW _ f;exact⟨Zd5 O,Zd5 O⟩
theorem Ym5 (e:Nat)(w:Nat)(B:Nat){n:Nat}(h:En (2^n) Q (e+w) z)(v:0<Q)(j:Q<2^(2*n))(x:3*n+1+(e+w)<=B):bl z.1.natAbs<=B/\bl z.2.natAbs<=B:=by
 have f:∀m,m<=B->2^m<=2^B:=λm h=>cW O h;have i:0<2^(e+w):=cE O;have g:=dN j i;have k:2^n*(Q*2^(e+w))<2^n*(2^(2*n)*2^(e+w)):=jP g (cE O);have l:2^(2*n)*2^(e+w)=2^(2*n+(e+w)):=(bR _ _ _).symm;have o:2^n*(2^(2*n)*2^(e+w))=2^(n+(2*n+(e+w))):=by simp [bR]
 rw [l]at g;rw [o]at k;exact en_bl h v (dU g (f _ O)) (dU k (f _ O))
theorem Ed.const{g:List Int}(h:Ed g a)(o:Tr g)(m:Tr a)(l:a≠[])(w:g.length=a.length):∃k c:Int,k≠0/\c≠0/\∀x:Rat,(k:Rat)*Zi a x=(c:Rat)*Zi g x:=by
 obtain⟨k,s,i,h⟩:=h;obtain⟨v,f,j⟩:=Zzw i o m l h;have e:=aI.2 f
 match hs:tzl s,e,j with
 | [c],_,_=>
  have n:=by have:=(Xx s).mem f;rw [hs]at this;exact this
  refine⟨k,c,i,n,λx=>?_⟩;rw [h x,<-Lu s,hs,Of]
 | c::d::r,_,h9=>grind
theorem Zf1(p:List Int)(c:Int)(x:Rat):Zi (Zy p c) x=(c:Rat)*Zi p x:=by rw [<-Zx];grind [Ma,Yo,Pp,Int.mul_comm]
theorem Zpu(i:Tr p)(g:p≠[])(h:c≠0):Zy p c≠[]:=λe=>by have f:=Yo p c (p.length-1);rw [e]at f;exact bC (i.mem g) h f.symm
theorem Ed.dv{g:List Int}(h:Ed g a):Dv g a:=by obtain⟨k,s,e,h⟩:=h;refine⟨k,s,e,λt=>?_⟩;have:=Nq (p:=a.map λc=>k*c) (q:=Qz s g) (λx=>by rw [Zx,Xa];exact h x) t;rw [Pp,Gu]at this;exact this
theorem ed_cop{t w s:List Int}{k:Int}(F:k≠0)(m:Tr t)(H:Tr w)(t0:t≠[])(D:∀d,Tr d->Ed d t->Ed d w->d.length<=1)(h:∀x:Rat,(k:Rat)*(Zi u x*Zi w x)=Zi s x*Zi t x):Ed t u:=by
 obtain⟨g,A,B,f,j,n,y⟩:=Zok w.length t w m H (aH _);have G:=D g f j n;have i:=(j.len f m t0).1
 match hgg:g,G,i with
 | [c],_,_=>
  have e:c≠0:=by have:=f.mem O5;exact this
  refine⟨k*c,Ms ((Qz A u).map λa=>k*a) (Qz B s),bC F e,λx=>?_⟩;rw [Xp,Zx,Xa,Xa];have l:=y x;rw [Of]at l;have o:=h x;push_cast;rw [show(k:Rat)*c*Zi u x=k*(Zi u x*(c:Rat)) by grind,l];have v:(k:Rat)*(Zi u x*(Zi A x*Zi t x+Zi B x*Zi w x))=k*Zi A x*Zi u x*Zi t x+Zi B x*(k*(Zi u x*Zi w x)):=O4;rw [v,o];grind
 | c::d::r,h9,_=>simp at h9
def Om(F:Nat)(p:List Int):List Int:=Nm F (Xf p) (Xg (Xf p))
def Da(F:Nat)(p:List Int):Prop:=eok F (gA (Xf p) (Xg (Xf p))) (gB (Xf p) (Xg (Xf p)))
theorem Pj{F:Nat}(j:Tr p)(k:p≠[])(i:Da F p):Tr (Om F p)/\Om F p≠[]/\Xf (Om F p)=Om F p/\Xf p=Qz (sqf F p) (Om F p)/\(sqf F p).length+(Om F p).length=p.length+1:=by obtain⟨f1,f2,f3,f4,f5,f6⟩:=Ov F j k i;have f:Tr (Xf p):=Nc (Yu j);have g:Tr (Xg (Xf p)):=Np f;have h:=Zec F f g;have l:=Ox f2 h f3 f5;rw [<-f4,Pq j]at l;have m:=aI.2 f3;have n:=aI.2 f5;refine⟨h,f5,Zy8 h (Zmx f g f5) (Zaf (Znz F (Zjo f g) (Zjn f g)) (λe=>f5 (by unfold Nm;rw [e];rfl))),f4,?_⟩;unfold Om;omega
theorem Yq1{h:List Int}(j:Tr h)(i:h≠[]){k m:Int}(e:∀x:Rat,(k:Rat)*(Zi a x*Zi h x)=(m:Rat)*(Zi b x*Zi h x))(x:Rat):(k:Rat)*Zi a x=(m:Rat)*Zi b x:=by
 have g:=Ev h (f:=Ms (a.map λc=>k*c) (b.map λc=>(-m)*c)) (by rw [Aw j];exact i) (λx=>by rw [Xp,Zx,Zx];have:=e x;push_cast;grind) x
 rw [Xp,Zx,Zx]at g;push_cast at g;grind
theorem Ych{F:Nat}(W:Tr p)(h0:p≠[])(l:Da F p)(e:Da F (Om F p)):Ed (sqf F (Om F p)) (sqf F p):=by
 obtain⟨n,a2,f,a4,a5⟩:=Pj W h0 l;obtain⟨H,G,b3,b4,b5⟩:=Pj n a2 e;obtain⟨-,u2,u3,-,-,-⟩:=Ov F W h0 l;obtain⟨-,t2,t3,-,-,-⟩:=Ov F n a2 e;have ht:Tr (Xf p):=Nc (Yu W);have o:Ed (Om F p) (Xg (Xf p)):=(Zen ht (Np ht) l).2.ed;have e2:Ed (Om F (Om F p)) (Xg (Om F p)):=by have:=(Zen (F:=F) (p:=Xf (Om F p)) (q:=Xg (Xf (Om F p))) (by rw [f];exact n) (Np (by rw [f];exact n)) e).2.ed;have h9:Om F (Om F p)=Nm F (Xf (Om F p)) (Xg (Xf (Om F p))):=rfl;rw [<-h9,f]at this;exact this
 have R:∀d,Tr d->Ed d (Om F p)->Ed d (Xg (Om F p))->Ed d (Om F (Om F p)):=λd M i v=>by unfold Om at *;have:=Zmv (F:=F) (d:=d) (p:=Xf (Nm F (Xf p) (Xg (Xf p)))) (q:=Xg (Xf (Nm F (Xf p) (Xg (Xf p))))) (by rw [f];exact n) (Np (by rw [f];exact n)) (by rw [f];exact i) (by rw [f];exact v);exact this
 rw [f]at b4;generalize hg:Om F p=g at *;generalize hh:Om F g=h at *;generalize hu:sqf F p=u at *;generalize a0:sqf F g=t at *;obtain⟨k,s,hk,S⟩:=o;obtain⟨m,w,hm,V⟩:=e2;have hP:∀x:Rat,Zi (Xf p) x=Zi (lmul u g) x:=λx=>by rw [a4,Xa,Yn]
 have hG:∀x:Rat,Zi g x=Zi (lmul t h) x:=λx=>by
  have:Zi g x=Zi (Qz t h) x:=by rw [<-b4]
  rw [this,Xa,Yn]
 have N:∀x:Rat,Zi (Xg (Xf p)) x=Zi (ld u) x*Zi g x+Zi u x*Zi (ld g) x:=λx=>by rw [Ku,Cw _ _ hP,Bx]
 have y:∀x:Rat,(m:Rat)*Zi (ld g) x=Zi w x*Zi h x:=λx=>by rw [<-Ku];exact V x
 have Z:∀x:Rat,(k:Rat)*(Zi (Qz u w) x*Zi h x)=(m:Rat)*(Zi (Qz (Ms s ((ld u).map λc=>(-k)*c)) t) x*Zi h x):=λx=>by rw [Xa,Xa,Xp,Zx];have i:=S x;have v:=N x;have h3:=y x;have h4:=hG x;rw [Yn]at h4;rw [v]at i;have:(k:Rat)*(Zi u x*Zi w x*Zi h x)=Zi u x*k*(Zi w x*Zi h x):=O4;rw [this,<-h3];push_cast;have:Zi u x*(k:Rat)*(m*Zi (ld g) x)=m*(k*(Zi (ld u) x*Zi g x+Zi u x*Zi (ld g) x)-k*Zi (ld u) x*Zi g x):=O4;rw [this,i,h4];grind
 have D:=Yq1 H G Z;refine ed_cop (s:=(Qz (Ms s ((ld u).map λc=>(-k)*c)) [m])) hk t2 (w:=tzl w) (Xx w) t3 (λd M i v=>?_) (λx=>?_)
 .have I:Ed d w:=v.congr λx=>Lu w x;have P:Ed (Qz d h) h:=R _ (Qh _ _) (by
   obtain⟨Y,s1,j,o⟩:=i;exact⟨Y,s1,j,λx=>by rw [hG x,Yn,Xa];have:=o x;grind⟩) (by
   obtain⟨Y,s1,j,o⟩:=I;exact⟨Y*m,s1,bC j hm,λx=>by rw [Ku,Xa];have:=o x;have:=y x;push_cast;grind⟩)
  have d0:=(i.len M t2 t3).1;have hl:=Ox M H d0 G;have:=(P.len (Qh _ _) H G).2;have l2:=aI.2 G;omega
 .rw [Lu,Xa,Of];have:=D x;rw [Xa,Xa]at this;rw [this];grind
theorem Yf3{t:List Int}(j:Tr u)(o:u≠[])(n:Tr t)(t0:t≠[])(l:Xf t=t)(h:Ed t u):pdv u t/\u=Qz (Lq u t) t/\Tr (Lq u t)/\Lq u t≠[]:=by
 have e:Yv t=1:=by grind [Zbq]
 obtain⟨k,s,f,h⟩:=h.dv;obtain⟨q,m⟩:=gauss e _ k s rfl f h;have g:u=Qz (tzl q) t:=j.ext (Qh _ _) λi=>by grind [Gu,Zro]
 grind [Zrv,Xx,Fm]
theorem Zns{F:Nat}(g:Tr p)(k:p≠[])(f:Da F p)(m:2<=p.length):(Om F p).length<p.length:=by obtain⟨i,l,-⟩:=Pj g k f;have h:Tr (Xf p):=Nc (Yu g);have j:Ed (Om F p) _:=(Zen h (Np h) f).2.ed;have n:=Oe (Xf p);have o:=Pq g;have:=(j.len i (Np h) (λe=>O4)).2;omega
theorem Yro(h:Tr p)(n:Xf p=p)(m:p.length=1):p=[1]:=by
 have f:p≠[]:=λe=>O4;have k:=Zbq h f;have g:0<cf (Xf p) ((Xf p).length-1):=Zaf (Yu h) (λe=>f (aC (by grind [Yj])));rw [n]at k g
 match p,m with
 | [c],_=>
  have l:0<c:=g;have j:c∣Yv [c]:=Fz λi=>by
   match i with
   | 0=>exact Int.dvd_refl c
   | i+1=>grind [Yr,Int.dvd_zero]
  have:=kF O j;grind
def Dp(p q:List Int):Prop:=Tr q/\q≠[]/\Xf q=q/\∃a,Tr a/\Xf p=Qz a q
theorem Dp.start(f:Tr p)(g:p≠[]):Dp p (Xf p):=
 ⟨Nc (Yu f),Zi6 f g,Zy8 (Nc (Yu f)) (Zbq f g) (Zaf (Yu f) (λe=>g (aC (by grind [Yj])))),[1],.inr (show cf [1] 0≠0 by decide),by refine(Nc (Yu f)).ext (Qh _ _) λi=>?_;rw [Gu,Zvy];rfl⟩
theorem Dp.sz{n:Nat}(g:Tr p)(i:p≠[])(hs:Sz n p)(D:p.length<=13)(h:Dp p q):Sz (n+15) q/\q.length<=p.length:=by obtain⟨j,x,y,a,l,e⟩:=h;have k:fcs 0 13<=2^15*2^15:=O3;have m:=Pq g;have f:=Zi6 g i;have o:=Nc (Yu g);have v:a≠[]:=λw=>f (by grind [Fm]);refine⟨Fr _ 24 j l (Zqz hs) f o O O k (by grind [Dy]),?_⟩;grind [Ox,List.length_pos_iff]
theorem Dp.ok{n F:Nat}(f:Tr p)(e:p≠[])(hs:Sz n p)(k:n<=220)(j:p.length<=11)(i:p.length<=F+1)(h:Dp p q):Zbe F q/\Da F q:=by obtain⟨g,l⟩:=h.sz f e hs O;have:=(chG F h.1 h.2.1 g O O O).1;exact⟨this,this.1.2.2.1⟩
theorem Dp.next{F:Nat}(h:Dp p q)(f:Da F q):Dp p (Om F q):=by obtain⟨m,n,o,a,w,e⟩:=h;obtain⟨j,k,l,g,v⟩:=Pj m n f;refine⟨j,k,l,Qz a (sqf F q),Qh _ _,?_⟩;rw [o]at g;refine e.trans ((aD _ g).trans ?_);refine(Qh _ _).ext (Qh _ _) λi=>Nq (λx=>?_) i;grind [Xa]
def Bk(F:Nat):Nat->List Int->List Int
 | 0,p=>sqf F p
 | f+1,p=>if(sqf F p).length=1 then sqf F p else Qz (Lq (sqf F p) (sqf F (Om F p))) (Bk F f (Om F (Om F p)))
def Zr0(F:Nat):Nat->List Int->List Int->List Int
 | 0,e,_=>e
 | f+1,e,q=>if(sqf F q).length=1 then e else if(sqf F (Om F q)).length=1 then Qz e (Lq (sqf F q) (sqf F (Om F q)))else Zr0 F f (Qz e (Lq (sqf F q) (sqf F (Om F q)))) (Om F (Om F q))
theorem Zgu{F:Nat}(g:Tr q)(f:q≠[])(e:Da F q)(h:(sqf F q).length=1):sqf F q=[1]/\q.length=1/\(Om F q).length=1:=by
 obtain⟨f1,f2,f3,f4,f5,f6⟩:=Ov _ g f e;obtain⟨j,k,l,m,n⟩:=Pj g f e;have v:=aI.2 f;have o:q.length=1:=by
  rcases bB q.length 2 with i|i
  .omega
  .have:=Zns g f e i;omega
 grind [Yro]
theorem Zru(e:Tr p):Qz p [1]=p:=by refine(Qh _ _).ext e λi=>Nq (λx=>?_) i;grind [Xa,Of]
theorem Ykm{F:Nat}(i:Tr q)(g:q≠[])(e:Da F q)(h:q.length=1):∀f,Bk F f q=[1]:=λf=>by
 obtain⟨f1,f2,f3,f4,f5,f6⟩:=Ov _ i g e;obtain⟨k,j,l,m,n⟩:=Pj i g e;have o:=aI.2 f3;have v:=aI.2 j;have hs:(sqf F q).length=1:=O;have:=(Zgu i g e hs).1;cases f with
 | zero=>exact this
 | succ f=>unfold Bk;grind
theorem Zk0 (p:List Int){F:Nat}{f:Nat}(h:Tr q)(g:q≠[])(e:Da F q):Tr (Bk F f q):=by
 obtain⟨f1,f2,f3,f4,f5,f6⟩:=Ov _ h g e;cases f with
 | zero=>exact f2
 | succ f=>unfold Bk;grind [Qh]
theorem Yci{F n:Nat}(I:Tr p)(w:p≠[])(hs:Sz n p)(H:n<=220)(D:p.length<=11)(y:p.length<=F+1):∀(f:Nat) (j q:List Int),Tr j->Dp p q->q.length<=f->Zr0 F f j q=Qz j (Bk F f q):=by
 intro f
 induction f with
 | zero=>intro j q _ g G;have:=aI.2 g.2.1;omega
 | succ f P=>
  intro j q N g G;have h:=(g.ok I w hs H D y).2;have l:=g.next h;have e:=(l.ok I w hs H D y).2;have k:=l.next e;have m:=(k.ok I w hs H D y).2;unfold Zr0 Bk;by_cases o:(sqf F q).length=1
  .rw [aM o,aM o,(Zgu g.1 g.2.1 h o).1,Zru N]
  .rw [aJ o];have R:2<=q.length:=by obtain⟨f1,f2,f3,f4,f5,f6⟩:=Ov _ g.1 g.2.1 h;obtain⟨W,Y,Z,a4,a5⟩:=Pj g.1 g.2.1 h;grind [List.length_pos_iff]
   have S:=Zns g.1 g.2.1 h R;obtain⟨-,-,-,-,b5⟩:=Pj l.1 l.2.1 e;obtain⟨-,b2,M,-,-,-⟩:=Ov _ l.1 l.2.1 e;have lb:=aI.2 M;by_cases v:(sqf F (Om F q)).length=1
   .obtain⟨s1,s2,V⟩:=Zgu l.1 l.2.1 e v;rw [aM v,Ykm k.1 k.2.1 m V];refine(Qh _ _).ext (Qh _ _) λi=>Nq (λx=>?_) i;grind [Xa,Of]
   .rw [aJ v,P _ _ (Qh _ _) k O];refine(Qh _ _).ext (Qh _ _) λi=>Nq (λx=>?_) i;grind [Xa]
theorem Zy4{e:Int}(j:e=1\/e=-1)(h:Yv q=1):Yv (Zy q e)=1:=by
 have f:Yv (Zy q e)∣Yv q:=Fz λi=>by
  have:=Kc (Zy q e) i;rw [Yo]at this;rcases j with rfl|rfl
  .rwa [fZ]at this
  .rw [Int.mul_neg_one]at this;exact(mO.1 this)
 rw [h]at f;have k:=Ns (Zy q e);have l:=kF O3 f;rcases(show Yv (Zy q e)=0\/Yv (Zy q e)=1 by omega)with g|g
 .rw [g]at f;exact absurd (Int.zero_dvd.1 f) O3
 .exact g
theorem Ykk(h:Yv q=1):Yg q=q:=by unfold Yg;rw [h];simp
theorem Zus{F:Nat}{e:Int}(g:Tr q)(h:q≠[])(j:Xf q=q)(f:Da F q)(m:e=1\/e=-1) :
  Tr (Zy q e)/\Zy q e≠[]/\Xf (Zy q e)=q/\Yg (Zy q e)=Zy q e/\pdv (Zy q e) (sqf F q)/\Lq (Zy q e) (sqf F q)=Zy (Om F q) e:=by
 have l:e≠0:=by rcases m with rfl|rfl<;>decide
 obtain⟨f1,f2,f3,f4,f5,f6⟩:=Ov F g h f;obtain⟨y,D,G,k,H⟩:=Pj g h f;have v:Yv q=1:=by have:=Zbq g h;rwa [j]at this
 rw [j]at k;have w:Zy q e=Qz (Zy (Om F q) e) (sqf F q):=by
  refine(Qj _ _).ext (Qh _ _) λi=>Nq (λx=>?_) i;have:Zi q x=Zi (Qz (sqf F q) (Om F q)) x:=by rw [<-k]
  rw [Zf1,Xa,Zf1,this,Xa];grind
 obtain⟨n,o⟩:=Zrv (Qj (Om F q) e) f2 f3;rw [<-w]at n o;exact⟨Qj _ _,Zpu g h l,by rw [Zr3 (Qj _ _) g (Zfx q l).symm,j],Ykk (Zy4 m v),n,o⟩
theorem Ykj(f:Tr p)(g:p≠[]):∃e:Int,(e=1\/e=-1)/\Yg p=Zy (Xf p) e:=by
 by_cases h:cf (Yg p) ((Yg p).length-1)<0
 .refine⟨-1,.inr rfl,?_⟩;rw [Zk4 (λe=>g (aC (by rw [<-Yj,e]))) h];refine(Yu f).ext (Qj _ _) λi=>?_;rw [Yo,Yo];omega
 .refine⟨1,.inl rfl,?_⟩;rw [Zk3 h];refine(Yu f).ext (Qj _ _) λi=>?_;rw [Yo];omega
def Nf(F:Nat)(p:List Int):List Int:=Lq (Zy (Yg p) 1) (sqf F p)
def Zaa(F:Nat)(p:List Int):List Int:=Lq (Yg (Nf F p)) (sqf F (Nf F p))
def Zde(F:Nat):Nat->List Int->List Int
 | 0,p=>sqf F p
 | f+1,p=>if(sqf F p).length=1 then sqf F p else Qz (Lq (sqf F p) (sqf F (Nf F p))) (Zde F f (Zaa F p))
theorem Ch{F:Nat}(h:Xf p=Xf q):sqf F p=sqf F q:=by unfold sqf;rw [h]
theorem Zk8{F:Nat}(h:Xf p=Xf q):Om F p=Om F q:=by unfold Om;rw [h]
theorem Zmu{F:Nat}(h:Xf p=Xf q):∀f,Bk F f p=Bk F f q
 | 0=>Ch h
 | f+1=>by unfold Bk;rw [Ch h,Zk8 h]
theorem Zmg{F:Nat}(y:Tr p)(w:p≠[])(g:Da F p)(f:Da F (Om F p)) :
  (∃e:Int,(e=1\/e=-1)/\Zy (Yg p) 1=Zy (Xf p) e/\pdv (Zy (Xf p) e) (sqf F p)/\Nf F p=Zy (Om F p) e/\Yg (Nf F p)=Nf F p/\pdv (Nf F p) (sqf F (Om F p))/\Zaa F p=Zy (Om F (Om F p)) e)/\
  Xf (Nf F p)=Om F p/\Xf (Zaa F p)=Om F (Om F p)/\Tr (Nf F p)/\Nf F p≠[]/\Tr (Zaa F p)/\Zaa F p≠[]:=by
 obtain⟨b1,b2,l,-⟩:=Dp.start y w;have h:Da F (Xf p):=by unfold Da;rw [l];exact g
 have x:Om F (Xf p)=Om F p:=Zk8 l;have k:sqf F (Xf p)=sqf F p:=Ch l;obtain⟨e,m,D⟩:=Ykj y w;have j:Zy (Yg p) 1=Zy (Xf p) e:=by rw [D];refine(Qj _ _).ext (Qj _ _) λi=>?_;rw [Yo,fZ]
 obtain⟨-,-,-,-,N,P⟩:=Zus b1 b2 l h m;rw [x,k]at P;rw [k]at N;have hl:Nf F p=Zy (Om F p) e:=by unfold Nf;rw [j,P]
 obtain⟨H,I,M,-,-⟩:=Pj y w g;obtain⟨R,S,o,v,V,W⟩:=Zus H I M f m;rw [<-hl]at R S o v V W;have G:sqf F (Nf F p)=sqf F (Om F p):=Ch (by rw [o,M]);have n:Zaa F p=Zy (Om F (Om F p)) e:=by unfold Zaa;rw [v,G,W]
 obtain⟨Z,g2,g3,-,-⟩:=Pj H I f;have Y:e≠0:=by rcases m with rfl|rfl<;>decide
 refine⟨⟨e,m,j,N,hl,v,V,n⟩,o,?_,R,S,?_,?_⟩
 .rw [n,Zr3 (Qj _ _) Z (Zfx _ Y).symm,g3]
 .rw [n];exact Qj _ _
 .rw [n];exact Zpu Z g2 Y
theorem Ybo{F n:Nat}(w:Tr p)(l:p≠[])(hs:Sz n p)(v:n<=220)(o:p.length<=11)(m:p.length<=F+1):∀(f:Nat) (q:List Int),Tr q->q≠[]->Dp p (Xf q)->Zde F f q=Bk F f q:=by
 intro f
 induction f with
 | zero=>intro q _ _ _;rfl
 | succ f D=>
  intro q y G j;have g:=(j.ok w l hs v o m).2;have i:Da F q:=by unfold Da at g ⊢;rwa [j.2.2.1]at g
  have k:=j.next g;rw [Zk8 j.2.2.1]at k;have e:=(k.ok w l hs v o m).2;have h:=k.next e;obtain⟨-,r1,r2,r3,M,H,I⟩:=Zmg y G i e;unfold Zde Bk;have x:=k.2.2.1;rw [Ch (show Xf (Nf F q)=Xf (Om F q) by rw [r1,x]),D _ H I (by rw [r2];exact h),Zmu (show Xf (Zaa F q)=Xf (Om F (Om F q)) by rw [r2,h.2.2.1])]
def Bq(F:Nat)(q:List Int):List Int:=Lq (sqf F q) (sqf F (Om F q))
theorem Cz{F:Nat}(g:Tr q)(h:q≠[])(f:Da F q)(e:Da F (Om F q)):pdv (sqf F q) (sqf F (Om F q))/\sqf F q=Qz (Bq F q) (sqf F (Om F q))/\Tr (Bq F q)/\Bq F q≠[]:=by obtain⟨f1,f2,f3,f4,f5,f6⟩:=Ov F g h f;obtain⟨i,j,k,l,m⟩:=Pj g h f;obtain⟨-,t2,t3,-,-,t6⟩:=Ov F i j e;exact Yf3 f2 f3 t2 t3 t6 (Ych g h f e)
theorem Zzr{n:Nat}(j:Tr p)(v:p≠[])(hs:Sz n p)(y:p.length<=13)(m:Tr a)(o:Tr b)(e:Xf p=Qz a b):Sz (n+15) b/\b.length<=p.length/\b≠[]:=by have w:fcs 0 13<=2^15*2^15:=O7;have h:=Pq j;have f:=Zi6 j v;have x:Tr (Xf p):=Nc (Yu j);have k:a≠[]:=λg=>f (by rw [e,g,Fm]);have l:b≠[]:=λg=>f (by rw [e,g,Zck]);refine⟨Fr 13 24 o m (Zqz hs) f x O O3 w (by rw [Dy];exact e),?_,l⟩;have i:=Ox m o k l;rw [<-e,h]at i;have:=aI.2 k;omega
def Op(p e q:List Int):Prop:=∃a,Tr a/\Xf p=Qz a (Qz e q)
theorem Op.start(e:Tr p):Op p [1] (Xf p):=⟨[1],.inr (show cf [1] 0≠0 by decide),by refine(Nc (Yu e)).ext (Qh _ _) λi=>Nq (λx=>?_) i;rw [Xa,Xa,Of];push_cast;show Zi (Xf p) x=_;grind⟩
theorem Op.next{j:List Int}{F:Nat}(m:Tr q)(n:q≠[])(H:Xf q=q)(g:Da F q)(f:Da F (Om F q))(h:Op p j q):Op p (Qz j (Bq F q)) (Om F (Om F q)):=by
 obtain⟨a,N,e⟩:=h;obtain⟨-,I,P,R⟩:=Cz m n g f;obtain⟨o,v,w,k,M⟩:=Pj m n g;obtain⟨-,-,-,l,-⟩:=Pj o v f;rw [H]at k;rw [w]at l;refine⟨Qz a (Qz (sqf F (Om F q)) (sqf F (Om F q))),Qh _ _,e.trans ?_⟩;refine(Qh _ _).ext (Qh _ _) λi=>Nq (λx=>?_) i;have y:Zi q x=Zi (sqf F q) x*Zi (Om F q) x:=by rw [<-Xa,<-k]
 have D:Zi (sqf F q) x=Zi (Bq F q) x*Zi (sqf F (Om F q)) x:=by rw [<-Xa,<-I]
 have G:Zi (Om F q) x=Zi (sqf F (Om F q)) x*Zi (Om F (Om F q)) x:=by rw [<-Xa,<-l]
 simp only [Xa];rw [y,D];rw [G];generalize Zi (sqf F (Om F q)) x=A;generalize Zi (Om F (Om F q)) x=B;grind
theorem Op.sz{f:List Int}{n:Nat}(l:Tr p)(g:p≠[])(hs:Sz n p)(j:p.length<=13)(k:Tr f)(o:Tr q)(h:Op p f q):Sz (n+15) f/\f.length<=p.length/\f≠[]:=by obtain⟨a,m,e⟩:=h;exact Zzr l g hs j (Qh a q) k (e.trans ((Qh _ _).ext (Qh _ _) λi=>Nq (λx=>by rw [Xa,Xa,Xa,Xa];grind) i))
theorem Ycb(e:Tr p):Qz [1] p=p:=by rw [Dy];exact Zru e
theorem Yk5{F n:Nat}(f:Tr p)(g:p≠[])(hs:Sz n p)(j:n<=220)(i:p.length<=11)(h:p.length<=F+1):Zr0 F p.length [1] (Xf p)=Zde F p.length p:=by have e:=Dp.start f g;have k:=(e.ok f g hs j i h).2;rw [Yci f g hs j i h p.length [1] (Xf p) (.inr (show cf [1] 0≠0 by decide)) e (by rw [Pq f];exact aH _),Ycb (Zk0 p e.1 e.2.1 k),Ybo f g hs j i h p.length p f g e];exact Zmu e.2.2.1 _
def Zlt{F:Nat}(h:Tr xs)(f:xs≠[])(g:Zbe F xs)(e:s<=t):vch F xs t<=vch F xs s:=Zob h f g e
def Sqn.imp{P e:R2->R2->Prop}{hi:Rat}(f:∀x y,P x y->e x y):∀{g:Rat} {l:List (R2×R2)},Sqn P hi g l->Sqn e hi g l
 | _,[],h=>h
 | _,_::_,h=>⟨h.1,h.2.1,f _ _ h.2.2.1,Sqn.imp f h.2.2.2⟩
variable {P:Program} {N:Nat} {sc:Nat->Prop} {env:Pt} {H:Hp}
end Go.Sky
namespace Go.Sky
variable{f:Rat->Rat}{xs p o:List Int}{x:Rat}
theorem Zig(d:Rat){h:Rat}(a:0<h):∃n:Nat,d<=(n:Rat)*h:=by
 have e:0<h⁻¹:=fD.2 a;refine⟨(d*h⁻¹).ceil.toNat,?_⟩;have b:=@mP (d*h⁻¹);have c:(((d*h⁻¹).ceil:Int):Rat)<=(((d*h⁻¹).ceil.toNat:Nat):Rat):=by have:(d*h⁻¹).ceil<=(((d*h⁻¹).ceil.toNat:Nat):Int):=jZ _;exact_mod_cast this
 have g:=dH (mL b c) (show 0<=h by grind);have i:d*h⁻¹*h=d:=O4;grind
theorem Ztb{u v:Rat}(h:crs f u v<=0)(b:f u≠0):0<f u*f v:=by
 unfold crs at h;by_cases a:f u≠0/\f u*f v<=0
 .rw [aM a]at h;exact absurd h O3
 .have:¬f u*f v<=0:=λc=>a ⟨b,c⟩;grind
theorem Zeu{F:Nat}(l:Tr xs)(i:xs≠[])(j:Zbe F xs){s t:Rat}(G:s<=t)(D:vch F xs s<=vch F xs t)(hs:Zi (sqf F xs) s≠0):∀y,s<=y->y<=t->0<Zi (sqf F xs) s*Zi (sqf F xs) y:=by
 obtain⟨h,z,B⟩:=Zoa l i j s t;have g:∀u v,s<=u->u<=v->v<=t->v-u<=h->crs (Zi (sqf F xs)) u v<=0:=λu v a b c d=>by have e:=B u v a b c d;have R:vat ((chn F xs).map Zi) u<=vat ((chn F xs).map Zi) s:=Zob l i j a;have S:vat ((chn F xs).map Zi) t<=vat ((chn F xs).map Zi) v:=Zob l i j c;have V:vat ((chn F xs).map Zi) s<=vat ((chn F xs).map Zi) t:=D;omega
 generalize Zi (sqf F xs)=f at *;have m:∀n:Nat,∀y,s<=y->y<=t->y-s<=(n:Rat)*h->0<f s*f y:=λn=>by
  induction n with
  | zero=>
   intro y a b c;have:y=s:=by push_cast at c;grind
   subst this;exact Ztb (g _ _ a O4 b O4) hs
  | succ n P=>
   intro y a b c;push_cast at c;by_cases H:y-s<=h
   .exact Ztb (g s y O4 a b H) hs
   .have r:=P (y-h) O4 O4 O4;have I:f (y-h)≠0:=λe=>by rw [e]at r;grind
    have M:=Ztb (g (y-h) y O4 O4 b O4) I;have N:=aX r M;have w:f s*f (y-h)*(f (y-h)*f y)=(f (y-h)*f (y-h))*(f s*f y):=O4;rw [w]at N;have Q:0<f (y-h)*f (y-h):=by
     rcases(show 0<f (y-h)\/f (y-h)<0 by grind)with q|q
     .exact aX q q
     .have:=aX (a:=-f (y-h)) (b:=-f (y-h)) O4 O4;grind
    rcases(show 0<f s*f y\/f s*f y<=0 by grind)with q|q
    .exact q
    .have:=aG (a:=f (y-h)*f (y-h)) (b:=-(f s*f y)) O4 O4;grind
 intro y a b;obtain⟨n,k⟩:∃n:Nat,y-s<=(n:Rat)*h:=by obtain⟨n,k⟩:=Zig (y-s) z;exact⟨n,k⟩
 exact m n y a b k
theorem Zhl (p:List Int)(s:Rat)(t:Rat)(B:s<=t)(v:∀u,s<=u->u<=t->0<=Zi (ld p) u):Zi p s<=Zi p t:=by
 rcases(show Zi p s<=Zi p t\/Zi p t<Zi p s by grind)with h|h
 .exact h
 .exfalso;obtain⟨M,V,H⟩:=Zkv s t p;have y:s<t:=by
   rcases(show s<t\/s=t by grind)with d|d
   .exact d
   .rw [d]at h;grind
  obtain⟨n,z⟩:=Zig (M*(t-s)*(t-s)+1) (show 0<Zi p s-Zi p t by grind);have g:(0:Rat)<(n:Rat):=by
   rcases aZ n with d|d
   .subst d;have:=aG (a:=M*(t-s)) (b:=t-s) (aG O4 O4) O4;push_cast at z;grind
   .exact_mod_cast d
  have m:(n:Rat)≠0:=λe=>by rw [e]at g;exact absurd g O3
  have c:(n:Rat)*((t-s)/n)=t-s:=by rw [lF,<-Rat.mul_assoc,kM (n:Rat),Rat.mul_assoc,Rat.mul_inv_cancel _ m,Rat.mul_one]
  have q:∀k:Nat,(k:Rat)<=(n:Rat)->-(M*((t-s)/n)*((t-s)/n))*k<=Zi p (s+k*((t-s)/n))-Zi p s:=λk=>by
   induction k with
   | zero=>intro _;push_cast;rw [show s+0*((t-s)/n)=s by grind];grind
   | succ k D=>
    intro w;push_cast at w ⊢;have Q:=D O4;have l:0<=(t-s)/n:=by rw [lF];exact aG O4 (dE (fD.2 g))
    have i:=c;generalize (t-s)/(n:Rat)=h at *;have F:(0:Rat)<=(k:Rat):=by exact_mod_cast aV k
    have I:=aG (a:=(k:Rat)) (b:=h) F l;have N:=aG (a:=(n:Rat)-(k+1)) (b:=h) O4 l;have j:=(H (s+k*h) (s+(k+1)*h) O4 O4 O4).1;have e:=v (s+k*h) O4 O4;have P:=aG l e;rw [show s+(k+1)*h-(s+k*h)=h by grind]at j;grind
  have r:=q n O4;have i:=c;rw [i,show s+(t-s)=t by grind]at r;have G:-(M*((t-s)/n)*((t-s)/n))*n=-(M*((t-s)/n)*(t-s)):=O4;rw [G]at r;have R:M*((t-s)/n)*(t-s)*n=M*(t-s)*(t-s):=O4;have S:=aG (a:=Zi p t-Zi p s+M*((t-s)/n)*(t-s)) (b:=(n:Rat)) O4 O4;grind
theorem Zg4(p:List Int)(x:Rat):Zi (p.map λa=>-1*a) x=-Zi p x:=by rw [Zx];push_cast;grind
theorem Zqo (p:List Int){s t:Rat}(k:s<t)(e:∀u,s<u->u<=t->0<Zi (ld p) u)(g:0<=Zi (ld p) s):Zi p s<Zi p t:=by
 have i:s<(s+t)/2/\(s+t)/2<t:=by constructor<;>grind
 generalize (s+t)/2=m at *;have r:=Zhl p s m O4 (λu a b=>by
  rcases(show s<u\/u=s by grind)with h|h
  .exact dE (e u h O4)
  .rw [h];exact g)
 obtain⟨M,l,n⟩:=Zkv m t p;have j:=e m i.1 O4;obtain⟨η,q,w,y⟩:=Gi (show 0<t-m by grind) l (show 0<Zi (ld p) m/2 by grind);have b:=(n m (m+η) O4 O4 O4).1;rw [show m+η-m=η by grind]at b;have v:=Zhl p (m+η) t O4 (λu a b=>dE (e u O4 b));have c:=aG (a:=η) (b:=Zi (ld p) m/2-η*M) O4 O4;have d:=aX q j;grind
def Dk:Nat->List Int->Rat->Int
 | 0,_,_=>0
 | n+1,p,x=>if Zi p x≠0 then Eo (Zi p x)else Dk n (Xg p) x
theorem Ybl(h:0<x):Eo x=1:=Zap h
theorem Zpm(h:x<0):Eo x=-1:=Zaq h
theorem Zu1(h:x=0):Eo x=0:=by subst h;rfl
theorem Ph(x:Rat):(0<x/\Eo x=1)\/(x<0/\Eo x=-1)\/(x=0/\Eo x=0):=by
 rcases(show 0<x\/x<0\/x=0 by grind)with h|h|h
 .exact .inl ⟨h,Ybl h⟩
 .exact .inr (.inl ⟨h,Zpm h⟩)
 .exact .inr (.inr ⟨h,Zu1 h⟩)
theorem Yao(n:Nat)(p:List Int)(x:Rat)(h:Zi p x≠0)(a:p.length<=n):Dk n p x=Eo (Zi p x):=by
 cases n with
 | zero=>have:p=[]:=aC O;subst this;exact absurd rfl h
 | succ n=>unfold Dk;rw [aM h]
theorem Zp2(p:List Int)(x:Rat)(h:Zi p x≠0):∃δ:Rat,0<δ/\∀y,x<y->y<=x+δ->Eo (Zi p y)=Eo (Zi p x):=by
 obtain⟨L,r,k⟩:=Bw x (x+1) p;have i:0<(if 0<Zi p x then Zi p x else -Zi p x):=by split<;>grind
 obtain⟨δ,j,m,g⟩:=Gi (show(0:Rat)<1 by decide) (show 0<L+1 by grind) (show 0<(if 0<Zi p x then Zi p x else -Zi p x)/2 by grind);refine⟨δ,j,λy n q=>?_⟩;have l:=k x y O4 O4 O4;have b:=aG (a:=L) (b:=δ-(y-x)) O4 O4;have c:L*(y-x)<=δ*(L+1):=O4;rcases Ph (Zi p x)with⟨d,e⟩|⟨d,e⟩|⟨d,e⟩
 .rw [aM d]at g i;rw [e];exact Ybl O4
 .rw [aJ O4]at g i;rw [e];exact Zpm O4
 .exact absurd d h
theorem Zai:∀(n:Nat) (p:List Int) (x:Rat),p.length<=n->∃δ:Rat,0<δ/\∀y,x<y->y<=x+δ->Eo (Zi p y)=Dk n p x
 | 0,p,x,q=>⟨1,O3,λy _ _=>by have:p=[]:=aC O;subst this;exact Zu1 rfl⟩
 | n+1,p,x,q=>by
  by_cases h:Zi p x≠0
  .rw [Yao (n+1) p x h q];exact Zp2 p x h
  .have F:Zi p x=0:=eZ.1 h;have B:=Oe p;obtain⟨δ,v,w⟩:=Zai n (Xg p) x O;have z:Dk (n+1) p x=Dk n (Xg p) x:=by unfold Dk;rw [aJ h];cases n<;>rfl
   have k:Zi (ld p) x≠0->Eo (Zi (ld p) x)=Dk n (Xg p) x:=λg=>by rw [<-Ku]at g ⊢;exact(Yao n (Xg p) x g O).symm
   refine⟨δ,v,λy l G=>?_⟩;rw [z];have i:∀u,x<u->u<=y->Eo (Zi (ld p) u)=Dk n (Xg p) x:=λu a b=>by rw [<-Ku];exact w u a O4
   have e:=i y l O4;generalize Dk n (Xg p) x=σ at *;rcases Ph (Zi (ld p) y)with⟨m,j⟩|⟨m,j⟩|⟨m,j⟩
   .rw [j]at e;subst e;refine Ybl ?_;have:=Zqo p l (λu a b=>by
     rcases Ph (Zi (ld p) u)with⟨d,c⟩|⟨d,c⟩|⟨d,c⟩
     .exact d
     .have:=i u a b;rw [c]at this;exact absurd this O3
     .have:=i u a b;rw [c]at this;exact absurd this O3) (by
     rcases Ph (Zi (ld p) x)with⟨d,c⟩|⟨d,c⟩|⟨d,c⟩
     .exact dE d
     .have:=k O4;rw [c]at this;exact absurd this O3
     .grind)
    grind
   .rw [j]at e;subst e;refine Zpm ?_;have r:∀u,Zi (ld (p.map λa=>-1*a)) u=-Zi (ld p) u:=λu=>by rw [Zas];push_cast;grind
    have:=Zqo (p.map λa=>-1*a) l (λu a b=>by
     rw [r];rcases Ph (Zi (ld p) u)with⟨d,c⟩|⟨d,c⟩|⟨d,c⟩
     .have:=i u a b;rw [c]at this;exact absurd this O3
     .grind
     .have:=i u a b;rw [c]at this;exact absurd this O3) (by
     rw [r];rcases Ph (Zi (ld p) x)with⟨d,c⟩|⟨d,c⟩|⟨d,c⟩
     .have:=k O4;rw [c]at this;exact absurd this O3
     .grind
     .grind)
    rw [Zg4,Zg4]at this;grind
   .rw [j]at e;subst e;refine Zu1 ?_;have s:∀u,x<=u->u<=y->Zi (ld p) u=0:=λu a b=>by
     rcases(show x<u\/u=x by grind)with g|g
     .rcases Ph (Zi (ld p) u)with⟨d,c⟩|⟨d,c⟩|⟨d,c⟩
      .have:=i u g b;rw [c]at this;exact absurd this O3
      .have:=i u g b;rw [c]at this;exact absurd this O3
      .exact d
     .subst g;rcases Ph (Zi (ld p) u)with⟨d,c⟩|⟨d,c⟩|⟨d,c⟩
      .have:=k O4;rw [c]at this;exact absurd this O3
      .have:=k O4;rw [c]at this;exact absurd this O3
      .exact d
    have D:=Zhl p x y O4 (λu a b=>by rw [s u a b];grind);have t:=Zhl (p.map λa=>-1*a) x y O4 (λu a b=>by rw [Zas,s u a b];push_cast;grind);rw [Zg4,Zg4]at t;grind
theorem Ed.mul_l{a b c:List Int}(h:Ed a b):Ed (Qz c a) (Qz c b):=by obtain⟨k,s,d,e⟩:=h;exact⟨k,s,d,λx=>by rw [Xa,Xa];have:=e x;grind⟩
theorem Fy{F n:Nat}(t:Tr p)(k:p≠[])(hs:Sz n p)(s:n<=220)(m:p.length<=11)(l:p.length<=F+1):∀(f:Nat) (q:List Int),Dp p q->q.length<=f->
  (∃B:List Int,∀x:Rat,Zi q x=Zi (Bk F f q) x*(Zi B x*Zi B x))/\Ed (Bk F f q) (sqf F q):=by
 intro f
 induction f with
 | zero=>intro q a r;have:=aI.2 a.2.1;omega
 | succ f R=>
  intro q a r;have d:=(a.ok t k hs s m l).2;have e:=a.next d;have b:=(e.ok t k hs s m l).2;have g:=e.next b;unfold Bk;by_cases j:(sqf F q).length=1
  .rw [aM j];obtain⟨Y,Z,s3⟩:=Zgu a.1 a.2.1 d j;refine⟨⟨[1],λx=>?_⟩,Ed.refl _⟩;rw [Y,Yro a.1 a.2.2.1 Z,Of];push_cast;grind
  .rw [aJ j];have V:2<=q.length:=by obtain⟨f1,f2,f3,f4,f5,f6⟩:=Ov F a.1 a.2.1 d;obtain⟨D,u,v,i,G⟩:=Pj a.1 a.2.1 d;have l1:=aI.2 f3;have l2:=aI.2 u;omega
   have W:=Zns a.1 a.2.1 d V;obtain⟨D,u,v,i,G⟩:=Pj a.1 a.2.1 d;obtain⟨b1,b2,b3,w,b5⟩:=Pj e.1 e.2.1 b;obtain⟨-,t2,t3,-,-,-⟩:=Ov F e.1 e.2.1 b;have lb:=aI.2 t3;obtain⟨⟨B,P⟩,Q⟩:=R _ g O;obtain⟨-,z,o3,o4⟩:=Cz a.1 a.2.1 d b;have h:=(g.ok t k hs s m l).2;rw [a.2.2.1]at i;rw [v]at w;have H:∀x,Zi q x=Zi (sqf F q) x*Zi (Om F q) x:=λx=>by rw [<-Xa,<-i]
   have I:∀x,Zi (sqf F q) x=Zi (Bq F q) x*Zi (sqf F (Om F q)) x:=λx=>by rw [<-Xa,<-z]
   have M:∀x,Zi (Om F q) x=Zi (sqf F (Om F q)) x*Zi (Om F (Om F q)) x:=λx=>by rw [<-Xa,<-w]
   refine⟨⟨Qz (sqf F (Om F q)) B,λx=>?_⟩,?_⟩
   .rw [Xa,Xa,H x,I x,M x,P x];show _=Zi (Bq F q) x*_*_;generalize Zi (sqf F (Om F q)) x=S;generalize Zi B x=C;grind
   .have N:Ed (Bk F f (Om F (Om F q))) (sqf F (Om F q)):=Q.trans (Ych e.1 e.2.1 b h);have y:=N.mul_l (c:=Bq F q);rw [<-z]at y;exact y
theorem Zvv{F n:Nat}(P:Tr p)(I:p≠[])(hs:Sz n p)(hn:n<=220)(hl:p.length<=11)(hF:p.length<=F+1)(u:Tr o)(R:o≠[])(g:Da F o)(r:Da F p)(h:Ed o (sqf F p)):(Om F o).length=1/\sqf F o=Xf o:=by
 obtain⟨D,S,V,G,a5⟩:=Pj u R g;obtain⟨f1,f2,f3,f4,f5,f6⟩:=Ov F P I r;obtain⟨-,s2,s3,s4,s5,s6⟩:=Ov F u R g;have Q:Tr (Xf o):=Nc (Yu u);have M:=Zen Q (Np Q) g;have H:Ed (Om F o) (Xf o):=M.1.ed;have W:Ed (Om F o) (ld (Xf o)):=(M.2.ed:Ed (Om F o) (Xg (Xf o))).congr λx=>Ku _ x;have s:Sim (Xf o) o:=(Hm (Yg o)).trans (Qk u);obtain⟨k,w,t,l⟩:Ed (Xf o) (sqf F p):=by
  obtain⟨k,w,t,e⟩:=h;obtain⟨c,d,hc,B,v⟩:=s;have j:∀x:Rat,(c:Rat)*Zi (Xf o) x=(d:Rat)*Zi o x:=λx=>by rw [<-Zx,<-Zx];exact Ma x _ _ λi=>by rw [Pp,Pp];exact v i
  exact⟨d*k,w.map λa=>c*a,bC B t,λx=>by rw [Zx];have a:=e x;have b:=j x;push_cast;grind⟩
 have N:(Om F o).length<=1:=by
  refine Zgv P I r D (H.trans ⟨k,w,t,l⟩) ?_;have Y:Ed (Om F o) (lmul w (ld (Xf o))):=by obtain⟨m,z,hm,e⟩:=W;exact⟨m,lmul w z,hm,λx=>by rw [Yn,Yn];have:=e x;grind⟩
  have Z:Ed (Om F o) (ld (sqf F p)):=Ed.lin H Y (ld w) k t λx=>by have:=Cw ((sqf F p).map λa=>k*a) (lmul w (Xf o)) (λy=>by rw [Zx,Yn];exact l y) x;rw [Zas,Bx]at this;rw [Yn,this]
  exact Z.congr λx=>(Ku _ x).symm
 have q:(Om F o).length=1:=by have:=aI.2 S;omega
 refine⟨q,?_⟩;rw [Yro D V q,Zru s2]at G;exact G.symm
end Go.Sky

