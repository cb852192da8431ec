/- Rules, arithmetic and contracts: part 6. No conditions but those that each theorem names. -/
import Derived.Test.YthennaflbbajkaaGreatAd04
set_option linter.all false
namespace Go.Sky
variable{s t:Rat}{u xs a p q b:List Int}{K B Q:Nat}{r d c k:Int}{z:R2}
def kkR(R:Nat):Nat->Nat
 | 0=>0
 | d+1=>2*(R+1)*kkR R d+1
def Zbo (L:Nat)(R:Nat){s v:List Int}{n e:Nat}(l:Tr u)(m:Tr v)(hs:Sz n s)(f:s≠[])(j:Tr s)(i:s.length<=L)(o:2*L<=R+2)(g:fcs 0 L<=2^e*2^e)(h:s=Qx u v):Sz (n+e) u:=Yb8 l m hs f i g h
theorem num13{e f:Nat}(i:e<=13)(j:f+1=e)(h:K<=600):Zsn e f K:=λl m=>by have g:∀l,l<=12->(l+1)*(600*(27-2*l)+1)<=65536:=O3;refine aB (bB _ (Nat.succ_le_succ (aS h O))) (g l O)
theorem chH{n:Nat}(F:Nat)(v:Tr xs)(w:xs≠[])(hs:Sz n xs)(hn:n<=350)(hl:xs.length<=13)(hb:(xs.length+2)*(xs.length+2)*(n+13)<=65536)(hF:xs.length<=F+1) :
  Ag F xs/\Sz (n+15) (sqf F xs)/\(sqf F xs).length<=xs.length/\∀p∈chn F xs,Qz p<=(n+26)*25/\p.length<=xs.length:=by
 have e:=Zu2 hs;have Y:=Pk v;have l:Tr (Xq xs):=Nv (Xf v);have R:=Zap e O;have W:=Nr (Xq xs);have m:Tr (Xd (Xq xs)):=Me l;have m1:=Ob e;have m2:=Ob R;have l0:=aL.2 w;have y:gA (Xq xs) (Xd (Xq xs))=Yu (Xq xs):=aJ O;have D:gB (Xq xs) (Xd (Xq xs))=Yu (Xd (Xq xs)):=aJ O;have j:eok F (gA (Xq xs) (Xd (Xq xs))) (gB (Xq xs) (Xd (Xq xs))):=by
  rw [y,D];refine(Ymw (n:=n+5) (s:=5) (K:=n+11) (by grind [Yj]) (Xf l) (Xf m) (Dy (e.mono O6)) (Dy R) ?_ O ?_ ?_ ?_).1
  all_goals grind [Yj,num13,Nat.le_trans,Nat.mul_le_mul]
 obtain⟨f1,f2,f3,f4,f5,f6⟩:=Nf F v w j;have x:=Ze8 F l m;have g:=Zkl v w;have N:fcs 0 13<=2^15*2^15:=O3;have o:=Zbo 13 24 f2 x e g l O O N f4;have G:=Zbo 13 24 x f2 e g l O O N (by grind [Zau]);have H:=Ny f2 x f3 f5;rw [<-f4]at H;have lg:=aL.2 f5;have lq:=aL.2 f3;have mg:=Ob G;have M:(sqf F xs).length<=xs.length:=O;have I:=Zap o O;have S:=Nr (sqf F xs);have P:=Ynf (a:=sqf F xs) (b:=Yu (Xd (sqf F xs))) (n:=n+15+5) (s:=5) (K:=n+26) (f:=F) (by grind [Yj]) f2 (Xf (Me f2)) (o.mono O6) (Dy I) (by grind [Yj]) O (by grind [Yj,num13]) (Nat.le_trans (Nat.mul_le_mul (show(sqf F xs).length+1<=14 by omega) (show n+15+5+1<=500 by omega)) O6) (by grind [Yj]);refine⟨⟨⟨λi _=>aB (Zwh e O i) O,?_,j,?_,f1⟩,λi _=>aB (Zwh o O i) O,P.1⟩,o,M,λp Z=>?_⟩
 .intro h;have h3:(max (Xq xs).length (Xd (Xq xs)).length+2)*(max (Xq xs).length (Xd (Xq xs)).length+2)*(max (Qz (Xq xs)) (Qz (Xd (Xq xs)))+8)<=(xs.length+2)*(xs.length+2)*(n+13):=aS (aS O O) O;have:=h.2.2;omega
 .unfold Cx;rw [aJ O];split
  .rfl
  .have:((Xq xs).length-(Mr F (Xq xs) (Xd (Xq xs))).length+1)*(Qz (Mr F (Xq xs) (Xd (Xq xs)))+1)<=14*500:=aS O O;omega
 .obtain⟨V,a2⟩:=P.2 p Z;refine⟨aB V (bB _ ?_),O⟩;grind [Yj]
theorem chG{n:Nat}(F:Nat)(h:Tr xs)(e:xs≠[])(hs:Sz n xs)(g:n<=350)(i:xs.length<=11)(f:xs.length<=F+1) :
  Ag F xs/\Sz (n+15) (sqf F xs)/\(sqf F xs).length<=xs.length/\∀p∈chn F xs,Qz p<=(n+26)*25/\p.length<=xs.length:=
 chH F h e hs g O (aB (aS (aS (show _<=13 by omega) (show _<=13 by omega)) (show _<=363 by omega)) O) f
theorem Dv.ed{g:List Int}(h:Dv g a):Ed g a:=by obtain⟨k,s,e,h⟩:=h;refine⟨k,s,e,λx=>?_⟩;have:=Dr k 0 a s g [] (λt=>O4) x;grind
theorem Zlq{F:Nat}(m:Tr xs)(g:xs≠[])(i:Ag F xs)(s t:Rat) :
  ∃h:Rat,0<h/\∀u v,s<=u->u<=v->v<=t->v-u<=h->vat ((chn F xs).map Zc) u-vat ((chn F xs).map Zc) v=crs (Zc (sqf F xs)) u v:=by
 have f:=i.1.2.2.1;obtain⟨f1,f2,f3,f4,f5,f6⟩:=Nf _ m g f;have e:=Me f2;by_cases n:Xd (sqf F xs)=[]
 .refine Zjq 1 f2 (Xf e) f3 i.2.2 (by rfl) (λx=>?_) λq l a b=>?_
  .rw [<-Kg,n];show(0)=1*0;simp
  .exact Ze9 m g f l a (b.sim (Qu e))
 .have j:0<Xr (Xd (sqf F xs)):=by have o:=Zav e n;have w:=Mu (Xd (sqf F xs));omega
  refine Zjq (Xr _) f2 (Xf e) f3 i.2.2 (by exact_mod_cast j) (λx=>?_) λq l a b=>?_
  .rw [<-Kg,<-Zi];grind [Ng,Qt,Int.mul_comm,Fh]
  .exact Ze9 m g f l a (b.sim (Qu e))
theorem Ymf{s g:List Int}(a0:∀x:Rat,Zc p x=Zc s x*Zc g x)(hg:Tr g)(W:g≠[])(v:Ed g (ld p))(l:Irr q)(G:Ed q p):Ed q s:=by
 refine bC λj=>?_;have f:=l.1;have D:=l.2.1;have F:¬Ed q (ld q):=λh=>by have Z:Ed q (Xd q):=h.congr λx=>(Kg q x).symm;have hl:=Nr q;have:=(Z.len f (Me f) (λe=>O4)).2;omega
 obtain⟨c1,m1,k1,e1⟩:=G;obtain⟨i,m,k2,S⟩:=v;have I:∀k,Ed (Cd q k) g:=λk=>by
  induction k with
  | zero=>exact⟨1,g,O,λx=>by rw [show Cd q 0=[1]from rfl,Ps];simp⟩
  | succ k ih=>
   cases k with
   | zero=>
    have o:Ed q g:=(Zdk s g m1 l k1 (λx=>O4)).resolve_left j;exact o.congr_l λx=>by rw [Cb,show Cd q 0=[1]from rfl,Ps];simp
   | succ k=>
    obtain⟨c,u,kc,eu⟩:=ih;have hd:∀x:Rat,(c:Rat)*Zc (ld g) x=Zc (ld u) x*Zc (Cd q (k+1)) x+Zc u x*(((k:Rat)+1)*(Zc (Cd q k) x*Zc (ld q) x)):=λx=>by have:=Cc (g.map λa=>c*a) (lmul u (Cd q (k+1))) (λy=>by grind [Zi,Zy]) x;grind [An,Ct,Zoo]
    have hp:∀x:Rat,Zc (ld p) x=Zc (ld s) x*Zc g x+Zc s x*Zc (ld g) x:=λx=>by have:=Cc p (lmul s g) (λy=>by grind [Zy]) x;grind [Ct]
    have hz:∀x:Rat,Zc (Nz ((lmul (lmul s u) (ld q)).map λa=>(i*((k:Int)+1))*a) ((lmul (Nz ((lmul s (ld u)).map λa=>i*a) ((lmul (Nz m ((ld s).map λa=>(-i)*a)) u).map λa=>(-1)*a)) q))) x=0:=λx=>by
     refine Fy (Cd q k) (λe=>?_) (λx=>?_) x
     .grind [Zai,Zcb]
     .rw [Xg,Zi,Zy,Zy,Zy,Xg,Zi,Zy,Zi,Zy,Xg,Zi];have M:=S x;have N:=hp x;have P:=hd x;have R:=eu x;rw [Cb]at P R;push_cast;grind
    have o:=Zdk (lmul s u) (ld q) (Nz ((lmul (Nz m ((ld s).map λa=>(-i)*a)) u)) ((lmul s (ld u)).map λa=>(-i)*a)) (k:=i*((k:Int)+1)) l (bD k2 O) (λx=>by have:=hz x;rw [Xg,Zi,Zy,Zy,Zy,Xg,Zi,Zy,Zi,Zy,Xg,Zi]at this;rw [Zy,Xg,Zy,Xg,Zi,Zi,Zy];grind)
    have Y:Ed q u:=by obtain⟨n,w,H,V⟩:=o.resolve_right F;exact(Zdk s u w (k:=n) l H (λx=>by grind [Zy])).resolve_left j
    obtain⟨n,w,H,V⟩:=Y;refine⟨n*c,w,bD H kc,λx=>?_⟩;grind [Cb]
 obtain⟨M,N⟩:=Zcb f D g.length;have:=((I g.length).len M hg W).2;omega
theorem Yl0(f:d≠0):Irr [-r,d]:=by have e:Tr [-r,d]:= .inr f;refine⟨e,O6,λq h g=>?_⟩;have:=(g.len h e O6).2;grind
theorem Ziq(r d:Int)(x:Rat):Zc [-r,d] x=(d:Rat)*x-r:=by show((-r))+x*((d)+x*0)=_;grind
theorem Yk5(n:Tr p)(g:d≠0)(h:Zc p ((r:Rat)/d)=0):Ed [-r,d] p:=by
 have i:(d:Rat)≠0:=O10;have m:Tr [-r,d]:= .inr g;obtain⟨k,s,hs⟩:=Zas p (q:=[-r,d]) O6;have e:=Ig (m.mem O6) k;generalize cf _ _^k=L at hs e;have j:∀x,(L)*Zc p x=Zc s x*Zc [-r,d] x+Zc (Qr p [-r,d]) x:=λx=>by have:=Dr L (-1) p s [-r,d] (Qr p [-r,d]) (λt=>O4) x;grind
 have l:=Po p (q:=[-r,d]) O6;have o:∀x,Zc (Qr p _) x=0:=λx=>by
  have f:=j ((r)/d);rw [Ziq]at f
  match hr:Qr p _,l with
  | [],_=>rfl
  | [c],_=>
   grind [Ps]
 exact⟨L,s,e,λx=>O4⟩
theorem Ed.root(g:d≠0)(h:Ed [-r,d] p):Zc p ((r:Rat)/d)=0:=by obtain⟨k,s,i,h⟩:=h;have e:(d:Rat)≠0:=O10;have f:(k:Rat)≠0:=O10;grind [Ziq]
theorem Ydr{F:Nat}(g:Tr xs)(j:xs≠[])(f:eok F (gA (Xq xs) (Xd (Xq xs))) (gB (Xq xs) (Xd (Xq xs))))(i:d≠0)(h:Zc xs ((r:Rat)/d)=0):Zc (sqf F xs) ((r:Rat)/d)=0:=by
 obtain⟨f1,f2,f3,f4,f5,f6⟩:=Nf _ g j f;have hs:=Nv (Xf g);have e:=Me hs;have l:=(Yk5 g i h).sim ((Qu g).symm.trans (Iw _).symm);have m:∀x,Zc (Xq xs) x=Zc (sqf F xs) x*Zc (Mr F (Xq xs) (Xd (Xq xs))) x:=λx=>by grind [Xm]
 have n:=((Zdb hs e f).2.ed).congr λx=>Kg _ x;exact(Ymf m (Ze8 _ hs e) f5 n (Yl0 i) l).root i
def Away(s t:Rat)(f:Rat->Rat):Prop:=∃δ:Rat,0<δ/\∀x,s<=x->x<=t->δ<=f x\/f x<=-δ
theorem Away.mul{f g h:Rat->Rat}(y:Away s t f)(D:Away s t g)(e:∀x,h x=f x*g x):Away s t h:=by
 obtain⟨a,l,m⟩:=y;obtain⟨b,n,o⟩:=D;refine⟨a*b,aV l n,λx i j=>?_⟩;rcases m x i j with v|v<;>rcases o x i j with w|w
 .have:=aG (a:=f x-a) (b:=g x) O4 O4;have:=aG (a:=a) (b:=g x-b) O4 O4;grind
 .have:=aG (a:=f x-a) (b:=- g x) O4 O4;have:=aG (a:=a) (b:=- g x-b) O4 O4;grind
 .have:=aG (a:=- f x-a) (b:=g x) O4 O4;have:=aG (a:=a) (b:=g x-b) O4 O4;grind
 .have:=aG (a:=- f x-a) (b:=- g x) O4 O4;have:=aG (a:=a) (b:=- g x-b) O4 O4;grind
theorem Away.lin(g:0<d)(h:(r:Rat)<d*s\/(d:Rat)*t<r):Away s t (Zc [-r,d]):=by
 have i:(0)<(d:Rat):=by exact_mod_cast g
 rcases h with h|h
 .refine⟨d*s-r,O4,λx e f=> .inl ?_⟩;rw [Ziq];have:=aG (a:=(d)) (b:=x-s) O4 O4;grind
 .refine⟨r-d*t,O4,λx e f=> .inr ?_⟩;rw [Ziq];have:=aG (a:=(d)) (b:=t-x) O4 O4;grind
theorem Away.sq(s t:Rat):Away s t (Zc [1,0,1]):=⟨1,by rfl,λx _ _=>by
 left;show(1)<=((1))+x*(((0))+x*(((1))+x*0));have:0<=x*x:=by
  rcases(show 0<=x\/x<0 by grind)with h|h
  .grind [Rat.mul_nonneg]
  .have:=aG (a:=-x) (b:=-x) O4 O4;grind
 grind⟩
theorem Away.one(s t:Rat):Away s t (Zc [1]):=⟨1,by rfl,λx _ _=>by grind [Ps,Rat.le_refl]⟩
def cntP(P:Int->Prop)[DecidablePred P](m:Int):Nat->Int
 | 0=>0
 | n+1=>cntP P m n+(if P (m+n+1)then 1 else 0)
def eB(K C:Nat):Nat->Nat
 | 0=>0
 | n+1=>C+K*eB K C n
def eL(K C:Nat):Nat->Nat
 | 0=>0
 | n+1=>K*eL K C n+eB K C n
def eM(K C:Nat):Nat->Nat
 | 0=>0
 | n+1=>eL K C n+K*eM K C n
theorem Fu{a b:Nat}(h:a<=b):(a:Rat)<=(b:Rat):=by exact_mod_cast h
theorem Yiq{C:Nat}(h:c.natAbs<=C):-(C:Rat)<=(c:Rat)/\(c:Rat)<=(C:Rat):=by
 have e:((-(C:Int)))<=(c:Rat):=by exact_mod_cast (show -(C)<=c by omega)
 have f:(c:Rat)<=(C):=by exact_mod_cast (show c<=(C) by omega)
 push_cast at e f
 all_goals grind
def Zqh{C:Nat}(h:∀i,(cf (c::p) i).natAbs<=C):c.natAbs<=C/\∀i,(cf p i).natAbs<=C:=⟨h 0,λi=>h (i+1)⟩
theorem Zol{K C:Nat} : ∀(n:Nat) (p:List Int),p.length<=n->(∀i,(cf p i).natAbs<=C)->∀x:Rat,-(K:Rat)<=x->x<=(K:Rat)->-(eB K C n:Rat)<=Zc p x/\Zc p x<=(eB K C n:Rat)
 | n,[],_,_,x,_,_=>by
  show -(eB K C n:Rat)<=0/\(0:Rat)<=(eB K C n)
  all_goals grind
 | 0,c::p,hl,_,_,_,_=>absurd hl O6
 | n+1,c::p,hl,hc,x,h1,h2=>by
  obtain⟨f,g⟩:=Zqh hc;obtain⟨h,j⟩:=Zol n p (by simpa using hl) g x h1 h2;obtain⟨m,o⟩:=Yiq f;have l:(0:Rat)<=(K):=Fu (bH _);obtain⟨f1,f2⟩:=Zbw h1 h2 h j l;have e:((eB K C (n+1)))=(C:Rat)+(K)*(eB K C n):=by show((C+K*eB K C n:Nat):Rat)=_;push_cast;rfl
  rw [show Zc _ x=(c)+x*Zc p x from rfl];constructor<;>grind
theorem Zok{K C:Nat} : ∀(n:Nat) (p:List Int),p.length<=n->(∀i,(cf p i).natAbs<=C)->Lip (-(K:Rat)) (K:Rat) (eL K C n:Rat) (Zc p)
 | n,[],_,_,x,y,_,j,_=>by
  have h:(0:Rat)<=(eL K C n):=Fu (bH _);have:=aG (b:=y-x) h O4;show(0:Rat)-0<=_/\(0:Rat)-0<=_
  all_goals grind
 | 0,c::p,hl,_,_,_,_,_,_=>absurd hl O6
 | n+1,c::p,hl,hc,x,y,h1,j,h2=>by
  obtain⟨m,f⟩:=Zqh hc;obtain⟨o,v⟩:=Zok n p O4 f x y h1 j h2;obtain⟨w,D⟩:=Zol n p O4 f y O4 h2;have l:(0:Rat)<=(K:Rat):=Fu (bH _);obtain⟨f1,f2⟩:=Zbw (q:=x) (g:=Zc p x-Zc p y) (e:=(eL K C n)*(y-x)) h1 O4 O4 O4 l;have F:=aG (a:=(eB K C n)-Zc p y) (b:=y-x) O4 O4;have G:=aG (a:=(eB K C n)+Zc p y) (b:=y-x) O4 O4;have e:((eL K C (n+1):Nat))=(K:Rat)*(eL K C n)+(eB K C n):=by show((K*eL K C n+eB K C n:Nat):Rat)=_;simp
  rw [e,show Zc (c::p) x=(c:Rat)+x*Zc p x from rfl,show Zc (c::p) y=(c:Rat)+y*Zc p y from rfl]
  all_goals grind
theorem Yeo{K C:Nat} : ∀(n:Nat) (p:List Int),p.length<=n->(∀i,(cf p i).natAbs<=C)->Tay (-(K:Rat)) (K:Rat) (eM K C n:Rat) p
 | n,[],_,_,x,y,_,f,_=>by
  have h:(0:Rat)<=(eM K C n):=Fu (bH _);have o:=aG (a:=y-x) (b:=y-x) O4 O4;have:=aG h o;show -((eM K C n)*(y-x)*(y-x))<=(0:Rat)-0-(y-x)*0/\(0:Rat)-0-(y-x)*0<=(eM K C n)*(y-x)*(y-x)
  all_goals grind
 | 0,c::p,hl,_,_,_,_,_,_=>absurd hl O6
 | n+1,c::p,hl,hc,x,y,hs,f,ht=>by
  obtain⟨w,g⟩:=Zqh hc;obtain⟨l,m⟩:=Yeo n p O4 g x y hs f ht;obtain⟨D,F⟩:=Zok n p O4 g x y hs f ht;have v:(0)<=(K:Rat):=Fu (bH _);have j:0<=y-x:=O4;obtain⟨f1,f2⟩:=Zbw (q:=x) hs O4 l m v;have G:=aG (b:=(eL K C n)*(y-x)-(Zc p y-Zc p x)) j O4;have H:=aG (b:=(eL K C n)*(y-x)+(Zc p y-Zc p x)) j O4;have e:((eM K C (n+1):Nat))=(eL K C n)+(K:Rat)*(eM K C n):=by show((eL K C n+K*eM K C n:Nat):Rat)=_;simp
  rw [e,Zfh,show Zc (c::p) y=(c)+y*Zc p y from rfl,show Zc (c::p) x=(c)+x*Zc p x from rfl]
  all_goals grind
theorem Zwp{A:Nat}(j:Tr a)(W:Tr b)(la:2<=a.length)(lb:b.length+1=a.length)(N:0<A)(na:∀i,(cf a i).natAbs<=A)(nb:∀i,(cf b i).natAbs<=A)(Y:∀q,Tr q->Ed q a->Ed q b->q.length<=1) :
  ∃(U V:List Int) (c:Int),c≠0/\U.length+2=a.length/\V.length+1=a.length/\(∀i,(cf U i).natAbs<=(2*(2*a.length-3)*A)^(2*a.length-4))/\(∀i,(cf V i).natAbs<=(2*(2*a.length-3)*A)^(2*a.length-4))/\
   ∀x,(c:Rat)=Zc U x*Zc a x+Zc V x*Zc b x:=by
 obtain⟨U,V,lU,lV,m,n,o,hz⟩:=Zhy a b 1 (p:=a.length-2) (q:=a.length-1) N na nb O O O;have F:¬(tzl U=[]/\tzl V=[]):=λ⟨h1,h2⟩=>by grind [Kv]
 clear m;rw [show a.length-2+(a.length-1)=2*a.length-3 by omega]at n o;have h:a≠[]:=λe=>O4;have H:∀i,cf (Nz (lmul U a) (lmul V b)) i=(ps U*ps a).c i+(ps V*ps b).c i:=λi=>by rw [My,Ej,Ej,PS.mul_c,PS.mul_c];rfl
 have G:∀t,Zc (Nz (lmul U a) (lmul V b)) t=Zc U t*Zc a t+Zc V t*Zc b t:=λt=>by grind [Xg,Zy]
 generalize Nz (lmul U a) (lmul V b)=R at H G;have S:∀t,Zc R t=(cf R 0:Rat):=λt=>by
  rw [<-Ps (cf R 0) t];refine Ng t _ _ λi=>?_
  match i with
  | 0=>rfl
  | i+1=>grind [Yw]
 refine⟨U,V,cf R 0,λM=>?_,O,O,n,o,λx=>O4⟩;have a0:∀t,Zc U t*Zc a t+Zc V t*Zc b t=0:=λt=>by rw [<-G,S,M];rfl
 obtain⟨g,P,Q,f,v,I,w⟩:=Zlv _ a b j W (aI _);have hl:=Y g f v I;have hg:=(v.len f j h).1;have D:tzl V=[]:=by
  refine bC λD=>?_
  match g,hg,hl,f,w with
  | [c],_,_,f,w=>
   have l:c≠0:=f.mem O6;have Z:Ed a (tzl V):=⟨c,Nz (lmul P V) ((lmul Q U).map λz=>(-1)*z),l,λx=>by grind [Ps,Li,Xg,Zi,Zy]⟩
   have:=(Z.len j (Qp V) D).2;grind [Hj]
  | c::d::r,_,h9,_,_=>grind
 have y:tzl U=[]:=by
  refine bC λy=>?_;have:∀t,Zc a t=0:=Fy U y λt=>by grind [Am]
  exact j.mem h (Zon this _)
 grind
def Zxy(K A n e:Nat):Bool:=
 let X:=(2*(2*n-3)*A)^(2*n-4);let W:=eB K X (n-1)
 Nat.ble (2*(2*W+1)*(2*eL K A n)) (2^e) && Nat.ble (2*(2*W+1)*eM K A n) (2^e)
theorem big_or  {A n e:Nat} (hK:0<K) (F:0<A) (G:Tr a) (H:Tr b) (N:a.length=n) (h2:2<=n) (S:b.length+1=a.length) (Y:∀i,(cf a i).natAbs<=A) (Z:∀i,(cf b i).natAbs<=A) (I:∀q,Tr q->Ed q a->Ed q b->q.length<=1)
  (x:Rat) (j:-(K:Rat)<=x) (l:x<=(K:Rat)):Big (1/((2*eB K ((2*(2*n-3)*A)^(2*n-4)) (n-1)+1:Nat):Rat)) x (Zc a)\/Big (1/((2*eB K ((2*(2*n-3)*A)^(2*n-4)) (n-1)+1:Nat):Rat)) x (Zc b):=by
 obtain⟨U,V,c,D,lU,lV,f,g,M⟩:=Zwp G H O S F Y Z I;rw [N]at f g;generalize (2*(2*n-3)*A)^(2*n-4)=X at *;obtain⟨u1,u2⟩:=Zol (n-1) U O f x j l;obtain⟨v1,v2⟩:=Zol (n-1) V O g x j l;generalize eB K X (n-1)=W at *;have m:(0:Rat)<=(W:Rat):=Fu (bH _);generalize hε:1/((2*W+1):Rat)=ε;have P:0<=ε:=by grind [Rat.inv_pos,Rat.div_def]
 by_cases p1:Big ε x (Zc a)
 .grind
 .by_cases p2:Big ε x (Zc b)
  .grind
  .obtain⟨o,v⟩:=Zde p1;obtain⟨w,y⟩:=Zde p2;obtain⟨q1,q2⟩:=Zbw u1 u2 o v m;obtain⟨r1,r2⟩:=Zbw v1 v2 w y m;have h5:(c:Rat)<=-1\/1<=(c:Rat):=by
    rcases lJ D with h|h
    .left;have:((c:Int):Rat)<=((-1:Int)):=by exact_mod_cast (show c<=-1 by omega)
     grind
    .right;have:=O;exact_mod_cast this
   have R:0<ε:=by grind
   all_goals grind
theorem two_pow_pos(e:Nat):(0:Rat)<((2^e:Nat):Rat):=by have:0<2^e:=bR O;exact_mod_cast this
theorem Yns  {F A n e:Nat} (hx:Tr xs) (h0:xs≠[]) (hC:Ag F xs) (hK:0<K) (hA:0<A) (hn:(sqf F xs).length=n) (h2:2<=n) (V:∀i,(cf (sqf F xs) i).natAbs<=A) (nb:∀i,(cf (Xd (sqf F xs)) i).natAbs<=A) (hs:Zxy K A n e=true)
  {u v:Rat} (h1:-(K:Rat)<=u) (S:u<=v) (h3:v<=(K:Rat)) (hh:v-u<=1/((2^e:Nat):Rat)) :
  vat ((chn F xs).map Zc) u-vat ((chn F xs).map Zc) v=crs (Zc (sqf F xs)) u v:=by
 have w:=hC.1.2.2.1;obtain⟨f1,f2,f3,f4,f5,f6⟩:=Nf F hx h0 w;have f:=Me f2;have a1:=Nr (sqf F xs);have hd:Xd (sqf F xs)≠[]:=λe=>O4;have R:1<=Xr (Xd (sqf F xs)):=by have h1:=Zav f hd;have h2:=Mu (Xd (sqf F xs));omega
 have a0:(1:Rat)<=(Xr (Xd (sqf F xs)):Rat):=by exact_mod_cast R
 have y:∀i,(cf (Yu (Xd (sqf F xs))) i).natAbs<=A:=λi=>by have h5:=Fh (Xd (sqf F xs)) i;have h6:=nb i;rw [<-h5,bQ]at h6;have:(cf (Yu (Xd (sqf F xs))) i).natAbs*1<=(cf (Yu (Xd (sqf F xs))) i).natAbs*(Xr (Xd (sqf F xs))).natAbs:=bB _ O;omega
 have l:∀q,Tr q->Ed q (sqf F xs)->Ed q (Yu (Xd (sqf F xs)))->q.length<=1:=λq hq a b=>Ze9 hx h0 w hq a (b.sim (Qu f));have N:(Yu (Xd (sqf F xs))).length+1=(sqf F xs).length:=by grind [Yj]
 have g:=big_or (e:=e) hK hA f2 (Xf f) hn h2 N V y l;unfold Zxy at hs;simp only [aQ,Nat.ble_eq]at hs;obtain⟨s1,s2⟩:=hs;generalize (2*(2*n-3)*A)^(2*n-4)=X at *;generalize eB K X (n-1)=W at *;have hD:(0:Rat)<((2*W+1:Nat):Rat):=by grind
 have hP:=two_pow_pos e;have Y:=Fu s1;have Z:=Fu s2;have c1:((2*(2*W+1)*(2*eL K A n):Nat):Rat)=2*((2*W+1:Nat):Rat)*(2*(eL K A n:Rat)):=O6;have c2:((2*(2*W+1)*eM K A n:Nat):Rat)=2*((2*W+1:Nat):Rat)*(eM K A n:Rat):=O6;rw [c1]at Y;rw [c2]at Z;have hi:=fD.2 hD;have I:=fD.2 hP;have m:((2*W+1:Nat):Rat)*((2*W+1:Nat):Rat)⁻¹=1:=O4;have o:((2^e:Nat):Rat)*((2^e:Nat):Rat)⁻¹=1:=O4;rw [kY,Rat.one_mul]at hh;simp only [kY,Rat.one_mul]at g;generalize ((2*W+1:Nat):Rat)=D at *;generalize ((2^e:Nat):Rat)=P at *;have j:(0:Rat)<=(eL K A n:Rat):=Fu (bH _);have H:(0:Rat)<=(eM K A n:Rat):=Fu (bH _);refine Zhw (s:=-(K:Rat)) (t:=(K:Rat)) (κ:=(Xr (Xd (sqf F xs)):Rat)) (ε:=D⁻¹) (L:=(eL K A n:Rat)) (L':=(eL K A n:Rat)) (M:=(eM K A n:Rat)) (h:=P⁻¹) f2 (Xf f) hC.2.2 O4 (λx=>?_) hi g j (Zok n _ O V) j (Zok n _ O y) H (Yeo n _ O V) I ?_ ?_ h1 S h3 hh
 .rw [<-Kg,<-Zi];grind [Ng,Qt,Int.mul_comm,Fh]
 .-- P⁻¹ * (2 L) ≤ D⁻¹ / 2
  have t1:=aG (a:=P⁻¹*D⁻¹) (b:=P-2*D*(2*(eL K A n:Rat))) (by have:=aV I hi;grind) O4;have G:P⁻¹*D⁻¹*(P-2*D*(2*(eL K A n:Rat)))=D⁻¹*(P*P⁻¹)-2*P⁻¹*(D*D⁻¹)*(2*(eL K A n:Rat)):=O4;rw [G,m,o]at t1;grind
 .have t1:=aG (a:=P⁻¹*D⁻¹) (b:=P-2*D*(eM K A n:Rat)) (by have:=aV I hi;grind) O4;have G:P⁻¹*D⁻¹*(P-2*D*(eM K A n:Rat))=D⁻¹*(P*P⁻¹)-2*P⁻¹*(D*D⁻¹)*(eM K A n:Rat):=O4;rw [G,m,o]at t1;have t2:=aG (a:=(Xr (Xd (sqf F xs)):Rat)-1) (b:=D⁻¹) O4 O4;grind
theorem Zlr{F:Nat}(H:Tr xs)(m:xs≠[])(D:Ag F xs)(G:s<=t):vat ((chn F xs).map Zc) t<=vat ((chn F xs).map Zc) s:=by
 obtain⟨h,o,N⟩:=Zlq H m D s t;have P:∀f u v,0<=crs f u v:=λf u v=>by unfold crs;all_goals omega
 have M:∀n:Nat,∀y,s<=y->y<=t->y-s<=(n:Rat)*h->vat ((chn F xs).map Zc) y<=vat ((chn F xs).map Zc) s:=λn=>by
  induction n with
  | zero=>
    grind
  | succ n I=>
   intro y e w g;have i:((n+1:Nat):Rat)*h=(n:Rat)*h+h:=O4;rcases(show y-s<=(n:Rat)*h\/(n:Rat)*h<y-s by grind)with j|j
   .grind
   .have x:(0:Rat)<=(n:Rat)*h:=aG O4 O4;rcases(show s<=y-h\/y-h<s by grind)with l|l
    .have a:=I (y-h) l O4 O4;grind
    grind
 have e:∃n:Nat,t-s<=(n:Rat)*h:=by
  have w:0<h⁻¹:=fD.2 o;refine⟨((t-s)*h⁻¹).ceil.toNat,?_⟩;have g:=@mK ((t-s)*h⁻¹);have i:((((t-s)*h⁻¹).ceil:Int):Rat)<=((((t-s)*h⁻¹).ceil.toNat:Nat):Rat):=by have:((t-s)*h⁻¹).ceil<=((((t-s)*h⁻¹).ceil.toNat:Nat):Int):=jV _;exact_mod_cast this
  have j:=dI (mB g i) (show 0<=h by grind);have x:(t-s)*h⁻¹*h=t-s:=O4;grind
 obtain⟨n,R⟩:=e;grind
def qv(z:R2):Rat:=(z.1:Rat)/(z.2:Rat)
theorem Zt6{x y X Y g:Nat}(F:g=Nat.gcd x y)(H:0<y)(D:0<Y)(h:x*Y=X*y):y/g∣Y/\x/g<=X:=by
 have f:0<g:=O4;have n:Nat.Coprime (x/g) (y/g):=by grind [Nat.coprime_div_gcd_div_gcd]
 have o:x/g*g=x:=lK (by grind [Nat.gcd_dvd_left]);have v:y/g*g=y:=lK (by grind [Nat.gcd_dvd_right]);have w:x/g*Y=X*(y/g):=by refine jL f ?_;grind
 have l:y/g∣Y:=n.symm.dvd_of_dvd_mul_left (by grind [Nat.dvd_mul_left]);refine⟨l,?_⟩;obtain⟨k,G⟩:=l;have i:0<k:=lL λe=>O4;have j:0<y/g:=lL λe=>O4;have m:x/g*k=X:=by refine jL j ?_;grind
 rw [<-m];exact eD _ i
theorem Zpa{x y X Y:Int}(m:0<y)(F:0<Y)(h:x*Y=X*y)(j:bl X.natAbs<=B)(e:bl Y.natAbs<=B)(D:B<=65536) :
  ¬La x y/\Ip x y∣Y/\0<Ip x y/\bl (Gk x y).natAbs<=B/\bl (Ip x y).natAbs<=B/\Gk x y*y=x*Ip x y:=by
 have G:Le x y=(Nat.gcd x.natAbs y.natAbs):=by rw [Yl2 O];rfl
 have l:x.natAbs*Y.natAbs=X.natAbs*y.natAbs:=by rw [<-bQ,<-bQ,h]
 obtain⟨g,v⟩:=Zt6 rfl O O l;have i:(y/Le x y).natAbs=y.natAbs/Nat.gcd x.natAbs y.natAbs:=by grind
 have w:(x/Le x y).natAbs=x.natAbs/Nat.gcd x.natAbs y.natAbs:=by grind [Int.natAbs_ediv_of_dvd,Zsw,Zfx]
 have n:bl (y/Le x y).natAbs<=B:=aB (Lj (by rw [i];exact jY O g)) e;have o:bl (x/Le x y).natAbs<=B:=aB (Lj O) j;have f:¬La x y:=λh=>by unfold La at h;omega
 obtain⟨H,I,-⟩:=Zbi f;refine⟨f,?_,Zo4 f m,O4,O4,?_⟩
 all_goals grind [Int.natAbs_dvd_natAbs,Yf7]
structure En (K Q:Nat) (d:Nat) (z:R2):Prop where
 pos:0<z.2
 dv:z.2∣((Q*2^d:Nat):Int)
 lo:-(K:Rat)<=qv z
 hi:qv z<=(K:Rat)
theorem En.up{d:Nat}(h:En K Q d z):En K Q (d+1) z:=by obtain⟨e,i,f,g⟩:=h;refine⟨e,?_,f,g⟩;have:((Q*2^(d+1):Nat))=((Q*2^d):Int)*2:=O4;rw [this];grind [Int.dvd_trans,Int.dvd_mul_right]
theorem canc{N p s Y X D:Int}(e:p≠0)(f:N*p=s*D)(g:s*Y=X*p):N*Y=X*D:=by refine jM e ?_;grind
theorem Gc{z:Int}(h:0<z):(0:Rat)<(z:Rat):=by exact_mod_cast h
def Zc1{n m:Nat}(h:n<2^m):bl n<=m:=(Qs m n).2 h
theorem mid_en{d:Nat}{a b:R2}(ha:En K Q d a)(hb:En K Q d b)(hQ:0<Q)(Z:Q*2^(d+1)<2^B)(a0:2*K*(Q*2^d)<2^B)(I:B<=65536) :
  Zd4 a b/\En K Q (d+1) (Pr a b)/\qv (Pr a b)=(qv a+qv b)/2/\bl (Pr a b).1.natAbs<=B/\bl (Pr a b).2.natAbs<=B:=by
 obtain⟨M,⟨e,da⟩,la,ua⟩:=ha;obtain⟨N,⟨f,P⟩,lb,ub⟩:=hb;generalize hY:((Q*2^d:Nat):Int)=Y at *;have a2:0<Q*2^d:=gL hQ (bR O);have i:0<Y:=O;have a8:=Gc M;have a9:=Gc N;have rY:=Gc i;have v:0<a.2*b.2:=fC M N;have g:(a.1*b.2+b.1*a.2)*Y=(a.1*e+b.1*f)*(a.2*b.2):=by grind
 have a5:(a.1:Rat)*e=qv a*Y:=by unfold qv;have:(Y:Rat)=(a.2:Rat)*e:=O10;grind
 have a6:(b.1:Rat)*f=qv b*Y:=by
  unfold qv;have:(Y:Rat)=(b.2:Rat)*f:=by rw [P];simp
  grind
 have D:((a.1*e+b.1*f:Int):Rat)=(qv a+qv b)*Y:=O4;have a3:(a.1*e+b.1*f).natAbs<=2*K*(Q*2^d):=by
  have h:((2*K*(Q*2^d):Nat):Rat)=2*(K:Rat)*(Y:Rat):=by rw [<-hY];push_cast;rfl
  have t1:=aG (a:=2*(K:Rat)-(qv a+qv b)) (b:=(Y:Rat)) O4 O4;have t2:=aG (a:=2*(K:Rat)+(qv a+qv b)) (b:=(Y:Rat)) O4 O4;have u1:((a.1*e+b.1*f:Int):Rat)<=(((2*K*(Q*2^d):Nat):Int):Rat):=by rw [D];push_cast at h ⊢;grind
  have u2:((-((2*K*(Q*2^d):Nat):Int):Int):Rat)<=((a.1*e+b.1*f:Int):Rat):=by rw [D];push_cast at h ⊢;grind
  have v1:a.1*e+b.1*f<=((2*K*(Q*2^d):Nat):Int):=by exact_mod_cast u1
  have v2:-((2*K*(Q*2^d):Nat):Int)<=a.1*e+b.1*f:=by exact_mod_cast u2
  omega
 have a4:Y.natAbs=Q*2^d:=O;have a1:Q*2^(d+1)=2*(Q*2^d):=O4;have F:bl Y.natAbs<=B:=Zc1 O;have j:bl (a.1*e+b.1*f).natAbs<=B:=Zc1 O;obtain⟨f1,f2,f3,f4,f5,f6⟩:=Zpa v i g j F I;have a7:=canc (Int.ne_of_gt v) f6 g;have l:bl (2*Y).natAbs<=B:=Zc1 O4;have w:Gk (a.1*b.2+b.1*a.2) (a.2*b.2)*1*(2*Y)=(a.1*e+b.1*f)*(Ip (a.1*b.2+b.1*a.2) (a.2*b.2)*2):=by grind
 have o:0<Ip (a.1*b.2+b.1*a.2) (a.2*b.2)*2:=O;obtain⟨R,S,y,G,H,V⟩:=Zpa o (by omega:0<2*Y) w j l I;have x:=canc (Int.ne_of_gt o) V w;have m:(Pr a b).1=Gk (Gk (a.1*b.2+b.1*a.2) (a.2*b.2)*1) (Ip (a.1*b.2+b.1*a.2) (a.2*b.2)*2):=rfl;have n:(Pr a b).2=Ip (Gk (a.1*b.2+b.1*a.2) (a.2*b.2)*1) (Ip (a.1*b.2+b.1*a.2) (a.2*b.2)*2):=rfl;rw [<-m,<-n]at x;rw [<-n]at S y H;rw [<-m]at G;have hq:qv (Pr a b)=(qv a+qv b)/2:=by
  have W:(((Pr a b).1:Int):Rat)*(2*(Y:Rat))=((a.1*e+b.1*f:Int):Rat)*(((Pr a b).2:Int):Rat):=by
   have:(((Pr a b).1*(2*Y):Int):Rat)=(((a.1*e+b.1*f)*(Pr a b).2:Int):Rat):=by rw [x]
   grind
  rw [D]at W;have rd:=Gc y;unfold qv at *;grind
 refine⟨⟨f1,R⟩,⟨y,?_,O4,O4⟩,hq,G,H⟩;grind
def vch(F:Nat)(xs:List Int)(x:Rat):Int:=vat ((chn F xs).map Zc) x
def cvc_v{F:Nat}(h:0<z.2):cvc F xs z=vch F xs (qv z):=Yni h
def Sqn(P:R2->R2->Prop)(hi:Rat):Rat->List (R2×R2)->Prop
 | e,[]=>e<=hi
 | e,c::r=>e<=qv c.1/\qv c.1<qv c.2/\P c.1 c.2/\Sqn P hi (qv c.2) r
theorem Sqn.le{P:R2->R2->Prop}{hi:Rat} : ∀{e:Rat} {l:List (R2×R2)},Sqn P hi e l->e<=hi
 | e,[],h=>h
 | e,c::r,h=>by have:=Sqn.le h.2.2.2;have:=h.1;have:=h.2.1;grind
theorem Sqn.low{P:R2->R2->Prop}{hi:Rat}{f e:Rat}(g:e<=f):∀{l:List (R2×R2)},Sqn P hi f l->Sqn P hi e l
 | [],h=>by have h:f<=hi:=h;show e<=hi;grind
 | c::r,h=>⟨by have:=h.1;grind,h.2⟩
def Sqn.app{P:R2->R2->Prop}{e hi:Rat}{j:List (R2×R2)}(g:Sqn P hi e j):∀{f:Rat} {i:List (R2×R2)},Sqn P e f i->Sqn P hi f (i ++ j)
 | f,[],h=>g.low h
 | f,c::r,h=>⟨h.1,h.2.1,h.2.2.1,Sqn.app g h.2.2.2⟩
theorem Zop{a:R2}(m:0<a.2)(h:a.1.natAbs<=K):-(K:Rat)<=qv a/\qv a<=(K:Rat):=by
 obtain⟨j,l⟩:=Yiq h;have n:(1:Rat)<=(a.2):=by exact_mod_cast (show 1<=a.2 by omega)
 have e:(0)<=(K:Rat):=Fu (bH _);have hi:=fD.2 (show 0<(a.2:Rat) by grind);have f:(a.2)*(a.2:Rat)⁻¹=1:=O4;unfold qv;have t1:=aG (a:=(a.2)⁻¹) (b:=(K)*a.2-a.1) O4 (by have:=aG (b:=(a.2)-1) e O4;grind);have t2:=aG (a:=(a.2)⁻¹) (b:=(K)*a.2+a.1) O4 (by have:=aG (b:=(a.2)-1) e O4;grind);have g:(a.2:Rat)⁻¹*((K)*a.2-a.1)=(K)*(a.2*(a.2:Rat)⁻¹)-a.1*(a.2:Rat)⁻¹:=O4;have i:(a.2:Rat)⁻¹*((K)*a.2+a.1)=(K)*(a.2*(a.2:Rat)⁻¹)+a.1*(a.2:Rat)⁻¹:=O4;rw [g,f]at t1;rw [i,f]at t2
 all_goals grind
theorem Zb5{a:R2}{n:Nat}(e:0<a.2)(f:bl a.1.natAbs<=n)(g:bl a.2.natAbs<=n)(h:n<=65536) :
  ¬La a.1 a.2/\0<(slow a).2/\bl (slow a).1.natAbs<=n/\bl (slow a).2.natAbs<=n/\qv (slow a)=qv a:=by
 obtain⟨f1,f2,f3,f4,f5,f6⟩:=Zpa e e rfl f g h;refine⟨f1,f3,f4,f5,?_⟩;have r1:=Gc e;have r2:=Gc f3;have i:((Gk a.1 a.2))*(a.2:Rat)=(a.1)*((Ip a.1 a.2)):=by exact_mod_cast f6
 show((Gk a.1 a.2))/((Ip a.1 a.2))=(a.1)/(a.2:Rat);grind
theorem sep_of  {F A e:Nat} (D:Tr xs) (l:xs≠[]) (w:Ag F xs) (x:0<K) (o:0<A) (G:∀i,(cf (sqf F xs) i).natAbs<=A) (H:∀i,(cf (Xd (sqf F xs)) i).natAbs<=A)
  (hs:2<=(sqf F xs).length->Zxy K A (sqf F xs).length e=true) (u v:Rat) (m:-(K:Rat)<=u) (f:u<=v) (n:v<=(K:Rat)) (y:v-u<=1/((2^e:Nat):Rat)):vch F xs u-vch F xs v<=1:=by
 by_cases j:2<=(sqf F xs).length
 .have h:=Yns D l w x o rfl j G H (hs j) m f n y;show vat _ u-vat _ v<=1;rw [h];unfold crs;all_goals omega
 .have N:=Nr (sqf F xs);have M:Xd (sqf F xs)=[]:=aH O;have I:chn F xs=[sqf F xs]:=by unfold chn;grind [Ybi,Bk]
  unfold vch vat;have r1:=Zhl (([Zc (sqf F xs)]).map λg=>Em (g u));have r2:=Zhl (([Zc (sqf F xs)]).map λg=>Em (g v));grind
theorem Sqn.mem{P:R2->R2->Prop}{hi:Rat} : ∀{f:Rat} {l:List (R2×R2)},Sqn P hi f l->∀c∈l,P c.1 c.2
 | _,[],_,c,e=>O4
 | f,d::r,h,c,e=>by
  rcases aU.1 e with rfl|e
  .exact h.2.2.1
  .exact Sqn.mem h.2.2.2 c e
theorem en_bl{d:Nat}(h:En K Q d z)(i:0<Q)(w:Q*2^d<2^B)(x:K*(Q*2^d)<2^B):bl z.1.natAbs<=B/\bl z.2.natAbs<=B:=by
 obtain⟨l,j,y,F⟩:=h;have g:0<Q*2^d:=gL i (bR O);have f:z.2.natAbs<=Q*2^d:=by have:=fK.2 j;rw [eF]at this;simp_all [jY]
 have m:z.1.natAbs<=K*z.2.natAbs:=by
  have r:=Gc l;have e:(z.1)=qv z*z.2:=by unfold qv;grind
  have t1:=aG (a:=(K)-qv z) (b:=(z.2)) O4 O4;have t2:=aG (a:=(K)+qv z) (b:=(z.2)) O4 O4;have D:((K*z.2.natAbs:Nat))=(K)*z.2:=O4;have o:((z.1):Rat)<=(((K:Int)*z.2:Int)):=by push_cast;grind
  have v:((-((K:Int)*z.2):Int))<=((z.1):Rat):=by push_cast;grind
  have G:=by exact_mod_cast o
  have H:=by exact_mod_cast v
  omega
 have n:K*z.2.natAbs<=K*(Q*2^d):=bB _ f;exact⟨Zc1 O,Zc1 O⟩
theorem Yhq (e:Nat)(w:Nat)(B:Nat){n:Nat}(h:En (2^n) Q (e+w) z)(x:0<Q)(j:Q<2^(2*n))(y:3*n+1+(e+w)<=B):bl z.1.natAbs<=B/\bl z.2.natAbs<=B:=by
 have f:∀m,m<=B->2^m<=2^B:=λm h=>cW O h;have i:0<2^(e+w):=bR O;have g:=dL j i;have l:2^n*(Q*2^(e+w))<2^n*(2^(2*n)*2^(e+w)):=jN g (bR O);have o:2^(2*n)*2^(e+w)=2^(2*n+(e+w)):=(bL _ _ _).symm;have v:2^n*(2^(2*n)*2^(e+w))=2^(n+(2*n+(e+w))):=by simp [bL]
 rw [o]at g;rw [v]at l;exact en_bl h x (dA g (f _ O)) (dA l (f _ O))
theorem Ed.const{g:List Int}(h:Ed g a)(o:Tr g)(m:Tr a)(l:a≠[])(w:g.length=a.length):∃k c:Int,k≠0/\c≠0/\∀x:Rat,(k:Rat)*Zc a x=(c:Rat)*Zc g x:=by
 obtain⟨k,s,i,h⟩:=h;obtain⟨v,f,j⟩:=Zwd i o m l h;have e:=aL.2 f
 match hs:tzl s,e,j with
 | [c],_,_=>
  have n:=by have:=(Qp s).mem f;rw [hs]at this;exact this
  refine⟨k,c,i,n,λx=>?_⟩;rw [h x,<-Li s,hs,Ps]
 | c::d::r,_,h9=>grind
theorem Zve(p:List Int)(c:Int)(x:Rat):Zc (Yx p c) x=(c:Rat)*Zc p x:=by rw [<-Zi];grind [Ng,Qm,Qt,Int.mul_comm]
theorem Ed.dv{g:List Int}(h:Ed g a):Dv g a:=by obtain⟨k,s,e,h⟩:=h;refine⟨k,s,e,λt=>?_⟩;have:=Mi (p:=a.map λc=>k*c) (q:=Qx s g) (λx=>by rw [Zi,Xm];exact h x) t;rw [Qt,Gh]at this;exact this
theorem ed_cop{t w s:List Int}(F:k≠0)(m:Tr t)(H:Tr w)(t0:t≠[])(D:∀d,Tr d->Ed d t->Ed d w->d.length<=1)(h:∀x:Rat,(k:Rat)*(Zc u x*Zc w x)=Zc s x*Zc t x):Ed t u:=by
 obtain⟨g,A,B,f,j,n,y⟩:=Zlv w.length t w m H (aI _);have G:=D g f j n;have i:=(j.len f m t0).1
 match hgg:g,G,i with
 | [c],_,_=>
  have e:c≠0:=by have:=f.mem O6;exact this
  refine⟨k*c,Nz ((Qx A u).map λa=>k*a) (Qx B s),bD F e,λx=>?_⟩;rw [Xg,Zi,Xm,Xm];have l:=y x;rw [Ps]at l;have o:=h x;push_cast;rw [show(k:Rat)*c*Zc u x=k*(Zc u x*(c:Rat)) by grind,l];have v:(k:Rat)*(Zc u x*(Zc A x*Zc t x+Zc B x*Zc w x))=k*Zc A x*Zc u x*Zc t x+Zc B x*(k*(Zc u x*Zc w x)):=O4;rw [v,o];grind
 | c::d::r,h9,_=>simp at h9
def Ms(F:Nat)(p:List Int):List Int:=Mr F (Xq p) (Xd (Xq p))
def Zay(F:Nat)(p:List Int):Prop:=eok F (gA (Xq p) (Xd (Xq p))) (gB (Xq p) (Xd (Xq p)))
theorem Oz{F:Nat}(j:Tr p)(l:p≠[])(i:Zay F p):Tr (Ms F p)/\Ms F p≠[]/\Xq (Ms F p)=Ms F p/\Xq p=Qx (sqf F p) (Ms F p)/\(sqf F p).length+(Ms F p).length=p.length+1:=by obtain⟨f1,f2,f3,f4,f5,f6⟩:=Nf F j l i;have f:Tr (Xq p):=Nv (Xf j);have g:Tr (Xd (Xq p)):=Me f;have h:=Ze8 F f g;have m:=Ny f2 h f3 f5;rw [<-f4,Pk j]at m;have n:=aL.2 f3;have o:=aL.2 f5;refine⟨h,f5,Zvp h (Zke f g f5) (Bp (Ztl F (Zjm f g) (Zjl f g)) (λe=>f5 (by unfold Mr;rw [e];rfl))),f4,?_⟩;unfold Ms;omega
theorem Yk8{h:List Int}(j:Tr h)(i:h≠[]){m:Int}(e:∀x:Rat,(k:Rat)*(Zc a x*Zc h x)=(m:Rat)*(Zc b x*Zc h x))(x:Rat):(k:Rat)*Zc a x=(m:Rat)*Zc b x:=by
 have g:=Fy h (f:=Nz (a.map λc=>k*c) (b.map λc=>(-m)*c)) (by rw [Zai j];exact i) (λx=>by rw [Xg,Zi,Zi];have:=e x;push_cast;grind) x
 rw [Xg,Zi,Zi]at g;push_cast at g;grind
theorem Zyj{F:Nat}(W:Tr p)(h0:p≠[])(l:Zay F p)(e:Zay F (Ms F p)):Ed (sqf F (Ms F p)) (sqf F p):=by
 obtain⟨n,a2,f,a4,a5⟩:=Oz W h0 l;obtain⟨H,G,b3,b4,b5⟩:=Oz n a2 e;obtain⟨-,u2,u3,-,-,-⟩:=Nf F W h0 l;obtain⟨-,t2,t3,-,-,-⟩:=Nf F n a2 e;have ht:Tr (Xq p):=Nv (Xf W);have o:Ed (Ms F p) (Xd (Xq p)):=(Zdb ht (Me ht) l).2.ed;have e2:Ed (Ms F (Ms F p)) (Xd (Ms F p)):=by have:=(Zdb (F:=F) (p:=Xq (Ms F p)) (q:=Xd (Xq (Ms F p))) (by rw [f];exact n) (Me (by rw [f];exact n)) e).2.ed;have h9:Ms F (Ms F p)=Mr F (Xq (Ms F p)) (Xd (Xq (Ms F p))):=rfl;rw [<-h9,f]at this;exact this
 have R:∀d,Tr d->Ed d (Ms F p)->Ed d (Xd (Ms F p))->Ed d (Ms F (Ms F p)):=λd M i v=>by unfold Ms at *;have:=Zkc (F:=F) (d:=d) (p:=Xq (Mr F (Xq p) (Xd (Xq p)))) (q:=Xd (Xq (Mr F (Xq p) (Xd (Xq p))))) (by rw [f];exact n) (Me (by rw [f];exact n)) (by rw [f];exact i) (by rw [f];exact v);exact this
 rw [f]at b4;generalize hg:Ms F p=g at *;generalize hh:Ms F g=h at *;generalize hu:sqf F p=u at *;generalize a0:sqf F g=t at *;obtain⟨k,s,hk,S⟩:=o;obtain⟨m,w,hm,V⟩:=e2;have hP:∀x:Rat,Zc (Xq p) x=Zc (lmul u g) x:=λx=>by rw [a4,Xm,Zy]
 have hG:∀x:Rat,Zc g x=Zc (lmul t h) x:=λx=>by
  have:Zc g x=Zc (Qx t h) x:=by rw [<-b4]
  rw [this,Xm,Zy]
 have N:∀x:Rat,Zc (Xd (Xq p)) x=Zc (ld u) x*Zc g x+Zc u x*Zc (ld g) x:=λx=>by rw [Kg,Cc _ _ hP,Ct]
 have y:∀x:Rat,(m:Rat)*Zc (ld g) x=Zc w x*Zc h x:=λx=>by rw [<-Kg];exact V x
 have Z:∀x:Rat,(k:Rat)*(Zc (Qx u w) x*Zc h x)=(m:Rat)*(Zc (Qx (Nz s ((ld u).map λc=>(-k)*c)) t) x*Zc h x):=λx=>by rw [Xm,Xm,Xg,Zi];have i:=S x;have v:=N x;have h3:=y x;have h4:=hG x;rw [Zy]at h4;rw [v]at i;have:(k:Rat)*(Zc u x*Zc w x*Zc h x)=Zc u x*k*(Zc w x*Zc h x):=O4;rw [this,<-h3];push_cast;have:Zc u x*(k:Rat)*(m*Zc (ld g) x)=m*(k*(Zc (ld u) x*Zc g x+Zc u x*Zc (ld g) x)-k*Zc (ld u) x*Zc g x):=O4;rw [this,i,h4];grind
 have D:=Yk8 H G Z;refine ed_cop (s:=(Qx (Nz s ((ld u).map λc=>(-k)*c)) [m])) hk t2 (w:=tzl w) (Qp w) t3 (λd M i v=>?_) (λx=>?_)
 .have I:Ed d w:=v.congr λx=>Li w x;have P:Ed (Qx d h) h:=R _ (Qn _ _) (by
   obtain⟨Y,s1,j,o⟩:=i;exact⟨Y,s1,j,λx=>by rw [hG x,Zy,Xm];have:=o x;grind⟩) (by
   obtain⟨Y,s1,j,o⟩:=I;exact⟨Y*m,s1,bD j hm,λx=>by rw [Kg,Xm];have:=o x;have:=y x;push_cast;grind⟩)
  have d0:=(i.len M t2 t3).1;have hl:=Ny M H d0 G;have:=(P.len (Qn _ _) H G).2;have l2:=aL.2 G;omega
 .rw [Li,Xm,Ps];have:=D x;rw [Xm,Xm]at this;rw [this];grind
theorem Ybg{t:List Int}(j:Tr u)(o:u≠[])(n:Tr t)(t0:t≠[])(l:Xq t=t)(h:Ed t u):pdv u t/\u=Qx (Hc u t) t/\Tr (Hc u t)/\Hc u t≠[]:=by
 have e:Xr t=1:=by grind [Zdc]
 obtain⟨k,s,f,h⟩:=h.dv;obtain⟨q,m⟩:=gauss e _ k s rfl f h;have g:u=Qx (tzl q) t:=j.ext (Qn _ _) λi=>by grind [Gh,Yeu]
 grind [Zye,Qp,Db]
theorem Zpl{F:Nat}(g:Tr p)(l:p≠[])(f:Zay F p)(n:2<=p.length):(Ms F p).length<p.length:=by obtain⟨i,m,-⟩:=Oz g l f;have h:Tr (Xq p):=Nv (Xf g);have j:Ed (Ms F p) _:=(Zdb h (Me h) f).2.ed;have o:=Nr (Xq p);have v:=Pk g;have:=(j.len i (Me h) (λe=>O4)).2;omega
theorem nrm1(h:Tr p)(o:Xq p=p)(n:p.length=1):p=[1]:=by
 have f:p≠[]:=λe=>O4;have l:=Zdc h f;have g:0<cf (Xq p) ((Xq p).length-1):=Bp (Xf h) (λe=>f (aH (by grind [Yj])));rw [o]at l g
 match p,n with
 | [c],_=>
  have m:0<c:=g;have j:c∣Xr [c]:=Dg λi=>by
   match i with
   | 0=>exact kE c
   | i+1=>grind [Yw,Int.dvd_zero]
  have:=lF O j;grind
def Dp(p q:List Int):Prop:=Tr q/\q≠[]/\Xq q=q/\∃a,Tr a/\Xq p=Qx a q
theorem Dp.start(f:Tr p)(g:p≠[]):Dp p (Xq p):=
 ⟨Nv (Xf f),Zkl f g,Zvp (Nv (Xf f)) (Zdc f g) (Bp (Xf f) (λe=>g (aH (by grind [Yj])))),[1],.inr (show cf [1] 0≠0 by decide),by refine(Nv (Xf f)).ext (Qn _ _) λi=>?_;rw [Gh,Zsj];rfl⟩
theorem Dp.sz{n:Nat}(g:Tr p)(i:p≠[])(hs:Sz n p)(F:p.length<=13)(h:Dp p q):Sz (n+15) q/\q.length<=p.length:=by obtain⟨j,y,D,a,m,e⟩:=h;have l:fcs 0 13<=2^15*2^15:=O3;have o:=Pk g;have f:=Zkl g i;have v:=Nv (Xf g);have w:a≠[]:=λx=>f (by grind [Db]);refine⟨Zbo _ 24 j m (Zu2 hs) f v O O l (by grind [Zau]),?_⟩;grind [Ny,List.length_pos_iff]
theorem Dp.ok{n F:Nat}(f:Tr p)(e:p≠[])(hs:Sz n p)(l:n<=220)(j:p.length<=11)(i:p.length<=F+1)(h:Dp p q):Ag F q/\Zay F q:=by obtain⟨g,m⟩:=h.sz f e hs O;have:=(chG F h.1 h.2.1 g O O O).1;exact⟨this,this.1.2.2.1⟩
theorem Dp.next{F:Nat}(h:Dp p q)(f:Zay F q):Dp p (Ms F q):=by obtain⟨n,o,v,a,y,e⟩:=h;obtain⟨j,l,m,g,w⟩:=Oz n o f;refine⟨j,l,m,Qx a (sqf F q),Qn _ _,?_⟩;rw [v]at g;refine e.trans ((aD _ g).trans ?_);refine(Qn _ _).ext (Qn _ _) λi=>Mi (λx=>?_) i;grind [Xm]
def Zel(F:Nat):Nat->List Int->List Int
 | 0,p=>sqf F p
 | f+1,p=>if(sqf F p).length=1 then sqf F p else Qx (Hc (sqf F p) (sqf F (Ms F p))) (Zel F f (Ms F (Ms F p)))
def Zsm(F:Nat):Nat->List Int->List Int->List Int
 | 0,e,_=>e
 | f+1,e,q=>if(sqf F q).length=1 then e else if(sqf F (Ms F q)).length=1 then Qx e (Hc (sqf F q) (sqf F (Ms F q)))else Zsm F f (Qx e (Hc (sqf F q) (sqf F (Ms F q)))) (Ms F (Ms F q))
theorem Zij{F:Nat}(g:Tr q)(f:q≠[])(e:Zay F q)(h:(sqf F q).length=1):sqf F q=[1]/\q.length=1/\(Ms F q).length=1:=by
 obtain⟨f1,f2,f3,f4,f5,f6⟩:=Nf _ g f e;obtain⟨j,l,m,n,o⟩:=Oz g f e;have w:=aL.2 f;have v:q.length=1:=by
  rcases aW q.length 2 with i|i
  .omega
  .have:=Zpl g f e i;omega
 grind [nrm1]
theorem Zov(e:Tr p):Qx p [1]=p:=by refine(Qn _ _).ext e λi=>Mi (λx=>?_) i;grind [Xm,Ps]
theorem Ye2{F:Nat}(i:Tr q)(g:q≠[])(e:Zay F q)(h:q.length=1):∀f,Zel F f q=[1]:=λf=>by
 obtain⟨f1,f2,f3,f4,f5,f6⟩:=Nf _ i g e;obtain⟨l,j,m,n,o⟩:=Oz i g e;have v:=aL.2 f3;have w:=aL.2 j;have hs:(sqf F q).length=1:=O;have:=(Zij i g e hs).1;cases f with
 | zero=>exact this
 | succ f=>unfold Zel;grind
theorem Zx8 (p:List Int){F:Nat}{f:Nat}(h:Tr q)(g:q≠[])(e:Zay F q):Tr (Zel F f q):=by
 obtain⟨f1,f2,f3,f4,f5,f6⟩:=Nf _ h g e;cases f with
 | zero=>exact f2
 | succ f=>unfold Zel;grind [Qn]
theorem Ylq{F n:Nat}(M:Tr p)(y:p≠[])(hs:Sz n p)(I:n<=220)(G:p.length<=11)(D:p.length<=F+1):∀(f:Nat) (j q:List Int),Tr j->Dp p q->q.length<=f->Zsm F f j q=Qx j (Zel F f q):=by
 intro f
 induction f with
 | zero=>intro j q _ g H;have:=aL.2 g.2.1;omega
 | succ f R=>
  intro j q P g H;have h:=(g.ok M y hs I G D).2;have m:=g.next h;have e:=(m.ok M y hs I G D).2;have l:=m.next e;have o:=(l.ok M y hs I G D).2;unfold Zsm Zel;by_cases v:(sqf F q).length=1
  .rw [aO v,aO v,(Zij g.1 g.2.1 h v).1,Zov P]
  .rw [aJ v];have S:2<=q.length:=by obtain⟨f1,f2,f3,f4,f5,f6⟩:=Nf _ g.1 g.2.1 h;obtain⟨Y,Z,a3,a4,a5⟩:=Oz g.1 g.2.1 h;grind [List.length_pos_iff]
   have V:=Zpl g.1 g.2.1 h S;obtain⟨-,-,-,-,b5⟩:=Oz m.1 m.2.1 e;obtain⟨-,b2,N,-,-,-⟩:=Nf _ m.1 m.2.1 e;have lb:=aL.2 N;by_cases w:(sqf F (Ms F q)).length=1
   .obtain⟨s1,s2,W⟩:=Zij m.1 m.2.1 e w;rw [aO w,Ye2 l.1 l.2.1 o W];refine(Qn _ _).ext (Qn _ _) λi=>Mi (λx=>?_) i;grind [Xm,Ps]
   .rw [aJ w,R _ _ (Qn _ _) l O];refine(Qn _ _).ext (Qn _ _) λi=>Mi (λx=>?_) i;grind [Xm]
def Yen(F:Nat)(p:List Int):List Int:=Hc (Yx (Yu p) 1) (sqf F p)
def rrest(F:Nat)(p:List Int):List Int:=Hc (Yu (Yen F p)) (sqf F (Yen F p))
def rodd(F:Nat):Nat->List Int->List Int
 | 0,p=>sqf F p
 | f+1,p=>if(sqf F p).length=1 then sqf F p else Qx (Hc (sqf F p) (sqf F (Yen F p))) (rodd F f (rrest F p))
theorem Zoc{F:Nat}(h:Xq p=Xq q):sqf F p=sqf F q:=by unfold sqf;rw [h]
def Zat(F:Nat)(q:List Int):List Int:=Hc (sqf F q) (sqf F (Ms F q))
theorem Zcc{F:Nat}(g:Tr q)(h:q≠[])(f:Zay F q)(e:Zay F (Ms F q)):pdv (sqf F q) (sqf F (Ms F q))/\sqf F q=Qx (Zat F q) (sqf F (Ms F q))/\Tr (Zat F q)/\Zat F q≠[]:=by obtain⟨f1,f2,f3,f4,f5,f6⟩:=Nf F g h f;obtain⟨i,j,l,m,n⟩:=Oz g h f;obtain⟨-,t2,t3,-,-,t6⟩:=Nf F i j e;exact Ybg f2 f3 t2 t3 t6 (Zyj g h f e)
theorem Zv7{n:Nat}(j:Tr p)(w:p≠[])(hs:Sz n p)(D:p.length<=13)(o:Tr a)(v:Tr b)(e:Xq p=Qx a b):Sz (n+15) b/\b.length<=p.length/\b≠[]:=by have x:fcs 0 13<=2^15*2^15:=O8;have h:=Pk j;have f:=Zkl j w;have y:Tr (Xq p):=Nv (Xf j);have l:a≠[]:=λg=>f (by rw [e,g,Db]);have m:b≠[]:=λg=>f (by rw [e,g,Zem]);refine⟨Zbo 13 24 v o (Zu2 hs) f y O O3 x (by rw [Zau];exact e),?_,m⟩;have i:=Ny o v l m;rw [<-e,h]at i;have:=aL.2 l;omega
def Op(p e q:List Int):Prop:=∃a,Tr a/\Xq p=Qx a (Qx e q)
theorem Op.start(e:Tr p):Op p [1] (Xq p):=⟨[1],.inr (show cf [1] 0≠0 by decide),by refine(Nv (Xf e)).ext (Qn _ _) λi=>Mi (λx=>?_) i;rw [Xm,Xm,Ps];push_cast;show Zc (Xq p) x=_;grind⟩
theorem Op.next{j:List Int}{F:Nat}(n:Tr q)(o:q≠[])(I:Xq q=q)(g:Zay F q)(f:Zay F (Ms F q))(h:Op p j q):Op p (Qx j (Zat F q)) (Ms F (Ms F q)):=by
 obtain⟨a,P,e⟩:=h;obtain⟨-,M,R,S⟩:=Zcc n o g f;obtain⟨v,w,y,l,N⟩:=Oz n o g;obtain⟨-,-,-,m,-⟩:=Oz v w f;rw [I]at l;rw [y]at m;refine⟨Qx a (Qx (sqf F (Ms F q)) (sqf F (Ms F q))),Qn _ _,e.trans ?_⟩;refine(Qn _ _).ext (Qn _ _) λi=>Mi (λx=>?_) i;have D:Zc q x=Zc (sqf F q) x*Zc (Ms F q) x:=by rw [<-Xm,<-l]
 have G:Zc (sqf F q) x=Zc (Zat F q) x*Zc (sqf F (Ms F q)) x:=by rw [<-Xm,<-M]
 have H:Zc (Ms F q) x=Zc (sqf F (Ms F q)) x*Zc (Ms F (Ms F q)) x:=by rw [<-Xm,<-m]
 simp only [Xm];rw [D,G];rw [H];generalize Zc (sqf F (Ms F q)) x=A;generalize Zc (Ms F (Ms F q)) x=B;grind
theorem Op.sz{f:List Int}{n:Nat}(m:Tr p)(g:p≠[])(hs:Sz n p)(j:p.length<=13)(l:Tr f)(v:Tr q)(h:Op p f q):Sz (n+15) f/\f.length<=p.length/\f≠[]:=by obtain⟨a,o,e⟩:=h;exact Zv7 m g hs j (Qn a q) l (e.trans ((Qn _ _).ext (Qn _ _) λi=>Mi (λx=>by rw [Xm,Xm,Xm,Xm];grind) i))
theorem Ylf(e:Tr p):Qx [1] p=p:=by rw [Zau];exact Zov e
def Zjg{F:Nat}(h:Tr xs)(f:xs≠[])(g:Ag F xs)(e:s<=t):vch F xs t<=vch F xs s:=Zlr h f g e
def Sqn.imp{P e:R2->R2->Prop}{hi:Rat}(f:∀x y,P x y->e x y):∀{g:Rat} {l:List (R2×R2)},Sqn P hi g l->Sqn e hi g l
 | _,[],h=>h
 | _,_::_,h=>⟨h.1,h.2.1,f _ _ h.2.2.1,Sqn.imp f h.2.2.2⟩
def oe(f:Nat->Int):Nat->Int
 | 0=>0
 | k+1=>err (oe f k) (f k)
def mon(d n:Nat):List Int:=mono d ((2:Int)^n)
variable {P:Program} {N:Nat} {sc:Nat->Prop} {env:Qi} {H:Hp}
end Go.Sky
namespace Go.Sky
variable{f:Rat->Rat}{xs p o:List Int}{x:Rat}
def HD(xs ys:List Int):Prop:=Vp ys/\ys≠[]/\Zar ys/\Ag 13 ys/\chn 13 ys=chn 13 xs
def PH(xs:List Int)(x y:R2):Prop:=(0<x.2/\bl x.1.natAbs<=506/\bl x.2.natAbs<=506)/\(0<y.2/\bl y.1.natAbs<=506/\bl y.2.natAbs<=506)/\cvc 13 xs x-cvc 13 xs y=1
def DR:R2×R2:=((0,0),(0,0))
theorem Zgk(d:Rat){h:Rat}(a:0<h):∃n:Nat,d<=(n:Rat)*h:=by
 have e:0<h⁻¹:=fD.2 a;refine⟨(d*h⁻¹).ceil.toNat,?_⟩;have b:=@mK (d*h⁻¹);have c:(((d*h⁻¹).ceil:Int):Rat)<=(((d*h⁻¹).ceil.toNat:Nat):Rat):=by have:(d*h⁻¹).ceil<=(((d*h⁻¹).ceil.toNat:Nat):Int):=jV _;exact_mod_cast this
 have g:=dI (mB b c) (show 0<=h by grind);have i:d*h⁻¹*h=d:=O4;grind
theorem Zqb{u v:Rat}(h:crs f u v<=0)(b:f u≠0):0<f u*f v:=by
 unfold crs at h;by_cases a:f u≠0/\f u*f v<=0
 .rw [aO a]at h;exact absurd h O3
 .have:¬f u*f v<=0:=λc=>a ⟨b,c⟩;grind
theorem Zdj{F:Nat}(l:Tr xs)(i:xs≠[])(j:Ag F xs){s t:Rat}(G:s<=t)(D:vch F xs s<=vch F xs t)(hs:Zc (sqf F xs) s≠0):∀y,s<=y->y<=t->0<Zc (sqf F xs) s*Zc (sqf F xs) y:=by
 obtain⟨h,z,B⟩:=Zlq l i j s t;have g:∀u v,s<=u->u<=v->v<=t->v-u<=h->crs (Zc (sqf F xs)) u v<=0:=λu v a b c d=>by have e:=B u v a b c d;have R:vat ((chn F xs).map Zc) u<=vat ((chn F xs).map Zc) s:=Zlr l i j a;have S:vat ((chn F xs).map Zc) t<=vat ((chn F xs).map Zc) v:=Zlr l i j c;have V:vat ((chn F xs).map Zc) s<=vat ((chn F xs).map Zc) t:=D;omega
 generalize Zc (sqf F xs)=f at *;have m:∀n:Nat,∀y,s<=y->y<=t->y-s<=(n:Rat)*h->0<f s*f y:=λn=>by
  induction n with
  | zero=>
   intro y a b c;have:y=s:=by push_cast at c;grind
   subst this;exact Zqb (g _ _ a O4 b O4) hs
  | succ n P=>
   intro y a b c;push_cast at c;by_cases H:y-s<=h
   .exact Zqb (g s y O4 a b H) hs
   .have r:=P (y-h) O4 O4 O4;have I:f (y-h)≠0:=λe=>by rw [e]at r;grind
    have M:=Zqb (g (y-h) y O4 O4 b O4) I;have N:=aV r M;have w:f s*f (y-h)*(f (y-h)*f y)=(f (y-h)*f (y-h))*(f s*f y):=O4;rw [w]at N;have Q:0<f (y-h)*f (y-h):=by
     rcases(show 0<f (y-h)\/f (y-h)<0 by grind)with q|q
     .exact aV q q
     .have:=aV (a:=-f (y-h)) (b:=-f (y-h)) O4 O4;grind
    rcases(show 0<f s*f y\/f s*f y<=0 by grind)with q|q
    .exact q
    .have:=aG (a:=f (y-h)*f (y-h)) (b:=-(f s*f y)) O4 O4;grind
 intro y a b;obtain⟨n,k⟩:∃n:Nat,y-s<=(n:Rat)*h:=by obtain⟨n,k⟩:=Zgk (y-s) z;exact⟨n,k⟩
 exact m n y a b k
theorem Zfu (p:List Int)(s:Rat)(t:Rat)(B:s<=t)(v:∀u,s<=u->u<=t->0<=Zc (ld p) u):Zc p s<=Zc p t:=by
 rcases(show Zc p s<=Zc p t\/Zc p t<Zc p s by grind)with h|h
 .exact h
 .exfalso;obtain⟨M,V,H⟩:=Zio s t p;have y:s<t:=by
   rcases(show s<t\/s=t by grind)with d|d
   .exact d
   .rw [d]at h;grind
  obtain⟨n,z⟩:=Zgk (M*(t-s)*(t-s)+1) (show 0<Zc p s-Zc p t by grind);have g:(0:Rat)<(n:Rat):=by
   rcases aX n with d|d
   .subst d;have:=aG (a:=M*(t-s)) (b:=t-s) (aG O4 O4) O4;push_cast at z;grind
   .exact_mod_cast d
  have m:(n:Rat)≠0:=λe=>by rw [e]at g;exact absurd g O3
  have c:(n:Rat)*((t-s)/n)=t-s:=by rw [kY,<-Rat.mul_assoc,kF (n:Rat),Rat.mul_assoc,Rat.mul_inv_cancel _ m,Rat.mul_one]
  have q:∀k:Nat,(k:Rat)<=(n:Rat)->-(M*((t-s)/n)*((t-s)/n))*k<=Zc p (s+k*((t-s)/n))-Zc p s:=λk=>by
   induction k with
   | zero=>intro _;push_cast;rw [show s+0*((t-s)/n)=s by grind];grind
   | succ k D=>
    intro w;push_cast at w ⊢;have Q:=D O4;have l:0<=(t-s)/n:=by rw [kY];exact aG O4 (dE (fD.2 g))
    have i:=c;generalize (t-s)/(n:Rat)=h at *;have F:(0:Rat)<=(k:Rat):=by exact_mod_cast bH k
    have I:=aG (a:=(k:Rat)) (b:=h) F l;have N:=aG (a:=(n:Rat)-(k+1)) (b:=h) O4 l;have j:=(H (s+k*h) (s+(k+1)*h) O4 O4 O4).1;have e:=v (s+k*h) O4 O4;have P:=aG l e;rw [show s+(k+1)*h-(s+k*h)=h by grind]at j;grind
  have r:=q n O4;have i:=c;rw [i,show s+(t-s)=t by grind]at r;have G:-(M*((t-s)/n)*((t-s)/n))*n=-(M*((t-s)/n)*(t-s)):=O4;rw [G]at r;have R:M*((t-s)/n)*(t-s)*n=M*(t-s)*(t-s):=O4;have S:=aG (a:=Zc p t-Zc p s+M*((t-s)/n)*(t-s)) (b:=(n:Rat)) O4 O4;grind
theorem Zff(p:List Int)(x:Rat):Zc (p.map λa=>-1*a) x=-Zc p x:=by rw [Zi];push_cast;grind
theorem Znu (p:List Int){s t:Rat}(k:s<t)(e:∀u,s<u->u<=t->0<Zc (ld p) u)(g:0<=Zc (ld p) s):Zc p s<Zc p t:=by
 have i:s<(s+t)/2/\(s+t)/2<t:=by constructor<;>grind
 generalize (s+t)/2=m at *;have r:=Zfu p s m O4 (λu a b=>by
  rcases(show s<u\/u=s by grind)with h|h
  .exact dE (e u h O4)
  .rw [h];exact g)
 obtain⟨M,l,n⟩:=Zio m t p;have j:=e m i.1 O4;obtain⟨η,q,w,y⟩:=Hy (show 0<t-m by grind) l (show 0<Zc (ld p) m/2 by grind);have b:=(n m (m+η) O4 O4 O4).1;rw [show m+η-m=η by grind]at b;have v:=Zfu p (m+η) t O4 (λu a b=>dE (e u O4 b));have c:=aG (a:=η) (b:=Zc (ld p) m/2-η*M) O4 O4;have d:=aV q j;grind
def Er:Nat->List Int->Rat->Int
 | 0,_,_=>0
 | n+1,p,x=>if Zc p x≠0 then Em (Zc p x)else Er n (Xd p) x
theorem Zx3(h:0<x):Em x=1:=Ak h
theorem Zmu(h:x<0):Em x=-1:=Al h
theorem Zry(h:x=0):Em x=0:=by subst h;rfl
theorem Pa(x:Rat):(0<x/\Em x=1)\/(x<0/\Em x=-1)\/(x=0/\Em x=0):=by
 rcases(show 0<x\/x<0\/x=0 by grind)with h|h|h
 .exact .inl ⟨h,Zx3 h⟩
 .exact .inr (.inl ⟨h,Zmu h⟩)
 .exact .inr (.inr ⟨h,Zry h⟩)
theorem Zxc(n:Nat)(p:List Int)(x:Rat)(h:Zc p x≠0)(a:p.length<=n):Er n p x=Em (Zc p x):=by
 cases n with
 | zero=>have:p=[]:=aH O;subst this;exact absurd rfl h
 | succ n=>unfold Er;rw [aO h]
theorem Zm4(p:List Int)(x:Rat)(h:Zc p x≠0):∃δ:Rat,0<δ/\∀y,x<y->y<=x+δ->Em (Zc p y)=Em (Zc p x):=by
 obtain⟨L,r,k⟩:=Cr x (x+1) p;have i:0<(if 0<Zc p x then Zc p x else -Zc p x):=by split<;>grind
 obtain⟨δ,j,m,g⟩:=Hy (show(0:Rat)<1 by decide) (show 0<L+1 by grind) (show 0<(if 0<Zc p x then Zc p x else -Zc p x)/2 by grind);refine⟨δ,j,λy n q=>?_⟩;have l:=k x y O4 O4 O4;have b:=aG (a:=L) (b:=δ-(y-x)) O4 O4;have c:L*(y-x)<=δ*(L+1):=O4;rcases Pa (Zc p x)with⟨d,e⟩|⟨d,e⟩|⟨d,e⟩
 .rw [aO d]at g i;rw [e];exact Zx3 O4
 .rw [aJ O4]at g i;rw [e];exact Zmu O4
 .exact absurd d h
theorem Bv:∀(n:Nat) (p:List Int) (x:Rat),p.length<=n->∃δ:Rat,0<δ/\∀y,x<y->y<=x+δ->Em (Zc p y)=Er n p x
 | 0,p,x,q=>⟨1,O3,λy _ _=>by have:p=[]:=aH O;subst this;exact Zry rfl⟩
 | n+1,p,x,q=>by
  by_cases h:Zc p x≠0
  .rw [Zxc (n+1) p x h q];exact Zm4 p x h
  .have F:Zc p x=0:=cC.1 h;have B:=Nr p;obtain⟨δ,v,w⟩:=Bv n (Xd p) x O;have z:Er (n+1) p x=Er n (Xd p) x:=by unfold Er;rw [aJ h];cases n<;>rfl
   have k:Zc (ld p) x≠0->Em (Zc (ld p) x)=Er n (Xd p) x:=λg=>by rw [<-Kg]at g ⊢;exact(Zxc n (Xd p) x g O).symm
   refine⟨δ,v,λy l G=>?_⟩;rw [z];have i:∀u,x<u->u<=y->Em (Zc (ld p) u)=Er n (Xd p) x:=λu a b=>by rw [<-Kg];exact w u a O4
   have e:=i y l O4;generalize Er n (Xd p) x=σ at *;rcases Pa (Zc (ld p) y)with⟨m,j⟩|⟨m,j⟩|⟨m,j⟩
   .rw [j]at e;subst e;refine Zx3 ?_;have:=Znu p l (λu a b=>by
     rcases Pa (Zc (ld p) u)with⟨d,c⟩|⟨d,c⟩|⟨d,c⟩
     .exact d
     .have:=i u a b;rw [c]at this;exact absurd this O3
     .have:=i u a b;rw [c]at this;exact absurd this O3) (by
     rcases Pa (Zc (ld p) x)with⟨d,c⟩|⟨d,c⟩|⟨d,c⟩
     .exact dE d
     .have:=k O4;rw [c]at this;exact absurd this O3
     .grind)
    grind
   .rw [j]at e;subst e;refine Zmu ?_;have r:∀u,Zc (ld (p.map λa=>-1*a)) u=-Zc (ld p) u:=λu=>by rw [An];push_cast;grind
    have:=Znu (p.map λa=>-1*a) l (λu a b=>by
     rw [r];rcases Pa (Zc (ld p) u)with⟨d,c⟩|⟨d,c⟩|⟨d,c⟩
     .have:=i u a b;rw [c]at this;exact absurd this O3
     .grind
     .have:=i u a b;rw [c]at this;exact absurd this O3) (by
     rw [r];rcases Pa (Zc (ld p) x)with⟨d,c⟩|⟨d,c⟩|⟨d,c⟩
     .have:=k O4;rw [c]at this;exact absurd this O3
     .grind
     .grind)
    rw [Zff,Zff]at this;grind
   .rw [j]at e;subst e;refine Zry ?_;have s:∀u,x<=u->u<=y->Zc (ld p) u=0:=λu a b=>by
     rcases(show x<u\/u=x by grind)with g|g
     .rcases Pa (Zc (ld p) u)with⟨d,c⟩|⟨d,c⟩|⟨d,c⟩
      .have:=i u g b;rw [c]at this;exact absurd this O3
      .have:=i u g b;rw [c]at this;exact absurd this O3
      .exact d
     .subst g;rcases Pa (Zc (ld p) u)with⟨d,c⟩|⟨d,c⟩|⟨d,c⟩
      .have:=k O4;rw [c]at this;exact absurd this O3
      .have:=k O4;rw [c]at this;exact absurd this O3
      .exact d
    have D:=Zfu p x y O4 (λu a b=>by rw [s u a b];grind);have t:=Zfu (p.map λa=>-1*a) x y O4 (λu a b=>by rw [An,s u a b];push_cast;grind);rw [Zff,Zff]at t;grind
theorem Ed.mul_l{a b c:List Int}(h:Ed a b):Ed (Qx c a) (Qx c b):=by obtain⟨k,s,d,e⟩:=h;exact⟨k,s,d,λx=>by rw [Xm,Xm];have:=e x;grind⟩
theorem Fi{F n:Nat}(t:Tr p)(k:p≠[])(hs:Sz n p)(s:n<=220)(m:p.length<=11)(l:p.length<=F+1):∀(f:Nat) (q:List Int),Dp p q->q.length<=f->
  (∃B:List Int,∀x:Rat,Zc q x=Zc (Zel F f q) x*(Zc B x*Zc B x))/\Ed (Zel F f q) (sqf F q):=by
 intro f
 induction f with
 | zero=>intro q a r;have:=aL.2 a.2.1;omega
 | succ f R=>
  intro q a r;have d:=(a.ok t k hs s m l).2;have e:=a.next d;have b:=(e.ok t k hs s m l).2;have g:=e.next b;unfold Zel;by_cases j:(sqf F q).length=1
  .rw [aO j];obtain⟨Y,Z,s3⟩:=Zij a.1 a.2.1 d j;refine⟨⟨[1],λx=>?_⟩,Ed.refl _⟩;rw [Y,nrm1 a.1 a.2.2.1 Z,Ps];push_cast;grind
  .rw [aJ j];have V:2<=q.length:=by obtain⟨f1,f2,f3,f4,f5,f6⟩:=Nf F a.1 a.2.1 d;obtain⟨D,u,v,i,G⟩:=Oz a.1 a.2.1 d;have l1:=aL.2 f3;have l2:=aL.2 u;omega
   have W:=Zpl a.1 a.2.1 d V;obtain⟨D,u,v,i,G⟩:=Oz a.1 a.2.1 d;obtain⟨b1,b2,b3,w,b5⟩:=Oz e.1 e.2.1 b;obtain⟨-,t2,t3,-,-,-⟩:=Nf F e.1 e.2.1 b;have lb:=aL.2 t3;obtain⟨⟨B,P⟩,Q⟩:=R _ g O;obtain⟨-,z,o3,o4⟩:=Zcc a.1 a.2.1 d b;have h:=(g.ok t k hs s m l).2;rw [a.2.2.1]at i;rw [v]at w;have H:∀x,Zc q x=Zc (sqf F q) x*Zc (Ms F q) x:=λx=>by rw [<-Xm,<-i]
   have I:∀x,Zc (sqf F q) x=Zc (Zat F q) x*Zc (sqf F (Ms F q)) x:=λx=>by rw [<-Xm,<-z]
   have M:∀x,Zc (Ms F q) x=Zc (sqf F (Ms F q)) x*Zc (Ms F (Ms F q)) x:=λx=>by rw [<-Xm,<-w]
   refine⟨⟨Qx (sqf F (Ms F q)) B,λx=>?_⟩,?_⟩
   .rw [Xm,Xm,H x,I x,M x,P x];show _=Zc (Zat F q) x*_*_;generalize Zc (sqf F (Ms F q)) x=S;generalize Zc B x=C;grind
   .have N:Ed (Zel F f (Ms F (Ms F q))) (sqf F (Ms F q)):=Q.trans (Zyj e.1 e.2.1 b h);have y:=N.mul_l (c:=Zat F q);rw [<-z]at y;exact y
theorem Zse{F n:Nat}(P:Tr p)(I:p≠[])(hs:Sz n p)(hn:n<=220)(hl:p.length<=11)(hF:p.length<=F+1)(u:Tr o)(R:o≠[])(g:Zay F o)(r:Zay F p)(h:Ed o (sqf F p)):(Ms F o).length=1/\sqf F o=Xq o:=by
 obtain⟨D,S,V,G,a5⟩:=Oz u R g;obtain⟨f1,f2,f3,f4,f5,f6⟩:=Nf F P I r;obtain⟨-,s2,s3,s4,s5,s6⟩:=Nf F u R g;have Q:Tr (Xq o):=Nv (Xf u);have M:=Zdb Q (Me Q) g;have H:Ed (Ms F o) (Xq o):=M.1.ed;have W:Ed (Ms F o) (ld (Xq o)):=(M.2.ed:Ed (Ms F o) (Xd (Xq o))).congr λx=>Kg _ x;have s:Sim (Xq o) o:=(Iw (Yu o)).trans (Qu u);obtain⟨k,w,t,l⟩:Ed (Xq o) (sqf F p):=by
  obtain⟨k,w,t,e⟩:=h;obtain⟨c,d,hc,B,v⟩:=s;have j:∀x:Rat,(c:Rat)*Zc (Xq o) x=(d:Rat)*Zc o x:=λx=>by rw [<-Zi,<-Zi];exact Ng x _ _ λi=>by rw [Qt,Qt];exact v i
  exact⟨d*k,w.map λa=>c*a,bD B t,λx=>by rw [Zi];have a:=e x;have b:=j x;push_cast;grind⟩
 have N:(Ms F o).length<=1:=by
  refine Ze9 P I r D (H.trans ⟨k,w,t,l⟩) ?_;have Y:Ed (Ms F o) (lmul w (ld (Xq o))):=by obtain⟨m,z,hm,e⟩:=W;exact⟨m,lmul w z,hm,λx=>by rw [Zy,Zy];have:=e x;grind⟩
  have Z:Ed (Ms F o) (ld (sqf F p)):=Ed.lin H Y (ld w) k t λx=>by have:=Cc ((sqf F p).map λa=>k*a) (lmul w (Xq o)) (λy=>by rw [Zi,Zy];exact l y) x;rw [An,Ct]at this;rw [Zy,this]
  exact Z.congr λx=>(Kg _ x).symm
 have q:(Ms F o).length=1:=by have:=aL.2 S;omega
 refine⟨q,?_⟩;rw [nrm1 D V q,Zov s2]at G;exact G.symm
end Go.Sky

