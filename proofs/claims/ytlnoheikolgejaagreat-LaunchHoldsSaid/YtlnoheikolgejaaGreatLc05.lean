/- Rules, arithmetic and contracts: part 6. No conditions but those that each theorem names. -/
import Derived.Test.YtlnoheikolgejaaGreatLc04
set_option linter.all false
namespace Go.Sky
variable{a xs p q b u:List Int}{s t:Rat}{r d c:Int}{K B Q:Nat}{z:R2}
theorem Dv.ed{g:List Int}(h:Dv g a):Ed g a:=by obtain⟨k,s,e,h⟩:=h;refine⟨k,s,e,λx=>?_⟩;have:=Ch k 0 a s g [] (λt=>O4) x;grind
theorem Znw{F:Nat}(l:Tr xs)(g:xs≠[])(i:Za5 F xs)(s t:Rat) :
  ∃h:Rat,0<h/\∀u v,s<=u->u<=v->v<=t->v-u<=h->vat ((chn F xs).map Zj) u-vat ((chn F xs).map Zj) v=crs (Zj (sqf F xs)) u v:=by
 have f:=i.1.2.2.1;obtain⟨f1,f2,f3,f4,f5,f6⟩:=Ox _ l g f;have e:=Np f2;by_cases m:Xh (sqf F xs)=[]
 .refine Zlt 1 f2 (Yw e) f3 i.2.2 (by rfl) (λx=>?_) λq k a b=>?_
  .rw [<-Kw,m];show(0)=1*0;simp
  .exact Zgl l g f k a (b.sim (Qm e))
 .have j:0<Yx (Xh (sqf F xs)):=by have n:=Cv e m;have o:=Ns (Xh (sqf F xs));omega
  refine Zlt (Yx _) f2 (Yw e) f3 i.2.2 (by exact_mod_cast j) (λx=>?_) λq k a b=>?_
  .rw [<-Kw,<-Zx];grind [Mb,Ps,Int.mul_comm,Eb]
  .exact Zgl l g f k a (b.sim (Qm e))
theorem Yr0{s g:List Int}(a0:∀x:Rat,Zj p x=Zj s x*Zj g x)(hg:Tr g)(W:g≠[])(v:Ed g (ld p))(l:Irr q)(G:Ed q p):Ed q s:=by
 refine bF λj=>?_;have f:=l.1;have D:=l.2.1;have F:¬Ed q (ld q):=λh=>by have Z:Ed q (Xh q):=h.congr λx=>(Kw q x).symm;have hl:=Of q;have:=(Z.len f (Np f) (λe=>O4)).2;omega
 obtain⟨c1,m1,k1,e1⟩:=G;obtain⟨i,m,k2,S⟩:=v;have I:∀k,Ed (Cs q k) g:=λk=>by
  induction k with
  | zero=>exact⟨1,g,O,λx=>by rw [show Cs q 0=[1]from rfl,Og];simp⟩
  | succ k ih=>
   cases k with
   | zero=>
    have o:Ed q g:=(Zem s g m1 l k1 (λx=>O4)).resolve_left j;exact o.congr_l λx=>by rw [Cp,show Cs q 0=[1]from rfl,Og];simp
   | succ k=>
    obtain⟨c,u,kc,eu⟩:=ih;have hd:∀x:Rat,(c:Rat)*Zj (ld g) x=Zj (ld u) x*Zj (Cs q (k+1)) x+Zj u x*(((k:Rat)+1)*(Zj (Cs q k) x*Zj (ld q) x)):=λx=>by have:=Cq (g.map λa=>c*a) (lmul u (Cs q (k+1))) (λy=>by grind [Zx,Yn]) x;grind [Zaj,Bs,Zq3]
    have hp:∀x:Rat,Zj (ld p) x=Zj (ld s) x*Zj g x+Zj s x*Zj (ld g) x:=λx=>by have:=Cq p (lmul s g) (λy=>by grind [Yn]) x;grind [Bs]
    have hz:∀x:Rat,Zj (Mv ((lmul (lmul s u) (ld q)).map λa=>(i*((k:Int)+1))*a) ((lmul (Mv ((lmul s (ld u)).map λa=>i*a) ((lmul (Mv m ((ld s).map λa=>(-i)*a)) u).map λa=>(-1)*a)) q))) x=0:=λx=>by
     refine Ey (Cs q k) (λe=>?_) (λx=>?_) x
     .grind [An,Zc9]
     .rw [Xs,Zx,Yn,Yn,Yn,Xs,Zx,Yn,Zx,Yn,Xs,Zx];have M:=S x;have N:=hp x;have P:=hd x;have R:=eu x;rw [Cp]at P R;push_cast;grind
    have o:=Zem (lmul s u) (ld q) (Mv ((lmul (Mv m ((ld s).map λa=>(-i)*a)) u)) ((lmul s (ld u)).map λa=>(-i)*a)) (k:=i*((k:Int)+1)) l (bE k2 O) (λx=>by have:=hz x;rw [Xs,Zx,Yn,Yn,Yn,Xs,Zx,Yn,Zx,Yn,Xs,Zx]at this;rw [Yn,Xs,Yn,Xs,Zx,Zx,Yn];grind)
    have Y:Ed q u:=by obtain⟨n,w,H,V⟩:=o.resolve_right F;exact(Zem s u w (k:=n) l H (λx=>by grind [Yn])).resolve_left j
    obtain⟨n,w,H,V⟩:=Y;refine⟨n*c,w,bE H kc,λx=>?_⟩;grind [Cp]
 obtain⟨M,N⟩:=Zc9 f D g.length;have:=((I g.length).len M hg W).2;omega
theorem Yrn(f:d≠0):Irr [-r,d]:=by have e:Tr [-r,d]:= .inr f;refine⟨e,O5,λq h g=>?_⟩;have:=(g.len h e O5).2;grind
theorem Zkp(r d:Int)(x:Rat):Zj [-r,d] x=(d:Rat)*x-r:=by show((-r))+x*((d)+x*0)=_;grind
theorem Yqf(n:Tr p)(g:d≠0)(h:Zj p ((r:Rat)/d)=0):Ed [-r,d] p:=by
 have i:(d:Rat)≠0:=O10;have m:Tr [-r,d]:= .inr g;obtain⟨k,s,hs⟩:=Cr p (q:=[-r,d]) O5;have e:=Ml (m.mem O5) k;generalize cf _ _^k=L at hs e;have j:∀x,(L)*Zj p x=Zj s x*Zj [-r,d] x+Zj (Qq p [-r,d]) x:=λx=>by have:=Ch L (-1) p s [-r,d] (Qq p [-r,d]) (λt=>O4) x;grind
 have l:=Pi p (q:=[-r,d]) O5;have o:∀x,Zj (Qq p _) x=0:=λx=>by
  have f:=j ((r)/d);rw [Zkp]at f
  match hr:Qq p _,l with
  | [],_=>rfl
  | [c],_=>
   grind [Og]
 exact⟨L,s,e,λx=>O4⟩
theorem Ed.root(g:d≠0)(h:Ed [-r,d] p):Zj p ((r:Rat)/d)=0:=by obtain⟨k,s,i,h⟩:=h;have e:(d:Rat)≠0:=O10;have f:(k:Rat)≠0:=O10;grind [Zkp]
theorem Yhw{F:Nat}(g:Tr xs)(j:xs≠[])(f:eok F (gA (Xg xs) (Xh (Xg xs))) (gB (Xg xs) (Xh (Xg xs))))(i:d≠0)(h:Zj xs ((r:Rat)/d)=0):Zj (sqf F xs) ((r:Rat)/d)=0:=by
 obtain⟨f1,f2,f3,f4,f5,f6⟩:=Ox _ g j f;have hs:=Ng (Yw g);have e:=Np hs;have k:=(Yqf g i h).sim ((Qm g).symm.trans (Hk _).symm);have l:∀x,Zj (Xg xs) x=Zj (sqf F xs) x*Zj (Nv F (Xg xs) (Xh (Xg xs))) x:=λx=>by grind [Xi]
 have m:=((Zef hs e f).2.ed).congr λx=>Kw _ x;exact(Yr0 l (Zd4 _ hs e) f5 m (Yrn i) k).root i
def Away(s t:Rat)(f:Rat->Rat):Prop:=∃δ:Rat,0<δ/\∀x,s<=x->x<=t->δ<=f x\/f x<=-δ
theorem Away.mul{f g h:Rat->Rat}(w:Away s t f)(y:Away s t g)(e:∀x,h x=f x*g x):Away s t h:=by
 obtain⟨a,k,l⟩:=w;obtain⟨b,m,n⟩:=y;refine⟨a*b,bC k m,λx i j=>?_⟩;rcases l x i j with o|o<;>rcases n x i j with v|v
 .have:=aG (a:=f x-a) (b:=g x) O4 O4;have:=aG (a:=a) (b:=g x-b) O4 O4;grind
 .have:=aG (a:=f x-a) (b:=- g x) O4 O4;have:=aG (a:=a) (b:=- g x-b) O4 O4;grind
 .have:=aG (a:=- f x-a) (b:=g x) O4 O4;have:=aG (a:=a) (b:=g x-b) O4 O4;grind
 .have:=aG (a:=- f x-a) (b:=- g x) O4 O4;have:=aG (a:=a) (b:=- g x-b) O4 O4;grind
theorem Away.lin(g:0<d)(h:(r:Rat)<d*s\/(d:Rat)*t<r):Away s t (Zj [-r,d]):=by
 have i:(0)<(d:Rat):=by exact_mod_cast g
 rcases h with h|h
 .refine⟨d*s-r,O4,λx e f=> .inl ?_⟩;rw [Zkp];have:=aG (a:=(d)) (b:=x-s) O4 O4;grind
 .refine⟨r-d*t,O4,λx e f=> .inr ?_⟩;rw [Zkp];have:=aG (a:=(d)) (b:=t-x) O4 O4;grind
theorem Away.sq(s t:Rat):Away s t (Zj [1,0,1]):=⟨1,by rfl,λx _ _=>by
 left;show(1)<=((1))+x*(((0))+x*(((1))+x*0));have:0<=x*x:=by
  rcases(show 0<=x\/x<0 by grind)with h|h
  .grind [Rat.mul_nonneg]
  .have:=aG (a:=-x) (b:=-x) O4 O4;grind
 grind⟩
theorem Away.one(s t:Rat):Away s t (Zj [1]):=⟨1,by rfl,λx _ _=>by grind [Og,Rat.le_refl]⟩
def eB(K C:Nat):Nat->Nat
 | 0=>0
 | n+1=>C+K*eB K C n
def eL(K C:Nat):Nat->Nat
 | 0=>0
 | n+1=>K*eL K C n+eB K C n
def eM(K C:Nat):Nat->Nat
 | 0=>0
 | n+1=>eL K C n+K*eM K C n
theorem Et{a b:Nat}(h:a<=b):(a:Rat)<=(b:Rat):=by exact_mod_cast h
theorem Yn0{C:Nat}(h:c.natAbs<=C):-(C:Rat)<=(c:Rat)/\(c:Rat)<=(C:Rat):=by
 have e:((-(C:Int)))<=(c:Rat):=by exact_mod_cast (show -(C)<=c by omega)
 have f:(c:Rat)<=(C):=by exact_mod_cast (show c<=(C) by omega)
 push_cast at e f
 all_goals grind
def Zs4{C:Nat}(h:∀i,(cf (c::p) i).natAbs<=C):c.natAbs<=C/\∀i,(cf p i).natAbs<=C:=⟨h 0,λi=>h (i+1)⟩
theorem Zqy{K C:Nat} : ∀(n:Nat) (p:List Int),p.length<=n->(∀i,(cf p i).natAbs<=C)->∀x:Rat,-(K:Rat)<=x->x<=(K:Rat)->-(eB K C n:Rat)<=Zj p x/\Zj p x<=(eB K C n:Rat)
 | n,[],_,_,x,_,_=>by
  show -(eB K C n:Rat)<=0/\(0:Rat)<=(eB K C n)
  all_goals grind
 | 0,c::p,hl,_,_,_,_=>absurd hl O5
 | n+1,c::p,hl,hc,x,h1,h2=>by
  obtain⟨f,g⟩:=Zs4 hc;obtain⟨h,j⟩:=Zqy n p (by simpa using hl) g x h1 h2;obtain⟨l,m⟩:=Yn0 f;have k:(0:Rat)<=(K):=Et (aX _);obtain⟨f1,f2⟩:=Zcp h1 h2 h j k;have e:((eB K C (n+1)))=(C:Rat)+(K)*(eB K C n):=by show((C+K*eB K C n:Nat):Rat)=_;push_cast;rfl
  rw [show Zj _ x=(c)+x*Zj p x from rfl];constructor<;>grind
theorem Zqx{K C:Nat} : ∀(n:Nat) (p:List Int),p.length<=n->(∀i,(cf p i).natAbs<=C)->Lip (-(K:Rat)) (K:Rat) (eL K C n:Rat) (Zj p)
 | n,[],_,_,x,y,_,j,_=>by
  have h:(0:Rat)<=(eL K C n):=Et (aX _);have:=aG (b:=y-x) h O4;show(0:Rat)-0<=_/\(0:Rat)-0<=_
  all_goals grind
 | 0,c::p,hl,_,_,_,_,_,_=>absurd hl O5
 | n+1,c::p,hl,hc,x,y,h1,j,h2=>by
  obtain⟨l,f⟩:=Zs4 hc;obtain⟨m,o⟩:=Zqx n p O4 f x y h1 j h2;obtain⟨v,w⟩:=Zqy n p O4 f y O4 h2;have k:(0:Rat)<=(K:Rat):=Et (aX _);obtain⟨f1,f2⟩:=Zcp (q:=x) (g:=Zj p x-Zj p y) (e:=(eL K C n)*(y-x)) h1 O4 O4 O4 k;have D:=aG (a:=(eB K C n)-Zj p y) (b:=y-x) O4 O4;have F:=aG (a:=(eB K C n)+Zj p y) (b:=y-x) O4 O4;have e:((eL K C (n+1):Nat))=(K:Rat)*(eL K C n)+(eB K C n):=by show((K*eL K C n+eB K C n:Nat):Rat)=_;simp
  rw [e,show Zj (c::p) x=(c:Rat)+x*Zj p x from rfl,show Zj (c::p) y=(c:Rat)+y*Zj p y from rfl]
  all_goals grind
theorem Yi7{K C:Nat} : ∀(n:Nat) (p:List Int),p.length<=n->(∀i,(cf p i).natAbs<=C)->Tay (-(K:Rat)) (K:Rat) (eM K C n:Rat) p
 | n,[],_,_,x,y,_,f,_=>by
  have h:(0:Rat)<=(eM K C n):=Et (aX _);have m:=aG (a:=y-x) (b:=y-x) O4 O4;have:=aG h m;show -((eM K C n)*(y-x)*(y-x))<=(0:Rat)-0-(y-x)*0/\(0:Rat)-0-(y-x)*0<=(eM K C n)*(y-x)*(y-x)
  all_goals grind
 | 0,c::p,hl,_,_,_,_,_,_=>absurd hl O5
 | n+1,c::p,hl,hc,x,y,hs,f,ht=>by
  obtain⟨v,g⟩:=Zs4 hc;obtain⟨k,l⟩:=Yi7 n p O4 g x y hs f ht;obtain⟨w,D⟩:=Zqx n p O4 g x y hs f ht;have o:(0)<=(K:Rat):=Et (aX _);have j:0<=y-x:=O4;obtain⟨f1,f2⟩:=Zcp (q:=x) hs O4 k l o;have F:=aG (b:=(eL K C n)*(y-x)-(Zj p y-Zj p x)) j O4;have G:=aG (b:=(eL K C n)*(y-x)+(Zj p y-Zj p x)) j O4;have e:((eM K C (n+1):Nat))=(eL K C n)+(K:Rat)*(eM K C n):=by show((eL K C n+K*eM K C n:Nat):Rat)=_;simp
  rw [e,Zgw,show Zj (c::p) y=(c)+y*Zj p y from rfl,show Zj (c::p) x=(c)+x*Zj p x from rfl]
  all_goals grind
theorem Zzk{A:Nat}(j:Tr a)(S:Tr b)(la:2<=a.length)(lb:b.length+1=a.length)(M:0<A)(na:∀i,(cf a i).natAbs<=A)(nb:∀i,(cf b i).natAbs<=A)(W:∀q,Tr q->Ed q a->Ed q b->q.length<=1) :
  ∃(U V:List Int) (c:Int),c≠0/\U.length+2=a.length/\V.length+1=a.length/\(∀i,(cf U i).natAbs<=(2*(2*a.length-3)*A)^(2*a.length-4))/\(∀i,(cf V i).natAbs<=(2*(2*a.length-3)*A)^(2*a.length-4))/\
   ∀x,(c:Rat)=Zj U x*Zj a x+Zj V x*Zj b x:=by
 obtain⟨U,V,lU,lV,l,m,n,hz⟩:=Zjn a b 1 (p:=a.length-2) (q:=a.length-1) M na nb O O O;have D:¬(tzl U=[]/\tzl V=[]):=λ⟨h1,h2⟩=>by grind [Ik]
 clear l;rw [show a.length-2+(a.length-1)=2*a.length-3 by omega]at m n;have h:a≠[]:=λe=>O4;have G:∀i,cf (Mv (lmul U a) (lmul V b)) i=(ps U*ps a).c i+(ps V*ps b).c i:=λi=>by rw [Ll,Dc,Dc,PS.mul_c,PS.mul_c];rfl
 have F:∀t,Zj (Mv (lmul U a) (lmul V b)) t=Zj U t*Zj a t+Zj V t*Zj b t:=λt=>by grind [Xs,Yn]
 generalize Mv (lmul U a) (lmul V b)=R at G F;have N:∀t,Zj R t=(cf R 0:Rat):=λt=>by
  rw [<-Og (cf R 0) t];refine Mb t _ _ λi=>?_
  match i with
  | 0=>rfl
  | i+1=>grind [Yt]
 refine⟨U,V,cf R 0,λI=>?_,O,O,m,n,λx=>O4⟩;have a0:∀t,Zj U t*Zj a t+Zj V t*Zj b t=0:=λt=>by rw [<-F,N,I];rfl
 obtain⟨g,P,Q,f,o,H,v⟩:=Zn8 _ a b j S (aF _);have hl:=W g f o H;have Z:=(o.len f j h).1;have y:tzl V=[]:=by
  refine bF λy=>?_
  match g,Z,hl,f,v with
  | [c],_,_,f,v=>
   have k:c≠0:=f.mem O5;have Y:Ed a (tzl V):=⟨c,Mv (lmul P V) ((lmul Q U).map λz=>(-1)*z),k,λx=>by grind [Og,Kc,Xs,Zx,Yn]⟩
   have:=(Y.len j (Xy V) y).2;grind [Mg]
  | c::d::r,_,h9,_,_=>grind
 have w:tzl U=[]:=by
  refine bF λw=>?_;have:∀t,Zj a t=0:=Ey U w λt=>by grind [Zai]
  exact j.mem h (Zqz this _)
 grind
def Yaq(K A n e:Nat):Bool:=
 let X:=(2*(2*n-3)*A)^(2*n-4);let W:=eB K X (n-1)
 Nat.ble (2*(2*W+1)*(2*eL K A n)) (2^e) && Nat.ble (2*(2*W+1)*eM K A n) (2^e)
theorem big_or  {A n e:Nat} (hK:0<K) (D:0<A) (F:Tr a) (G:Tr b) (M:a.length=n) (h2:2<=n) (R:b.length+1=a.length) (S:∀i,(cf a i).natAbs<=A) (Y:∀i,(cf b i).natAbs<=A) (H:∀q,Tr q->Ed q a->Ed q b->q.length<=1)
  (x:Rat) (j:-(K:Rat)<=x) (k:x<=(K:Rat)):Big (1/((2*eB K ((2*(2*n-3)*A)^(2*n-4)) (n-1)+1:Nat):Rat)) x (Zj a)\/Big (1/((2*eB K ((2*(2*n-3)*A)^(2*n-4)) (n-1)+1:Nat):Rat)) x (Zj b):=by
 obtain⟨U,V,c,y,lU,lV,f,g,I⟩:=Zzk F G O R D S Y H;rw [M]at f g;generalize (2*(2*n-3)*A)^(2*n-4)=X at *;obtain⟨u1,u2⟩:=Zqy (n-1) U O f x j k;obtain⟨v1,v2⟩:=Zqy (n-1) V O g x j k;generalize eB K X (n-1)=W at *;have l:(0:Rat)<=(W:Rat):=Et (aX _);generalize hε:1/((2*W+1):Rat)=ε;have N:0<=ε:=by grind [Rat.inv_pos,Rat.div_def]
 by_cases Z:Big ε x (Zj a)
 .grind
 .by_cases p2:Big ε x (Zj b)
  .grind
  .obtain⟨m,o⟩:=Zeh Z;obtain⟨v,w⟩:=Zeh p2;obtain⟨q1,q2⟩:=Zcp u1 u2 m o l;obtain⟨r1,r2⟩:=Zcp v1 v2 v w l;have h5:(c:Rat)<=-1\/1<=(c:Rat):=by
    rcases mA y with h|h
    .left;have:((c:Int):Rat)<=((-1:Int)):=by exact_mod_cast (show c<=-1 by omega)
     grind
    .right;have:=O;exact_mod_cast this
   have P:0<ε:=by grind
   all_goals grind
theorem two_pow_pos(e:Nat):(0:Rat)<((2^e:Nat):Rat):=by have:0<2^e:=bZ O;exact_mod_cast this
theorem Ytj  {F A n e:Nat} (hx:Tr xs) (Z:xs≠[]) (hC:Za5 F xs) (hK:0<K) (hA:0<A) (hn:(sqf F xs).length=n) (h2:2<=n) (S:∀i,(cf (sqf F xs) i).natAbs<=A) (nb:∀i,(cf (Xh (sqf F xs)) i).natAbs<=A) (hs:Yaq K A n e=true)
  {u v:Rat} (h1:-(K:Rat)<=u) (R:u<=v) (h3:v<=(K:Rat)) (hh:v-u<=1/((2^e:Nat):Rat)) :
  vat ((chn F xs).map Zj) u-vat ((chn F xs).map Zj) v=crs (Zj (sqf F xs)) u v:=by
 have o:=hC.1.2.2.1;obtain⟨f1,f2,f3,f4,f5,f6⟩:=Ox F hx Z o;have f:=Np f2;have a1:=Of (sqf F xs);have hd:Xh (sqf F xs)≠[]:=λe=>O4;have N:1<=Yx (Xh (sqf F xs)):=by have h1:=Cv f hd;have h2:=Ns (Xh (sqf F xs));omega
 have a0:(1:Rat)<=(Yx (Xh (sqf F xs)):Rat):=by exact_mod_cast N
 have w:∀i,(cf (Yf (Xh (sqf F xs))) i).natAbs<=A:=λi=>by have h5:=Eb (Xh (sqf F xs)) i;have h6:=nb i;rw [<-h5,cE]at h6;have:(cf (Yf (Xh (sqf F xs))) i).natAbs*1<=(cf (Yf (Xh (sqf F xs))) i).natAbs*(Yx (Xh (sqf F xs))).natAbs:=aZ _ O;omega
 have k:∀q,Tr q->Ed q (sqf F xs)->Ed q (Yf (Xh (sqf F xs)))->q.length<=1:=λq hq a b=>Zgl hx Z o hq a (b.sim (Qm f));have I:(Yf (Xh (sqf F xs))).length+1=(sqf F xs).length:=by grind [Yi]
 have g:=big_or (e:=e) hK hA f2 (Yw f) hn h2 I S w k;unfold Yaq at hs;simp only [aY,Nat.ble_eq]at hs;obtain⟨s1,s2⟩:=hs;generalize (2*(2*n-3)*A)^(2*n-4)=X at *;generalize eB K X (n-1)=W at *;have hD:(0:Rat)<((2*W+1:Nat):Rat):=by grind
 have hP:=two_pow_pos e;have V:=Et s1;have Y:=Et s2;have c1:((2*(2*W+1)*(2*eL K A n):Nat):Rat)=2*((2*W+1:Nat):Rat)*(2*(eL K A n:Rat)):=O5;have c2:((2*(2*W+1)*eM K A n:Nat):Rat)=2*((2*W+1:Nat):Rat)*(eM K A n:Rat):=O5;rw [c1]at V;rw [c2]at Y;have hi:=eW.2 hD;have H:=eW.2 hP;have l:((2*W+1:Nat):Rat)*((2*W+1:Nat):Rat)⁻¹=1:=O4;have m:((2^e:Nat):Rat)*((2^e:Nat):Rat)⁻¹=1:=O4;rw [lG,Rat.one_mul]at hh;simp only [lG,Rat.one_mul]at g;generalize ((2*W+1:Nat):Rat)=D at *;generalize ((2^e:Nat):Rat)=P at *;have j:(0:Rat)<=(eL K A n:Rat):=Et (aX _);have G:(0:Rat)<=(eM K A n:Rat):=Et (aX _);refine Zjl (s:=-(K:Rat)) (t:=(K:Rat)) (κ:=(Yx (Xh (sqf F xs)):Rat)) (ε:=D⁻¹) (L:=(eL K A n:Rat)) (L':=(eL K A n:Rat)) (M:=(eM K A n:Rat)) (h:=P⁻¹) f2 (Yw f) hC.2.2 O4 (λx=>?_) hi g j (Zqx n _ O S) j (Zqx n _ O w) G (Yi7 n _ O S) H ?_ ?_ h1 R h3 hh
 .rw [<-Kw,<-Zx];grind [Mb,Ps,Int.mul_comm,Eb]
 .-- P⁻¹ * (2 L) ≤ D⁻¹ / 2
  have t1:=aG (a:=P⁻¹*D⁻¹) (b:=P-2*D*(2*(eL K A n:Rat))) (by have:=bC H hi;grind) O4;have y:P⁻¹*D⁻¹*(P-2*D*(2*(eL K A n:Rat)))=D⁻¹*(P*P⁻¹)-2*P⁻¹*(D*D⁻¹)*(2*(eL K A n:Rat)):=O4;rw [y,l,m]at t1;grind
 .have t1:=aG (a:=P⁻¹*D⁻¹) (b:=P-2*D*(eM K A n:Rat)) (by have:=bC H hi;grind) O4;have y:P⁻¹*D⁻¹*(P-2*D*(eM K A n:Rat))=D⁻¹*(P*P⁻¹)-2*P⁻¹*(D*D⁻¹)*(eM K A n:Rat):=O4;rw [y,l,m]at t1;have t2:=aG (a:=(Yx (Xh (sqf F xs)):Rat)-1) (b:=D⁻¹) O4 O4;grind
theorem Znx{F:Nat}(G:Tr xs)(l:xs≠[])(x:Za5 F xs)(D:s<=t):vat ((chn F xs).map Zj) t<=vat ((chn F xs).map Zj) s:=by
 obtain⟨h,m,M⟩:=Znw G l x s t;have N:∀f u v,0<=crs f u v:=λf u v=>by unfold crs;all_goals omega
 have I:∀n:Nat,∀y,s<=y->y<=t->y-s<=(n:Rat)*h->vat ((chn F xs).map Zj) y<=vat ((chn F xs).map Zj) s:=λn=>by
  induction n with
  | zero=>
    grind
  | succ n H=>
   intro y e o g;have i:((n+1:Nat):Rat)*h=(n:Rat)*h+h:=O4;rcases(show y-s<=(n:Rat)*h\/(n:Rat)*h<y-s by grind)with j|j
   .grind
   .have w:(0:Rat)<=(n:Rat)*h:=aG O4 O4;rcases(show s<=y-h\/y-h<s by grind)with k|k
    .have a:=H (y-h) k O4 O4;grind
    grind
 have e:∃n:Nat,t-s<=(n:Rat)*h:=by
  have o:0<h⁻¹:=eW.2 m;refine⟨((t-s)*h⁻¹).ceil.toNat,?_⟩;have g:=@mP ((t-s)*h⁻¹);have i:((((t-s)*h⁻¹).ceil:Int):Rat)<=((((t-s)*h⁻¹).ceil.toNat:Nat):Rat):=by have:((t-s)*h⁻¹).ceil<=((((t-s)*h⁻¹).ceil.toNat:Nat):Int):=jX _;exact_mod_cast this
  have j:=dB (mJ g i) (show 0<=h by grind);have w:(t-s)*h⁻¹*h=t-s:=O4;grind
 obtain⟨n,P⟩:=e;grind
def qv(z:R2):Rat:=(z.1:Rat)/(z.2:Rat)
theorem Zw4{x y X Y g:Nat}(F:g=Nat.gcd x y)(H:0<y)(D:0<Y)(h:x*Y=X*y):y/g∣Y/\x/g<=X:=by
 have f:0<g:=O4;have n:Nat.Coprime (x/g) (y/g):=by grind [Nat.coprime_div_gcd_div_gcd]
 have o:x/g*g=x:=mB (by grind [Nat.gcd_dvd_left]);have v:y/g*g=y:=mB (by grind [Nat.gcd_dvd_right]);have w:x/g*Y=X*(y/g):=by refine jO f ?_;grind
 have l:y/g∣Y:=n.symm.dvd_of_dvd_mul_left (by grind [Nat.dvd_mul_left]);refine⟨l,?_⟩;obtain⟨k,G⟩:=l;have i:0<k:=mC λe=>O4;have j:0<y/g:=mC λe=>O4;have m:x/g*k=X:=by refine jO j ?_;grind
 rw [<-m];exact dG _ i
theorem Zru{x y X Y:Int}(l:0<y)(D:0<Y)(h:x*Y=X*y)(j:bl X.natAbs<=B)(e:bl Y.natAbs<=B)(w:B<=65536) :
  ¬Hh x y/\Du x y∣Y/\0<Du x y/\bl (Av x y).natAbs<=B/\bl (Du x y).natAbs<=B/\Av x y*y=x*Du x y:=by
 have F:Kl x y=(Nat.gcd x.natAbs y.natAbs):=by rw [Yrp O];rfl
 have k:x.natAbs*Y.natAbs=X.natAbs*y.natAbs:=by rw [<-cE,<-cE,h]
 obtain⟨g,o⟩:=Zw4 rfl O O k;have i:(y/Kl x y).natAbs=y.natAbs/Nat.gcd x.natAbs y.natAbs:=by grind
 have v:(x/Kl x y).natAbs=x.natAbs/Nat.gcd x.natAbs y.natAbs:=by grind [Int.natAbs_ediv_of_dvd,Zvu,Zhb]
 have m:bl (y/Kl x y).natAbs<=B:=aB (Oh (by rw [i];exact kB O g)) e;have n:bl (x/Kl x y).natAbs<=B:=aB (Oh O) j;have f:¬Hh x y:=λh=>by unfold Hh at h;omega
 obtain⟨G,H,-⟩:=Zfu f;refine⟨f,?_,Zyq f l,O4,O4,?_⟩
 all_goals grind [Int.natAbs_dvd_natAbs,Ylp]
structure En (K Q:Nat) (d:Nat) (z:R2):Prop where
 pos:0<z.2
 dv:z.2∣((Q*2^d:Nat):Int)
 lo:-(K:Rat)<=qv z
 hi:qv z<=(K:Rat)
theorem En.up{d:Nat}(h:En K Q d z):En K Q (d+1) z:=by obtain⟨e,i,f,g⟩:=h;refine⟨e,?_,f,g⟩;have:((Q*2^(d+1):Nat))=((Q*2^d):Int)*2:=O4;rw [this];grind [Int.dvd_trans,Int.dvd_mul_right]
theorem canc{N p s Y X D:Int}(e:p≠0)(f:N*p=s*D)(g:s*Y=X*p):N*Y=X*D:=by refine Int.eq_of_mul_eq_mul_right e ?_;grind
theorem Gn{z:Int}(h:0<z):(0:Rat)<(z:Rat):=by exact_mod_cast h
def Zdv{n m:Nat}(h:n<2^m):bl n<=m:=(Qo m n).2 h
theorem mid_en{d:Nat}{a b:R2}(ha:En K Q d a)(hb:En K Q d b)(hQ:0<Q)(W:Q*2^(d+1)<2^B)(Z:2*K*(Q*2^d)<2^B)(H:B<=65536) :
  Ze7 a b/\En K Q (d+1) (Nh a b)/\qv (Nh a b)=(qv a+qv b)/2/\bl (Nh a b).1.natAbs<=B/\bl (Nh a b).2.natAbs<=B:=by
 obtain⟨I,⟨e,da⟩,la,ua⟩:=ha;obtain⟨M,⟨f,N⟩,lb,ub⟩:=hb;generalize hY:((Q*2^d:Nat):Int)=Y at *;have a1:0<Q*2^d:=gV hQ (bZ O);have i:0<Y:=O;have a7:=Gn I;have a8:=Gn M;have rY:=Gn i;have o:0<a.2*b.2:=fH I M;have g:(a.1*b.2+b.1*a.2)*Y=(a.1*e+b.1*f)*(a.2*b.2):=by grind
 have a4:(a.1:Rat)*e=qv a*Y:=by unfold qv;have:(Y:Rat)=(a.2:Rat)*e:=O10;grind
 have a5:(b.1:Rat)*f=qv b*Y:=by
  unfold qv;have:(Y:Rat)=(b.2:Rat)*f:=by rw [N];simp
  grind
 have y:((a.1*e+b.1*f:Int):Rat)=(qv a+qv b)*Y:=O4;have a2:(a.1*e+b.1*f).natAbs<=2*K*(Q*2^d):=by
  have h:((2*K*(Q*2^d):Nat):Rat)=2*(K:Rat)*(Y:Rat):=by rw [<-hY];push_cast;rfl
  have t1:=aG (a:=2*(K:Rat)-(qv a+qv b)) (b:=(Y:Rat)) O4 O4;have t2:=aG (a:=2*(K:Rat)+(qv a+qv b)) (b:=(Y:Rat)) O4 O4;have u1:((a.1*e+b.1*f:Int):Rat)<=(((2*K*(Q*2^d):Nat):Int):Rat):=by rw [y];push_cast at h ⊢;grind
  have u2:((-((2*K*(Q*2^d):Nat):Int):Int):Rat)<=((a.1*e+b.1*f:Int):Rat):=by rw [y];push_cast at h ⊢;grind
  have v1:a.1*e+b.1*f<=((2*K*(Q*2^d):Nat):Int):=by exact_mod_cast u1
  have v2:-((2*K*(Q*2^d):Nat):Int)<=a.1*e+b.1*f:=by exact_mod_cast u2
  omega
 have a3:Y.natAbs=Q*2^d:=O;have a0:Q*2^(d+1)=2*(Q*2^d):=O4;have D:bl Y.natAbs<=B:=Zdv O;have j:bl (a.1*e+b.1*f).natAbs<=B:=Zdv O;obtain⟨f1,f2,f3,f4,f5,f6⟩:=Zru o i g j D H;have a6:=canc (Int.ne_of_gt o) f6 g;have k:bl (2*Y).natAbs<=B:=Zdv O4;have v:Av (a.1*b.2+b.1*a.2) (a.2*b.2)*1*(2*Y)=(a.1*e+b.1*f)*(Du (a.1*b.2+b.1*a.2) (a.2*b.2)*2):=by grind
 have n:0<Du (a.1*b.2+b.1*a.2) (a.2*b.2)*2:=O;obtain⟨P,R,x,F,G,S⟩:=Zru n (by omega:0<2*Y) v j k H;have w:=canc (Int.ne_of_gt n) S v;have l:(Nh a b).1=Av (Av (a.1*b.2+b.1*a.2) (a.2*b.2)*1) (Du (a.1*b.2+b.1*a.2) (a.2*b.2)*2):=rfl;have m:(Nh a b).2=Du (Av (a.1*b.2+b.1*a.2) (a.2*b.2)*1) (Du (a.1*b.2+b.1*a.2) (a.2*b.2)*2):=rfl;rw [<-l,<-m]at w;rw [<-m]at R x G;rw [<-l]at F;have hq:qv (Nh a b)=(qv a+qv b)/2:=by
  have V:(((Nh a b).1:Int):Rat)*(2*(Y:Rat))=((a.1*e+b.1*f:Int):Rat)*(((Nh a b).2:Int):Rat):=by
   have:(((Nh a b).1*(2*Y):Int):Rat)=(((a.1*e+b.1*f)*(Nh a b).2:Int):Rat):=by rw [w]
   grind
  rw [y]at V;have rd:=Gn x;unfold qv at *;grind
 refine⟨⟨f1,P⟩,⟨x,?_,O4,O4⟩,hq,F,G⟩;grind
def vch(F:Nat)(xs:List Int)(x:Rat):Int:=vat ((chn F xs).map Zj) x
def cvc_v{F:Nat}(h:0<z.2):cvc F xs z=vch F xs (qv z):=Ys8 h
def Sqn(P:R2->R2->Prop)(hi:Rat):Rat->List (R2×R2)->Prop
 | e,[]=>e<=hi
 | e,c::r=>e<=qv c.1/\qv c.1<qv c.2/\P c.1 c.2/\Sqn P hi (qv c.2) r
theorem Sqn.le{P:R2->R2->Prop}{hi:Rat} : ∀{e:Rat} {l:List (R2×R2)},Sqn P hi e l->e<=hi
 | e,[],h=>h
 | e,c::r,h=>by have:=Sqn.le h.2.2.2;have:=h.1;have:=h.2.1;grind
theorem Sqn.low{P:R2->R2->Prop}{hi:Rat}{f e:Rat}(g:e<=f):∀{l:List (R2×R2)},Sqn P hi f l->Sqn P hi e l
 | [],h=>by have h:f<=hi:=h;show e<=hi;grind
 | c::r,h=>⟨by have:=h.1;grind,h.2⟩
def Sqn.app{P:R2->R2->Prop}{e hi:Rat}{j:List (R2×R2)}(g:Sqn P hi e j):∀{f:Rat} {i:List (R2×R2)},Sqn P e f i->Sqn P hi f (i ++ j)
 | f,[],h=>g.low h
 | f,c::r,h=>⟨h.1,h.2.1,h.2.2.1,Sqn.app g h.2.2.2⟩
theorem Zq7{a:R2}(l:0<a.2)(h:a.1.natAbs<=K):-(K:Rat)<=qv a/\qv a<=(K:Rat):=by
 obtain⟨j,k⟩:=Yn0 h;have m:(1:Rat)<=(a.2):=by exact_mod_cast (show 1<=a.2 by omega)
 have e:(0)<=(K:Rat):=Et (aX _);have hi:=eW.2 (show 0<(a.2:Rat) by grind);have f:(a.2)*(a.2:Rat)⁻¹=1:=O4;unfold qv;have t1:=aG (a:=(a.2)⁻¹) (b:=(K)*a.2-a.1) O4 (by have:=aG (b:=(a.2)-1) e O4;grind);have t2:=aG (a:=(a.2)⁻¹) (b:=(K)*a.2+a.1) O4 (by have:=aG (b:=(a.2)-1) e O4;grind);have g:(a.2:Rat)⁻¹*((K)*a.2-a.1)=(K)*(a.2*(a.2:Rat)⁻¹)-a.1*(a.2:Rat)⁻¹:=O4;have i:(a.2:Rat)⁻¹*((K)*a.2+a.1)=(K)*(a.2*(a.2:Rat)⁻¹)+a.1*(a.2:Rat)⁻¹:=O4;rw [g,f]at t1;rw [i,f]at t2
 all_goals grind
theorem Zc0{a:R2}{n:Nat}(e:0<a.2)(f:bl a.1.natAbs<=n)(g:bl a.2.natAbs<=n)(h:n<=65536) :
  ¬Hh a.1 a.2/\0<(slow a).2/\bl (slow a).1.natAbs<=n/\bl (slow a).2.natAbs<=n/\qv (slow a)=qv a:=by
 obtain⟨f1,f2,f3,f4,f5,f6⟩:=Zru e e rfl f g h;refine⟨f1,f3,f4,f5,?_⟩;have r1:=Gn e;have r2:=Gn f3;have i:((Av a.1 a.2))*(a.2:Rat)=(a.1)*((Du a.1 a.2)):=by exact_mod_cast f6
 show((Av a.1 a.2))/((Du a.1 a.2))=(a.1)/(a.2:Rat);grind
theorem sep_of  {F A e:Nat} (y:Tr xs) (k:xs≠[]) (o:Za5 F xs) (w:0<K) (n:0<A) (D:∀i,(cf (sqf F xs) i).natAbs<=A) (G:∀i,(cf (Xh (sqf F xs)) i).natAbs<=A)
  (hs:2<=(sqf F xs).length->Yaq K A (sqf F xs).length e=true) (u v:Rat) (l:-(K:Rat)<=u) (f:u<=v) (m:v<=(K:Rat)) (x:v-u<=1/((2^e:Nat):Rat)):vch F xs u-vch F xs v<=1:=by
 by_cases j:2<=(sqf F xs).length
 .have h:=Ytj y k o w n rfl j D G (hs j) l f m x;show vat _ u-vat _ v<=1;rw [h];unfold crs;all_goals omega
 .have M:=Of (sqf F xs);have I:Xh (sqf F xs)=[]:=aC O;have H:chn F xs=[sqf F xs]:=by unfold chn;grind [Yfc,Dt]
  unfold vch vat;have r1:=Zbt (([Zj (sqf F xs)]).map λg=>Es (g u));have r2:=Zbt (([Zj (sqf F xs)]).map λg=>Es (g v));grind
theorem Sqn.mem{P:R2->R2->Prop}{hi:Rat} : ∀{f:Rat} {l:List (R2×R2)},Sqn P hi f l->∀c∈l,P c.1 c.2
 | _,[],_,c,e=>O4
 | f,d::r,h,c,e=>by
  rcases bI.1 e with rfl|e
  .exact h.2.2.1
  .exact Sqn.mem h.2.2.2 c e
theorem en_bl{d:Nat}(h:En K Q d z)(i:0<Q)(v:Q*2^d<2^B)(w:K*(Q*2^d)<2^B):bl z.1.natAbs<=B/\bl z.2.natAbs<=B:=by
 obtain⟨k,j,x,D⟩:=h;have g:0<Q*2^d:=gV i (bZ O);have f:z.2.natAbs<=Q*2^d:=by have:=gP.2 j;rw [dS]at this;simp_all [kB]
 have l:z.1.natAbs<=K*z.2.natAbs:=by
  have r:=Gn k;have e:(z.1)=qv z*z.2:=by unfold qv;grind
  have t1:=aG (a:=(K)-qv z) (b:=(z.2)) O4 O4;have t2:=aG (a:=(K)+qv z) (b:=(z.2)) O4 O4;have y:((K*z.2.natAbs:Nat))=(K)*z.2:=O4;have n:((z.1):Rat)<=(((K:Int)*z.2:Int)):=by push_cast;grind
  have o:((-((K:Int)*z.2):Int))<=((z.1):Rat):=by push_cast;grind
  have F:=by exact_mod_cast n
  have G:=by exact_mod_cast o
  omega
 have m:K*z.2.natAbs<=K*(Q*2^d):=aZ _ f;exact⟨Zdv O,Zdv O⟩
theorem Ymr (e:Nat)(w:Nat)(B:Nat){n:Nat}(h:En (2^n) Q (e+w) z)(v:0<Q)(j:Q<2^(2*n))(x:3*n+1+(e+w)<=B):bl z.1.natAbs<=B/\bl z.2.natAbs<=B:=by
 have f:∀m,m<=B->2^m<=2^B:=λm h=>cY O h;have i:0<2^(e+w):=bZ O;have g:=dJ j i;have k:2^n*(Q*2^(e+w))<2^n*(2^(2*n)*2^(e+w)):=jP g (bZ O);have l:2^(2*n)*2^(e+w)=2^(2*n+(e+w)):=(bP _ _ _).symm;have o:2^n*(2^(2*n)*2^(e+w))=2^(n+(2*n+(e+w))):=by simp [bP]
 rw [l]at g;rw [o]at k;exact en_bl h v (dP g (f _ O)) (dP k (f _ O))
theorem Ed.const{g:List Int}(h:Ed g a)(o:Tr g)(m:Tr a)(l:a≠[])(w:g.length=a.length):∃k c:Int,k≠0/\c≠0/\∀x:Rat,(k:Rat)*Zj a x=(c:Rat)*Zj g x:=by
 obtain⟨k,s,i,h⟩:=h;obtain⟨v,f,j⟩:=Zza i o m l h;have e:=aI.2 f
 match hs:tzl s,e,j with
 | [c],_,_=>
  have n:=by have:=(Xy s).mem f;rw [hs]at this;exact this
  refine⟨k,c,i,n,λx=>?_⟩;rw [h x,<-Kc s,hs,Og]
 | c::d::r,_,h9=>grind
theorem Zfq(p:List Int)(c:Int)(x:Rat):Zj (Zw p c) x=(c:Rat)*Zj p x:=by rw [<-Zx];grind [Mb,Ym,Ps,Int.mul_comm]
theorem Zpl(i:Tr p)(g:p≠[])(h:c≠0):Zw p c≠[]:=λe=>by have f:=Ym p c (p.length-1);rw [e]at f;exact bE (i.mem g) h f.symm
theorem Ed.dv{g:List Int}(h:Ed g a):Dv g a:=by obtain⟨k,s,e,h⟩:=h;refine⟨k,s,e,λt=>?_⟩;have:=Nq (p:=a.map λc=>k*c) (q:=Pf s g) (λx=>by grind [Zx,Xi]) t;grind [Ps,Gw]
theorem ed_cop{t w s:List Int}{k:Int}(o:k≠0)(l:Tr t)(y:Tr w)(t0:t≠[])(n:∀d,Tr d->Ed d t->Ed d w->d.length<=1)(h:∀x:Rat,(k:Rat)*(Zj u x*Zj w x)=Zj s x*Zj t x):Ed t u:=by
 obtain⟨g,A,B,f,j,m,D⟩:=Zn8 _ t w l y (aF _);have v:=n g f j m;have i:=(j.len f l t0).1
 match hgg:g,v,i with
 | [c],_,_=>
  have e:=by have:=f.mem O5;exact this
  refine⟨k*c,Mv ((Pf A u).map λa=>k*a) (Pf B s),bE o e,λx=>?_⟩;grind [Xs,Zx,Xi,Og]
 | c::d::r,h9,_=>grind
def Om(F:Nat)(p:List Int):List Int:=Nv F (Xg p) (Xh (Xg p))
def Da(F:Nat)(p:List Int):Prop:=eok F (gA (Xg p) (Xh (Xg p))) (gB (Xg p) (Xh (Xg p)))
theorem Pn{F:Nat}(j:Tr p)(k:p≠[])(i:Da F p):Tr (Om F p)/\Om F p≠[]/\Xg (Om F p)=Om F p/\Xg p=Pf (sqf F p) (Om F p)/\(sqf F p).length+(Om F p).length=p.length+1:=by obtain⟨f1,f2,f3,f4,f5,f6⟩:=Ox _ j k i;have f:Tr (Xg p):=Ng (Yw j);have g:=Np f;have h:=Zd4 F f g;have l:=Oz f2 h f3 f5;rw [<-f4,Pt j]at l;have m:=aI.2 f5;refine⟨h,f5,Zyp h (Zmo f g f5) (Ay (Znn F (Zjh f g) (Zjg f g)) (λe=>f5 (by unfold Nv;rw [e];rfl))),f4,?_⟩;unfold Om;omega
theorem Yqn{h:List Int}(i:Tr h)(g:h≠[]){k m:Int}(e:∀x:Rat,(k:Rat)*(Zj a x*Zj h x)=(m:Rat)*(Zj b x*Zj h x))(x:Rat):(k:Rat)*Zj a x=(m:Rat)*Zj b x:=by
 have j:=Ey h (f:=Mv (a.map λc=>k*c) (b.map λc=>(-m)*c)) (by grind [An]) (λx=>by grind [Xs,Zx]) x
 grind [Xs,Zx]
theorem Ybn{F:Nat}(H:Tr p)(S:p≠[])(i:Da F p)(e:Da F (Om F p)):Ed (sqf F (Om F p)) (sqf F p):=by
 obtain⟨P,R,Z,a4,a5⟩:=Pn H S i;obtain⟨j,l,b3,b4,b5⟩:=Pn P R e;obtain⟨-,u2,u3,-,-,-⟩:=Ox F H S i;obtain⟨-,t2,t3,-,-,-⟩:=Ox F P R e;have W:Tr (Xg p):=Ng (Yw H);have n:Ed (Om F p) (Xh (Xg p)):=(Zef W (Np W) i).2.ed;have e2:Ed (Om F (Om F p)) (Xh (Om F p)):=by have:=(Zef (F:=F) (p:=Xg (Om F p)) (q:=Xh (Xg (Om F p))) O4 (Np O4) e).2.ed;have h9:Om F (Om F p)=Nv F (Xg (Om F p)) (Xh (Xg (Om F p))):=rfl;grind
 have G:∀d,Tr d->Ed d (Om F p)->Ed d (Xh (Om F p))->Ed d (Om F (Om F p)):=λd y o V=>by unfold Om at *;grind [Zmm,Np]
 rw [Z]at b4;generalize hg:Om F p=g at *;generalize hh:Om F g=h at *;generalize hu:sqf F p=u at *;generalize a9:sqf F g=t at *;obtain⟨k,s,hk,a7⟩:=n;obtain⟨m,w,hm,a8⟩:=e2;have hP:∀x:Rat,Zj (Xg p) x=Zj (lmul u g) x:=λx=>by grind [Xi,Yn]
 have a0:∀x:Rat,Zj (Xh (Xg p)) x=Zj (ld u) x*Zj g x+Zj u x*Zj (ld g) x:=λx=>by rw [Kw,Cq _ _ hP,Bs]
 have a6:∀x:Rat,(m:Rat)*Zj (ld g) x=Zj w x*Zj h x:=λx=>by grind [Kw]
 have M:∀x:Rat,(k:Rat)*(Zj (Pf u w) x*Zj h x)=(m:Rat)*(Zj (Pf (Mv s ((ld u).map λc=>(-k)*c)) t) x*Zj h x):=λx=>by grind [Xi,Xs,Zx,Yn]
 have Y:=Yqn j l M;refine ed_cop (s:=(Pf (Mv s ((ld u).map λc=>(-k)*c)) [m])) hk t2 (w:=tzl w) (Xy w) t3 (λd y o V=>?_) (λx=>?_)
 .have v:Ed d w:=V.congr λx=>Kc w x;have D:Ed (Pf d h) h:=G _ (Qk _ _) (by
   obtain⟨I,N,f,n⟩:=o;exact⟨I,N,f,λx=>by grind [Yn,Xi]⟩) (by
   obtain⟨I,N,f,n⟩:=v;exact⟨I*m,N,bE f hm,λx=>by grind [Kw,Xi]⟩)
  have d0:=(o.len y t2 t3).1;have hl:=Oz y j d0 l;have:=(D.len (Qk _ _) j l).2;omega
 grind [Kc,Xi,Og]
theorem Ye9{t:List Int}(j:Tr u)(o:u≠[])(n:Tr t)(t0:t≠[])(l:Xg t=t)(h:Ed t u):pdv u t/\u=Pf (Lv u t) t/\Tr (Lv u t)/\Lv u t≠[]:=by
 have e:Yx t=1:=by grind [Zbi]
 obtain⟨k,s,f,h⟩:=h.dv;obtain⟨q,m⟩:=gauss e _ k s rfl f h;have g:u=Pf (tzl q) t:=j.ext (Qk _ _) λi=>by grind [Gw,Zq8]
 grind [Zrh,Xy,Fr]
theorem Zng{F:Nat}(g:Tr p)(k:p≠[])(f:Da F p)(m:2<=p.length):(Om F p).length<p.length:=by obtain⟨i,l,-⟩:=Pn g k f;have h:Tr (Xg p):=Ng (Yw g);have j:Ed (Om F p) _:=(Zef h (Np h) f).2.ed;have n:=Of (Xg p);have o:=Pt g;have:=(j.len i (Np h) (λe=>O4)).2;omega
theorem Yq9(h:Tr p)(n:Xg p=p)(m:p.length=1):p=[1]:=by
 have f:p≠[]:=λe=>O4;have k:=Zbi h f;have g:0<cf (Xg p) ((Xg p).length-1):=Ay (Yw h) (λe=>f (aC (by grind [Yi])));rw [n]at k g
 match p,m with
 | [c],_=>
  have l:0<c:=g;have j:c∣Yx [c]:=Eg λi=>by
   match i with
   | 0=>exact Int.dvd_refl c
   | i+1=>grind [Yt,Int.dvd_zero]
  have:=kC O j;grind
def Dp(p q:List Int):Prop:=Tr q/\q≠[]/\Xg q=q/\∃a,Tr a/\Xg p=Pf a q
theorem Dp.start(f:Tr p)(g:p≠[]):Dp p (Xg p):=
 ⟨Ng (Yw f),Ziv f g,Zyp (Ng (Yw f)) (Zbi f g) (Ay (Yw f) (λe=>g (aC (by grind [Yi])))),[1],.inr (show cf [1] 0≠0 by decide),by refine(Ng (Yw f)).ext (Qk _ _) λi=>?_;rw [Gw,Zvi];rfl⟩
theorem Dp.sz{n:Nat}(g:Tr p)(i:p≠[])(hs:Sz n p)(D:p.length<=13)(h:Dp p q):Sz (n+15) q/\q.length<=p.length:=by obtain⟨j,x,y,a,l,e⟩:=h;have k:fcs 0 13<=2^15*2^15:=O3;have m:=Pt g;have f:=Ziv g i;have o:=Ng (Yw g);have v:a≠[]:=λw=>f (by grind [Fr]);refine⟨Fw _ 24 j l (Zql hs) f o O O k (by grind [Dz]),?_⟩;grind [Oz,List.length_pos_iff]
theorem Dp.ok{n F:Nat}(f:Tr p)(e:p≠[])(hs:Sz n p)(k:n<=220)(j:p.length<=11)(i:p.length<=F+1)(h:Dp p q):Za5 F q/\Da F q:=by obtain⟨g,l⟩:=h.sz f e hs O;have:=(chG F h.1 h.2.1 g O O O).1;exact⟨this,this.1.2.2.1⟩
theorem Dp.next{F:Nat}(h:Dp p q)(f:Da F q):Dp p (Om F q):=by obtain⟨m,n,o,a,w,e⟩:=h;obtain⟨j,k,l,g,v⟩:=Pn m n f;refine⟨j,k,l,Pf a (sqf F q),Qk _ _,?_⟩;rw [o]at g;refine e.trans ((aD _ g).trans ?_);refine(Qk _ _).ext (Qk _ _) λi=>Nq (λx=>?_) i;grind [Xi]
def Bg(F:Nat):Nat->List Int->List Int
 | 0,p=>sqf F p
 | f+1,p=>if(sqf F p).length=1 then sqf F p else Pf (Lv (sqf F p) (sqf F (Om F p))) (Bg F f (Om F (Om F p)))
def Zrm(F:Nat):Nat->List Int->List Int->List Int
 | 0,e,_=>e
 | f+1,e,q=>if(sqf F q).length=1 then e else if(sqf F (Om F q)).length=1 then Pf e (Lv (sqf F q) (sqf F (Om F q)))else Zrm F f (Pf e (Lv (sqf F q) (sqf F (Om F q)))) (Om F (Om F q))
theorem Zgk{F:Nat}(g:Tr q)(f:q≠[])(e:Da F q)(h:(sqf F q).length=1):sqf F q=[1]/\q.length=1/\(Om F q).length=1:=by
 obtain⟨f1,f2,f3,f4,f5,f6⟩:=Ox _ g f e;obtain⟨j,k,l,m,n⟩:=Pn g f e;have v:=aI.2 f;have o:q.length=1:=by
  rcases bA q.length 2 with i|i
  .omega
  .have:=Zng g f e i;omega
 grind [Yq9]
theorem Zrf(e:Tr p):Pf p [1]=p:=by refine(Qk _ _).ext e λi=>Nq (λx=>?_) i;grind [Xi,Og]
theorem Yj8{F:Nat}(i:Tr q)(g:q≠[])(e:Da F q)(h:q.length=1):∀f,Bg F f q=[1]:=λf=>by
 obtain⟨f1,f2,f3,f4,f5,f6⟩:=Ox _ i g e;obtain⟨k,j,l,m,n⟩:=Pn i g e;have o:=aI.2 f3;have v:=aI.2 j;have hs:(sqf F q).length=1:=O;have:=(Zgk i g e hs).1;cases f with
 | zero=>exact this
 | succ f=>unfold Bg;grind
theorem Zkt (p:List Int){F:Nat}{f:Nat}(h:Tr q)(g:q≠[])(e:Da F q):Tr (Bg F f q):=by
 obtain⟨f1,f2,f3,f4,f5,f6⟩:=Ox _ h g e;cases f with
 | zero=>exact f2
 | succ f=>unfold Bg;grind [Qk]
theorem Ybo{F n:Nat}(I:Tr p)(w:p≠[])(hs:Sz n p)(H:n<=220)(D:p.length<=11)(y:p.length<=F+1):∀(f:Nat) (j q:List Int),Tr j->Dp p q->q.length<=f->Zrm F f j q=Pf j (Bg F f q):=by
 intro f
 induction f with
 | zero=>intro j q _ g G;have:=aI.2 g.2.1;omega
 | succ f P=>
  intro j q N g G;have h:=(g.ok I w hs H D y).2;have l:=g.next h;have e:=(l.ok I w hs H D y).2;have k:=l.next e;have m:=(k.ok I w hs H D y).2;unfold Zrm Bg;by_cases o:(sqf F q).length=1
  .rw [aP o,aP o,(Zgk g.1 g.2.1 h o).1,Zrf N]
  .rw [aJ o];have R:2<=q.length:=by obtain⟨f1,f2,f3,f4,f5,f6⟩:=Ox _ g.1 g.2.1 h;obtain⟨W,Y,Z,a4,a5⟩:=Pn g.1 g.2.1 h;grind [List.length_pos_iff]
   have S:=Zng g.1 g.2.1 h R;obtain⟨-,-,-,-,b5⟩:=Pn l.1 l.2.1 e;obtain⟨-,b2,M,-,-,-⟩:=Ox _ l.1 l.2.1 e;have lb:=aI.2 M;by_cases v:(sqf F (Om F q)).length=1
   .obtain⟨s1,s2,V⟩:=Zgk l.1 l.2.1 e v;rw [aP v,Yj8 k.1 k.2.1 m V];refine(Qk _ _).ext (Qk _ _) λi=>Nq (λx=>?_) i;grind [Xi,Og]
   .rw [aJ v,P _ _ (Qk _ _) k O];refine(Qk _ _).ext (Qk _ _) λi=>Nq (λx=>?_) i;grind [Xi]
theorem Zyk{e:Int}(j:e=1\/e=-1)(h:Yx q=1):Yx (Zw q e)=1:=by
 have f:Yx (Zw q e)∣Yx q:=Eg λi=>by
  have:=Ki (Zw q e) i;rw [Ym]at this;rcases j with rfl|rfl
  .rwa [fS]at this
  .rw [Int.mul_neg_one]at this;exact(mO.1 this)
 rw [h]at f;have k:=Ns (Zw q e);have l:=kC O3 f;rcases(show Yx (Zw q e)=0\/Yx (Zw q e)=1 by omega)with g|g
 .rw [g]at f;exact absurd (Int.zero_dvd.1 f) O3
 .exact g
theorem Yj6(h:Yx q=1):Yf q=q:=by unfold Yf;rw [h];simp
theorem Zuf{F:Nat}{e:Int}(g:Tr q)(h:q≠[])(j:Xg q=q)(f:Da F q)(m:e=1\/e=-1) :
  Tr (Zw q e)/\Zw q e≠[]/\Xg (Zw q e)=q/\Yf (Zw q e)=Zw q e/\pdv (Zw q e) (sqf F q)/\Lv (Zw q e) (sqf F q)=Zw (Om F q) e:=by
 have l:e≠0:=by rcases m with rfl|rfl<;>decide
 obtain⟨f1,f2,f3,f4,f5,f6⟩:=Ox F g h f;obtain⟨y,D,G,k,H⟩:=Pn g h f;have v:Yx q=1:=by have:=Zbi g h;rwa [j]at this
 rw [j]at k;have w:Zw q e=Pf (Zw (Om F q) e) (sqf F q):=by
  refine(Ql _ _).ext (Qk _ _) λi=>Nq (λx=>?_) i;have:Zj q x=Zj (Pf (sqf F q) (Om F q)) x:=by rw [<-k]
  rw [Zfq,Xi,Zfq,this,Xi];grind
 obtain⟨n,o⟩:=Zrh (Ql (Om F q) e) f2 f3;rw [<-w]at n o;exact⟨Ql _ _,Zpl g h l,by rw [Zro (Ql _ _) g (Zfm q l).symm,j],Yj6 (Zyk m v),n,o⟩
theorem Yj5(f:Tr p)(g:p≠[]):∃e:Int,(e=1\/e=-1)/\Yf p=Zw (Xg p) e:=by
 by_cases h:cf (Yf p) ((Yf p).length-1)<0
 .refine⟨-1,.inr rfl,?_⟩;rw [Zkw (λe=>g (aC (by rw [<-Yi,e]))) h];refine(Yw f).ext (Ql _ _) λi=>?_;rw [Ym,Ym];omega
 .refine⟨1,.inl rfl,?_⟩;rw [Zkv h];refine(Yw f).ext (Ql _ _) λi=>?_;rw [Ym];omega
def Ni(F:Nat)(p:List Int):List Int:=Lv (Zw (Yf p) 1) (sqf F p)
def Ar(F:Nat)(p:List Int):List Int:=Lv (Yf (Ni F p)) (sqf F (Ni F p))
def Zc8(F:Nat):Nat->List Int->List Int
 | 0,p=>sqf F p
 | f+1,p=>if(sqf F p).length=1 then sqf F p else Pf (Lv (sqf F p) (sqf F (Ni F p))) (Zc8 F f (Ar F p))
theorem Cf{F:Nat}(h:Xg p=Xg q):sqf F p=sqf F q:=by unfold sqf;rw [h]
theorem Zk0{F:Nat}(h:Xg p=Xg q):Om F p=Om F q:=by unfold Om;rw [h]
theorem Zml{F:Nat}(h:Xg p=Xg q):∀f,Bg F f p=Bg F f q
 | 0=>Cf h
 | f+1=>by unfold Bg;rw [Cf h,Zk0 h]
theorem Zl5{F:Nat}(y:Tr p)(w:p≠[])(g:Da F p)(f:Da F (Om F p)) :
  (∃e:Int,(e=1\/e=-1)/\Zw (Yf p) 1=Zw (Xg p) e/\pdv (Zw (Xg p) e) (sqf F p)/\Ni F p=Zw (Om F p) e/\Yf (Ni F p)=Ni F p/\pdv (Ni F p) (sqf F (Om F p))/\Ar F p=Zw (Om F (Om F p)) e)/\
  Xg (Ni F p)=Om F p/\Xg (Ar F p)=Om F (Om F p)/\Tr (Ni F p)/\Ni F p≠[]/\Tr (Ar F p)/\Ar F p≠[]:=by
 obtain⟨b1,b2,l,-⟩:=Dp.start y w;have h:Da F (Xg p):=by unfold Da;rw [l];exact g
 have x:Om F (Xg p)=Om F p:=Zk0 l;have k:sqf F (Xg p)=sqf F p:=Cf l;obtain⟨e,m,D⟩:=Yj5 y w;have j:Zw (Yf p) 1=Zw (Xg p) e:=by rw [D];refine(Ql _ _).ext (Ql _ _) λi=>?_;rw [Ym,fS]
 obtain⟨-,-,-,-,N,P⟩:=Zuf b1 b2 l h m;rw [x,k]at P;rw [k]at N;have hl:Ni F p=Zw (Om F p) e:=by unfold Ni;rw [j,P]
 obtain⟨H,I,M,-,-⟩:=Pn y w g;obtain⟨R,S,o,v,V,W⟩:=Zuf H I M f m;rw [<-hl]at R S o v V W;have G:sqf F (Ni F p)=sqf F (Om F p):=Cf (by rw [o,M]);have n:Ar F p=Zw (Om F (Om F p)) e:=by unfold Ar;rw [v,G,W]
 obtain⟨Z,g2,g3,-,-⟩:=Pn H I f;have Y:e≠0:=by rcases m with rfl|rfl<;>decide
 refine⟨⟨e,m,j,N,hl,v,V,n⟩,o,?_,R,S,?_,?_⟩
 .rw [n,Zro (Ql _ _) Z (Zfm _ Y).symm,g3]
 .rw [n];exact Ql _ _
 .rw [n];exact Zpl Z g2 Y
theorem Yaz{F n:Nat}(w:Tr p)(l:p≠[])(hs:Sz n p)(v:n<=220)(o:p.length<=11)(m:p.length<=F+1):∀(f:Nat) (q:List Int),Tr q->q≠[]->Dp p (Xg q)->Zc8 F f q=Bg F f q:=by
 intro f
 induction f with
 | zero=>intro q _ _ _;rfl
 | succ f D=>
  intro q y G j;have g:=(j.ok w l hs v o m).2;have i:Da F q:=by unfold Da at g ⊢;rwa [j.2.2.1]at g
  have k:=j.next g;rw [Zk0 j.2.2.1]at k;have e:=(k.ok w l hs v o m).2;have h:=k.next e;obtain⟨-,r1,r2,r3,M,H,I⟩:=Zl5 y G i e;unfold Zc8 Bg;have x:=k.2.2.1;rw [Cf (show Xg (Ni F q)=Xg (Om F q) by rw [r1,x]),D _ H I (by rw [r2];exact h),Zml (show Xg (Ar F q)=Xg (Om F (Om F q)) by rw [r2,h.2.2.1])]
def Bm(F:Nat)(q:List Int):List Int:=Lv (sqf F q) (sqf F (Om F q))
theorem Ct{F:Nat}(g:Tr q)(h:q≠[])(f:Da F q)(e:Da F (Om F q)):pdv (sqf F q) (sqf F (Om F q))/\sqf F q=Pf (Bm F q) (sqf F (Om F q))/\Tr (Bm F q)/\Bm F q≠[]:=by obtain⟨f1,f2,f3,f4,f5,f6⟩:=Ox F g h f;obtain⟨i,j,k,l,m⟩:=Pn g h f;obtain⟨-,t2,t3,-,-,t6⟩:=Ox F i j e;exact Ye9 f2 f3 t2 t3 t6 (Ybn g h f e)
theorem Zy5{n:Nat}(j:Tr p)(v:p≠[])(hs:Sz n p)(y:p.length<=13)(m:Tr a)(o:Tr b)(e:Xg p=Pf a b):Sz (n+15) b/\b.length<=p.length/\b≠[]:=by have w:fcs 0 13<=2^15*2^15:=O7;have h:=Pt j;have f:=Ziv j v;have x:Tr (Xg p):=Ng (Yw j);have k:a≠[]:=λg=>f (by rw [e,g,Fr]);have l:b≠[]:=λg=>f (by rw [e,g,Zca]);refine⟨Fw 13 24 o m (Zql hs) f x O O3 w (by rw [Dz];exact e),?_,l⟩;have i:=Oz m o k l;rw [<-e,h]at i;have:=aI.2 k;omega
def Op(p e q:List Int):Prop:=∃a,Tr a/\Xg p=Pf a (Pf e q)
theorem Op.start(e:Tr p):Op p [1] (Xg p):=⟨[1],.inr (show cf [1] 0≠0 by decide),by refine(Ng (Yw e)).ext (Qk _ _) λi=>Nq (λx=>?_) i;rw [Xi,Xi,Og];push_cast;show Zj (Xg p) x=_;grind⟩
theorem Op.next{j:List Int}{F:Nat}(m:Tr q)(n:q≠[])(H:Xg q=q)(g:Da F q)(f:Da F (Om F q))(h:Op p j q):Op p (Pf j (Bm F q)) (Om F (Om F q)):=by
 obtain⟨a,N,e⟩:=h;obtain⟨-,I,P,R⟩:=Ct m n g f;obtain⟨o,v,w,k,M⟩:=Pn m n g;obtain⟨-,-,-,l,-⟩:=Pn o v f;rw [H]at k;rw [w]at l;refine⟨Pf a (Pf (sqf F (Om F q)) (sqf F (Om F q))),Qk _ _,e.trans ?_⟩;refine(Qk _ _).ext (Qk _ _) λi=>Nq (λx=>?_) i;have y:Zj q x=Zj (sqf F q) x*Zj (Om F q) x:=by rw [<-Xi,<-k]
 have D:Zj (sqf F q) x=Zj (Bm F q) x*Zj (sqf F (Om F q)) x:=by rw [<-Xi,<-I]
 have G:Zj (Om F q) x=Zj (sqf F (Om F q)) x*Zj (Om F (Om F q)) x:=by rw [<-Xi,<-l]
 simp only [Xi];rw [y,D];rw [G];generalize Zj (sqf F (Om F q)) x=A;generalize Zj (Om F (Om F q)) x=B;grind
theorem Op.sz{f:List Int}{n:Nat}(l:Tr p)(g:p≠[])(hs:Sz n p)(j:p.length<=13)(k:Tr f)(o:Tr q)(h:Op p f q):Sz (n+15) f/\f.length<=p.length/\f≠[]:=by obtain⟨a,m,e⟩:=h;exact Zy5 l g hs j (Qk a q) k (e.trans ((Qk _ _).ext (Qk _ _) λi=>Nq (λx=>by rw [Xi,Xi,Xi,Xi];grind) i))
theorem Ybi(e:Tr p):Pf [1] p=p:=by rw [Dz];exact Zrf e
theorem Ykr{F n:Nat}(f:Tr p)(g:p≠[])(hs:Sz n p)(j:n<=220)(i:p.length<=11)(h:p.length<=F+1):Zrm F p.length [1] (Xg p)=Zc8 F p.length p:=by have e:=Dp.start f g;have k:=(e.ok f g hs j i h).2;rw [Ybo f g hs j i h p.length [1] (Xg p) (.inr (show cf [1] 0≠0 by decide)) e (by rw [Pt f];exact aF _),Ybi (Zkt p e.1 e.2.1 k),Yaz f g hs j i h p.length p f g e];exact Zml e.2.2.1 _
def Zlj{F:Nat}(h:Tr xs)(f:xs≠[])(g:Za5 F xs)(e:s<=t):vch F xs t<=vch F xs s:=Znx h f g e
def Sqn.imp{P e:R2->R2->Prop}{hi:Rat}(f:∀x y,P x y->e x y):∀{g:Rat} {l:List (R2×R2)},Sqn P hi g l->Sqn e hi g l
 | _,[],h=>h
 | _,_::_,h=>⟨h.1,h.2.1,f _ _ h.2.2.1,Sqn.imp f h.2.2.2⟩
variable {P:Program} {N:Nat} {sc:Nat->Prop} {env:Px} {H:Hp}
end Go.Sky
namespace Go.Sky
variable{f:Rat->Rat}{xs a b p o:List Int}{x:Rat}
theorem Zh6(d:Rat){h:Rat}(c:0<h):∃n:Nat,d<=(n:Rat)*h:=by
 have i:0<h⁻¹:=eW.2 c;refine⟨(d*h⁻¹).ceil.toNat,?_⟩;have e:=@mP (d*h⁻¹);have g:(((d*h⁻¹).ceil:Int):Rat)<=(((d*h⁻¹).ceil.toNat:Nat):Rat):=by have:(d*h⁻¹).ceil<=(((d*h⁻¹).ceil.toNat:Nat):Int):=jX _;exact_mod_cast this
 have j:=dB (mJ e g) (show 0<=h by grind);have k:d*h⁻¹*h=d:=O4;grind
theorem Zsw{u v:Rat}(h:crs f u v<=0)(d:f u≠0):0<f u*f v:=by
 unfold crs at h;by_cases c:f u≠0/\f u*f v<=0
 .rw [aP c]at h;exact absurd h O3
 .have:¬f u*f v<=0:=λe=>c ⟨d,e⟩;grind
theorem Zel{F:Nat}(l:Tr xs)(i:xs≠[])(j:Za5 F xs){s t:Rat}(G:s<=t)(D:vch F xs s<=vch F xs t)(hs:Zj (sqf F xs) s≠0):∀y,s<=y->y<=t->0<Zj (sqf F xs) s*Zj (sqf F xs) y:=by
 obtain⟨h,z,B⟩:=Znw l i j s t;have g:∀u v,s<=u->u<=v->v<=t->v-u<=h->crs (Zj (sqf F xs)) u v<=0:=λu v a b c d=>by have e:=B u v a b c d;have R:vat ((chn F xs).map Zj) u<=vat ((chn F xs).map Zj) s:=Znx l i j a;have S:vat ((chn F xs).map Zj) t<=vat ((chn F xs).map Zj) v:=Znx l i j c;have V:vat ((chn F xs).map Zj) s<=vat ((chn F xs).map Zj) t:=D;omega
 generalize Zj (sqf F xs)=f at *;have m:∀n:Nat,∀y,s<=y->y<=t->y-s<=(n:Rat)*h->0<f s*f y:=λn=>by
  induction n with
  | zero=>
   intro y a b c;have:y=s:=by push_cast at c;grind
   subst this;exact Zsw (g _ _ a O4 b O4) hs
  | succ n P=>
   intro y a b c;push_cast at c;by_cases H:y-s<=h
   .exact Zsw (g s y O4 a b H) hs
   .have r:=P (y-h) O4 O4 O4;have I:f (y-h)≠0:=λe=>by rw [e]at r;grind
    have M:=Zsw (g (y-h) y O4 O4 b O4) I;have N:=bC r M;have w:f s*f (y-h)*(f (y-h)*f y)=(f (y-h)*f (y-h))*(f s*f y):=O4;rw [w]at N;have Q:0<f (y-h)*f (y-h):=by
     rcases(show 0<f (y-h)\/f (y-h)<0 by grind)with q|q
     .exact bC q q
     .have:=bC (a:=-f (y-h)) (b:=-f (y-h)) O4 O4;grind
    rcases(show 0<f s*f y\/f s*f y<=0 by grind)with q|q
    .exact q
    .have:=aG (a:=f (y-h)*f (y-h)) (b:=-(f s*f y)) O4 O4;grind
 intro y a b;obtain⟨n,k⟩:∃n:Nat,y-s<=(n:Rat)*h:=by obtain⟨n,k⟩:=Zh6 (y-s) z;exact⟨n,k⟩
 exact m n y a b k
theorem Zg9 (p:List Int)(s:Rat)(t:Rat)(B:s<=t)(v:∀u,s<=u->u<=t->0<=Zj (ld p) u):Zj p s<=Zj p t:=by
 rcases(show Zj p s<=Zj p t\/Zj p t<Zj p s by grind)with h|h
 .exact h
 .exfalso;obtain⟨M,V,H⟩:=Zkn s t p;have y:s<t:=by
   rcases(show s<t\/s=t by grind)with d|d
   .exact d
   .rw [d]at h;grind
  obtain⟨n,z⟩:=Zh6 (M*(t-s)*(t-s)+1) (show 0<Zj p s-Zj p t by grind);have g:(0:Rat)<(n:Rat):=by
   rcases bD n with d|d
   .subst d;have:=aG (a:=M*(t-s)) (b:=t-s) (aG O4 O4) O4;push_cast at z;grind
   .exact_mod_cast d
  have m:(n:Rat)≠0:=λe=>by rw [e]at g;exact absurd g O3
  have c:(n:Rat)*((t-s)/n)=t-s:=by rw [lG,<-Rat.mul_assoc,kM (n:Rat),Rat.mul_assoc,Rat.mul_inv_cancel _ m,Rat.mul_one]
  have q:∀k:Nat,(k:Rat)<=(n:Rat)->-(M*((t-s)/n)*((t-s)/n))*k<=Zj p (s+k*((t-s)/n))-Zj p s:=λk=>by
   induction k with
   | zero=>intro _;push_cast;rw [show s+0*((t-s)/n)=s by grind];grind
   | succ k D=>
    intro w;push_cast at w ⊢;have Q:=D O4;have l:0<=(t-s)/n:=by rw [lG];exact aG O4 (cZ (eW.2 g))
    have i:=c;generalize (t-s)/(n:Rat)=h at *;have F:(0:Rat)<=(k:Rat):=by exact_mod_cast aX k
    have I:=aG (a:=(k:Rat)) (b:=h) F l;have N:=aG (a:=(n:Rat)-(k+1)) (b:=h) O4 l;have j:=(H (s+k*h) (s+(k+1)*h) O4 O4 O4).1;have e:=v (s+k*h) O4 O4;have P:=aG l e;rw [show s+(k+1)*h-(s+k*h)=h by grind]at j;grind
  have r:=q n O4;have i:=c;rw [i,show s+(t-s)=t by grind]at r;have G:-(M*((t-s)/n)*((t-s)/n))*n=-(M*((t-s)/n)*(t-s)):=O4;rw [G]at r;have R:M*((t-s)/n)*(t-s)*n=M*(t-s)*(t-s):=O4;have S:=aG (a:=Zj p t-Zj p s+M*((t-s)/n)*(t-s)) (b:=(n:Rat)) O4 O4;grind
theorem Zgu(p:List Int)(x:Rat):Zj (p.map λa=>-1*a) x=-Zj p x:=by rw [Zx];push_cast;grind
theorem Zqe (p:List Int){s t:Rat}(k:s<t)(e:∀u,s<u->u<=t->0<Zj (ld p) u)(g:0<=Zj (ld p) s):Zj p s<Zj p t:=by
 have i:s<(s+t)/2/\(s+t)/2<t:=by constructor<;>grind
 generalize (s+t)/2=m at *;have r:=Zg9 p s m O4 (λu a b=>by
  rcases(show s<u\/u=s by grind)with h|h
  .exact cZ (e u h O4)
  .rw [h];exact g)
 obtain⟨M,l,n⟩:=Zkn m t p;have j:=e m i.1 O4;obtain⟨η,q,w,y⟩:=Gh (show 0<t-m by grind) l (show 0<Zj (ld p) m/2 by grind);have b:=(n m (m+η) O4 O4 O4).1;rw [show m+η-m=η by grind]at b;have v:=Zg9 p (m+η) t O4 (λu a b=>cZ (e u O4 b));have c:=aG (a:=η) (b:=Zj (ld p) m/2-η*M) O4 O4;have d:=bC q j;grind
def Dl:Nat->List Int->Rat->Int
 | 0,_,_=>0
 | n+1,p,x=>if Zj p x≠0 then Es (Zj p x)else Dl n (Xh p) x
theorem Yaw(h:0<x):Es x=1:=Zag h
theorem Zpc(h:x<0):Es x=-1:=Zah h
theorem Zuo(h:x=0):Es x=0:=by subst h;rfl
theorem Pm(x:Rat):(0<x/\Es x=1)\/(x<0/\Es x=-1)\/(x=0/\Es x=0):=by
 rcases(show 0<x\/x<0\/x=0 by grind)with h|h|h
 .exact .inl ⟨h,Yaw h⟩
 .exact .inr (.inl ⟨h,Zpc h⟩)
 .exact .inr (.inr ⟨h,Zuo h⟩)
theorem Zz0(n:Nat)(p:List Int)(x:Rat)(h:Zj p x≠0)(c:p.length<=n):Dl n p x=Es (Zj p x):=by
 cases n with
 | zero=>have:p=[]:=aC O;subst this;exact absurd rfl h
 | succ n=>unfold Dl;rw [aP h]
theorem Zpr(p:List Int)(x:Rat)(h:Zj p x≠0):∃δ:Rat,0<δ/\∀y,x<y->y<=x+δ->Es (Zj p y)=Es (Zj p x):=by
 obtain⟨L,r,k⟩:=Br x (x+1) p;have i:0<(if 0<Zj p x then Zj p x else -Zj p x):=by split<;>grind
 obtain⟨δ,j,m,g⟩:=Gh (show(0:Rat)<1 by decide) (show 0<L+1 by grind) (show 0<(if 0<Zj p x then Zj p x else -Zj p x)/2 by grind);refine⟨δ,j,λy n q=>?_⟩;have l:=k x y O4 O4 O4;have b:=aG (a:=L) (b:=δ-(y-x)) O4 O4;have c:L*(y-x)<=δ*(L+1):=O4;rcases Pm (Zj p x)with⟨d,e⟩|⟨d,e⟩|⟨d,e⟩
 .rw [aP d]at g i;rw [e];exact Yaw O4
 .rw [aJ O4]at g i;rw [e];exact Zpc O4
 .exact absurd d h
theorem Zaa:∀(n:Nat) (p:List Int) (x:Rat),p.length<=n->∃δ:Rat,0<δ/\∀y,x<y->y<=x+δ->Es (Zj p y)=Dl n p x
 | 0,p,x,q=>⟨1,O3,λy _ _=>by have:p=[]:=aC O;subst this;exact Zuo rfl⟩
 | n+1,p,x,q=>by
  by_cases h:Zj p x≠0
  .rw [Zz0 (n+1) p x h q];exact Zpr p x h
  .have F:Zj p x=0:=eT.1 h;have B:=Of p;obtain⟨δ,v,w⟩:=Zaa n (Xh p) x O;have z:Dl (n+1) p x=Dl n (Xh p) x:=by unfold Dl;rw [aJ h];cases n<;>rfl
   have k:Zj (ld p) x≠0->Es (Zj (ld p) x)=Dl n (Xh p) x:=λg=>by rw [<-Kw]at g ⊢;exact(Zz0 n (Xh p) x g O).symm
   refine⟨δ,v,λy l G=>?_⟩;rw [z];have i:∀u,x<u->u<=y->Es (Zj (ld p) u)=Dl n (Xh p) x:=λu a b=>by rw [<-Kw];exact w u a O4
   have e:=i y l O4;generalize Dl n (Xh p) x=σ at *;rcases Pm (Zj (ld p) y)with⟨m,j⟩|⟨m,j⟩|⟨m,j⟩
   .rw [j]at e;subst e;refine Yaw ?_;have:=Zqe p l (λu a b=>by
     rcases Pm (Zj (ld p) u)with⟨d,c⟩|⟨d,c⟩|⟨d,c⟩
     .exact d
     .have:=i u a b;rw [c]at this;exact absurd this O3
     .have:=i u a b;rw [c]at this;exact absurd this O3) (by
     rcases Pm (Zj (ld p) x)with⟨d,c⟩|⟨d,c⟩|⟨d,c⟩
     .exact cZ d
     .have:=k O4;rw [c]at this;exact absurd this O3
     .grind)
    grind
   .rw [j]at e;subst e;refine Zpc ?_;have r:∀u,Zj (ld (p.map λa=>-1*a)) u=-Zj (ld p) u:=λu=>by rw [Zaj];push_cast;grind
    have:=Zqe (p.map λa=>-1*a) l (λu a b=>by
     rw [r];rcases Pm (Zj (ld p) u)with⟨d,c⟩|⟨d,c⟩|⟨d,c⟩
     .have:=i u a b;rw [c]at this;exact absurd this O3
     .grind
     .have:=i u a b;rw [c]at this;exact absurd this O3) (by
     rw [r];rcases Pm (Zj (ld p) x)with⟨d,c⟩|⟨d,c⟩|⟨d,c⟩
     .have:=k O4;rw [c]at this;exact absurd this O3
     .grind
     .grind)
    rw [Zgu,Zgu]at this;grind
   .rw [j]at e;subst e;refine Zuo ?_;have s:∀u,x<=u->u<=y->Zj (ld p) u=0:=λu a b=>by
     rcases(show x<u\/u=x by grind)with g|g
     .rcases Pm (Zj (ld p) u)with⟨d,c⟩|⟨d,c⟩|⟨d,c⟩
      .have:=i u g b;rw [c]at this;exact absurd this O3
      .have:=i u g b;rw [c]at this;exact absurd this O3
      .exact d
     .subst g;rcases Pm (Zj (ld p) u)with⟨d,c⟩|⟨d,c⟩|⟨d,c⟩
      .have:=k O4;rw [c]at this;exact absurd this O3
      .have:=k O4;rw [c]at this;exact absurd this O3
      .exact d
    have D:=Zg9 p x y O4 (λu a b=>by rw [s u a b];grind);have t:=Zg9 (p.map λa=>-1*a) x y O4 (λu a b=>by rw [Zaj,s u a b];push_cast;grind);rw [Zgu,Zgu]at t;grind
theorem Ed.mul_l{c:List Int}(h:Ed a b):Ed (Pf c a) (Pf c b):=by obtain⟨k,s,d,e⟩:=h;exact⟨k,s,d,λx=>by rw [Xi,Xi];have:=e x;grind⟩
theorem Ec{F n:Nat}(v:Tr p)(m:p≠[])(hs:Sz n p)(u:n<=220)(s:p.length<=11)(r:p.length<=F+1):∀(f:Nat) (q:List Int),Dp p q->q.length<=f->
  (∃B:List Int,∀x:Rat,Zj q x=Zj (Bg F f q) x*(Zj B x*Zj B x))/\Ed (Bg F f q) (sqf F q):=by
 intro f
 induction f with
 | zero=>intro q d t;have:=aI.2 d.2.1;omega
 | succ f W=>
  intro q d t;have g:=(d.ok v m hs u s r).2;have h:=d.next g;have e:=(h.ok v m hs u s r).2;have i:=h.next e;unfold Bg;by_cases l:(sqf F q).length=1
  .rw [aP l];obtain⟨s1,s2,s3⟩:=Zgk d.1 d.2.1 g l;refine⟨⟨[1],λx=>?_⟩,Ed.refl _⟩;rw [s1,Yq9 d.1 d.2.2.1 s2,Og];push_cast;grind
  .rw [aJ l];have Y:2<=q.length:=by obtain⟨f1,f2,f3,f4,f5,f6⟩:=Ox F d.1 d.2.1 g;obtain⟨H,w,y,k,I⟩:=Pn d.1 d.2.1 g;have l1:=aI.2 f3;have l2:=aI.2 w;omega
   have Z:=Zng d.1 d.2.1 g Y;obtain⟨H,w,y,k,I⟩:=Pn d.1 d.2.1 g;obtain⟨b1,b2,b3,z,b5⟩:=Pn h.1 h.2.1 e;obtain⟨-,t2,t3,-,-,-⟩:=Ox F h.1 h.2.1 e;have lb:=aI.2 t3;obtain⟨⟨B,R⟩,V⟩:=W _ i O;obtain⟨-,G,o3,o4⟩:=Ct d.1 d.2.1 g e;have j:=(i.ok v m hs u s r).2;rw [d.2.2.1]at k;rw [y]at z;have M:∀x,Zj q x=Zj (sqf F q) x*Zj (Om F q) x:=λx=>by rw [<-Xi,<-k]
   have N:∀x,Zj (sqf F q) x=Zj (Bm F q) x*Zj (sqf F (Om F q)) x:=λx=>by rw [<-Xi,<-G]
   have P:∀x,Zj (Om F q) x=Zj (sqf F (Om F q)) x*Zj (Om F (Om F q)) x:=λx=>by rw [<-Xi,<-z]
   refine⟨⟨Pf (sqf F (Om F q)) B,λx=>?_⟩,?_⟩
   .rw [Xi,Xi,M x,N x,P x,R x];show _=Zj (Bm F q) x*_*_;generalize Zj (sqf F (Om F q)) x=S;generalize Zj B x=C;grind
   .have Q:Ed (Bg F f (Om F (Om F q))) (sqf F (Om F q)):=V.trans (Ybn h.1 h.2.1 e j);have D:=Q.mul_l (c:=Bm F q);rw [<-G]at D;exact D
theorem Zve{F n:Nat}(P:Tr p)(I:p≠[])(hs:Sz n p)(hn:n<=220)(hl:p.length<=11)(hF:p.length<=F+1)(u:Tr o)(R:o≠[])(g:Da F o)(r:Da F p)(h:Ed o (sqf F p)):(Om F o).length=1/\sqf F o=Xg o:=by
 obtain⟨D,S,V,G,a5⟩:=Pn u R g;obtain⟨f1,f2,f3,f4,f5,f6⟩:=Ox F P I r;obtain⟨-,s2,s3,s4,s5,s6⟩:=Ox F u R g;have Q:Tr (Xg o):=Ng (Yw u);have M:=Zef Q (Np Q) g;have H:Ed (Om F o) (Xg o):=M.1.ed;have W:Ed (Om F o) (ld (Xg o)):=(M.2.ed:Ed (Om F o) (Xh (Xg o))).congr λx=>Kw _ x;have s:Sim (Xg o) o:=(Hk (Yf o)).trans (Qm u);obtain⟨k,w,t,l⟩:Ed (Xg o) (sqf F p):=by
  obtain⟨k,w,t,e⟩:=h;obtain⟨c,d,hc,B,v⟩:=s;have j:∀x:Rat,(c:Rat)*Zj (Xg o) x=(d:Rat)*Zj o x:=λx=>by rw [<-Zx,<-Zx];exact Mb x _ _ λi=>by rw [Ps,Ps];exact v i
  exact⟨d*k,w.map λa=>c*a,bE B t,λx=>by rw [Zx];have a:=e x;have b:=j x;push_cast;grind⟩
 have N:(Om F o).length<=1:=by
  refine Zgl P I r D (H.trans ⟨k,w,t,l⟩) ?_;have Y:Ed (Om F o) (lmul w (ld (Xg o))):=by obtain⟨m,z,hm,e⟩:=W;exact⟨m,lmul w z,hm,λx=>by rw [Yn,Yn];have:=e x;grind⟩
  have Z:Ed (Om F o) (ld (sqf F p)):=Ed.lin H Y (ld w) k t λx=>by have:=Cq ((sqf F p).map λa=>k*a) (lmul w (Xg o)) (λy=>by rw [Zx,Yn];exact l y) x;rw [Zaj,Bs]at this;rw [Yn,this]
  exact Z.congr λx=>(Kw _ x).symm
 have q:(Om F o).length=1:=by have:=aI.2 S;omega
 refine⟨q,?_⟩;rw [Yq9 D V q,Zrf s2]at G;exact G.symm
theorem Zgm(h:Sim a b):∃c d:Int,c≠0/\d≠0/\∀x:Rat,(c:Rat)*Zj a x=(d:Rat)*Zj b x:=by obtain⟨c,d,g,j,e⟩:=h;exact⟨c,d,g,j,λx=>by rw [<-Zx,<-Zx];exact Mb x _ _ λi=>by rw [Ps,Ps];exact e i⟩
theorem Fm(h:x≠0):0<x*x:=by
 rcases(show 0<x\/x<0 by grind)with q|q
 .exact bC q q
 .have:=bC (a:=-x) (b:=-x) O4 O4;grind
theorem Oj{c:Int}(h:c≠0):(c:Rat)≠0:=λe=>h (by exact_mod_cast e)
theorem Zg3{a b e g c d:Rat}(j:c≠0)(k:d≠0)(l:c*e=d*a)(m:c*g=d*b)(h:a*b<0):e*g<0:=by
 have n:(c*c)*(e*g)=(d*d)*(a*b):=O4;have r:=Fm j;have i:=Fm k;rcases(show e*g<0\/0<=e*g by grind)with q|q
 .exact q
 .have s:=aG (a:=c*c) (b:=e*g) O4 q;have t:=bC (a:=d*d) (b:=-(a*b)) i O4;grind
theorem Ykk{e g c d:Rat}(h:e*(c*c)*(g*(d*d))<0):e*g<0:=by
 rcases(show e*g<0\/0<=e*g by grind)with q|q
 .exact q
 .have j:0<=c*d*(c*d):=by
   by_cases i:c*d=0
   .rw [i];grind
   .exact cZ (Fm i)
  have k:=aG q j;grind
theorem Zpq{F n:Nat}(i:Tr p)(k:p≠[])(hs:Sz n p)(G:n<=220)(D:p.length<=11)(w:p.length<=F+1)(ho:o=Bg F p.length (Xg p))(g:Tr o)(M:o≠[])(u:Za5 F o){a b:Rat}(Z:a<b)(Y:Dl p.length p a=1)(h2:Zj p b<0):vch F o b<vch F o a:=by
 have m:=Dp.start i k;have h:=(m.ok i k hs G D w).2;have j:Da F p:=by unfold Da at h ⊢;rwa [m.2.2.1]at h
 obtain⟨⟨B,t⟩,v⟩:=Ec i k hs G D w p.length (Xg p) m (by rw [Pt i];exact aF _);rw [<-ho]at t v;rw [Cf m.2.2.1]at v;obtain⟨-,I⟩:=Zve i k hs G D w g M u.1.2.2.1 j v;obtain⟨δ,d1,V⟩:=Zaa p.length p a (aF _);obtain⟨s,R,s2,S⟩:∃s,a<s/\s<=a+δ/\s<b:=by
  rcases(show a+δ<b\/b<=a+δ by grind)with q|q
  .exact⟨a+δ,O4,O4,q⟩
  .exact⟨(a+b)/2,O4,O4,O4⟩
 have H:0<Zj p s:=by
  have:=V s R s2;rw [Y]at this;rcases Pm (Zj p s)with⟨r,l⟩|⟨r,l⟩|⟨r,l⟩
  .exact r
  .rw [l]at this;exact absurd this O3
  .rw [l]at this;exact absurd this O3
 have k1:Zj p s*Zj p b<0:=by have:=bC (a:=Zj p s) (b:=-Zj p b) H O4;grind
 obtain⟨c,d,hc,hd,e⟩:=Zgm ((Hk (Yf p)).trans (Qm i):Sim (Xg p) p);have P:Zj (Xg p) s*Zj (Xg p) b<0:=Zg3 (Oj hc) (Oj hd) (e s) (e b) k1;rw [t s,t b]at P;have k3:=Ykk P;obtain⟨c',d',y,z,N⟩:=Zgm ((Hk (Yf o)).trans (Qm g):Sim (Xg o) o);have Q:Zj (Xg o) s*Zj (Xg o) b<0:=Zg3 (Oj y) (Oj z) (N s) (N b) k3;rw [<-I]at Q;have m1:=Zlj g M u (cZ R);rcases gD (vch F o b) (vch F o s)with q|q
 .exact Int.lt_of_lt_of_le q m1
 .exfalso;have hz:Zj (sqf F o) s≠0:=λW=>by rw [W]at Q;grind
  have:=Zel g M u (cZ S) q hz b (cZ S) O4;grind
theorem Zh7:∀(n:Nat) (p:List Int) (x:Rat),Tr p->p≠[]->p.length<=n->Dl n p x≠0
 | 0,p,x,_,i,r=>absurd (aC O) i
 | n+1,p,x,l,i,r=>by
  unfold Dl;by_cases h:Zj p x≠0
  .rw [aP h];rcases Pm (Zj p x)with⟨j,g⟩|⟨j,g⟩|⟨j,g⟩
   .rw [g];decide
   .rw [g];decide
   .exact absurd j h
  .rw [aJ h];have m:Zj p x=0:=eT.1 h;have d:=Of p;refine Zh7 n (Xh p) x (Np l) (λe=>?_) O;rw [e]at d;have s:=aI.2 i;have k:p.length=1:=by simp at d;omega
   match p,k with
   | [c],_=>
    have q:c≠0:=l.mem O5;rw [Og]at m;exact Oj q m
theorem Ztj(n:Nat)(p:List Int)(x:Rat):-1<=Dl n p x/\Dl n p x<=1:=by
 induction n generalizing p with
 | zero=>show -1<=(0:Int)/\(0:Int)<=1;decide
 | succ n c=>unfold Dl;split;exact Yis;exact c _
def Zau(F:Nat)(o:List Int)(a b:Rat):Prop:=0<vch F o a-vch F o b-(if Zj o b=0 then 1 else 0)
theorem Yky{F n:Nat}(g:Tr p)(i:p≠[])(hs:Sz n p)(w:n<=220)(v:p.length<=11)(u:p.length<=F+1)(y:o=Bg F p.length (Xg p))(m:Tr o)(N:o≠[])(H:Za5 F o){a b:Rat}(k:a<b) :
  (Zj p a<0\/Zj p b<0\/Dl p.length p a<0\/Zau F o a b)↔(Dl p.length p a<0\/Zau F o a b):=by
 constructor
 .rintro(h|h|h|h)
  .left;rw [Zz0 p.length p a O4 (aF _),Zpc h];decide
  .have r:=Ztj p.length p a;have r0:=Zh7 p.length p a g i (aF _);rcases(show Dl p.length p a<0\/Dl p.length p a=1 by omega)with j|j
   .exact .inl j
   .right;have Q:=Zpq g i hs w v u y m N H k j h;have I:=Dp.start g i;obtain⟨⟨B,t⟩,-⟩:=Ec g i hs w v u p.length (Xg p) I (by rw [Pt g];exact aF _);rw [<-y]at t;obtain⟨c,d,P,M,e⟩:=Zgm ((Hk (Yf p)).trans (Qm g):Sim (Xg p) p);have l:Zj o b≠0:=λz=>by
     have s:(c:Rat)*Zj (Xg p) b=(d:Rat)*Zj p b:=e b;rw [t b,z]at s;have D:=Oj M;have G:(d:Rat)*Zj p b=0:=by rw [<-s];grind
     rcases Rat.mul_eq_zero.1 G with q|q
     .exact D q
     .rw [q]at h;grind
    unfold Zau;rw [aJ l];omega
  .exact .inl h
  .exact .inr h
 .rintro(h|h)
  .exact .inr (.inr (.inl h))
  .exact .inr (.inr (.inr h))
end Go.Sky

