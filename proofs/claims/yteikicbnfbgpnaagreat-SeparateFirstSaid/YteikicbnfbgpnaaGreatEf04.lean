/- Rules, arithmetic and contracts: part 5. No conditions but those that each theorem names. -/
import Derived.Test.YteikicbnfbgpnaaGreatEf03
set_option linter.all false
namespace Go.Sky
variable{i m F:Nat}{ov c Y:Int}{x y d p q a b xs:List Int}{z:List (SL×List (Int×SL))}{s η ε t δ:Rat}{f:Rat->Rat}{fs r:List (Rat->Rat)}{ls:List (List Int)}
def axB(c:List Int)(e:Int):Bool:=decide (1<=c.length) && decide (c.length<=6) && !(decide (1<c.length) && decide (c.getD (c.length-1) 0=0)) && Znu c e
def Ma(g:Int):List Int->Int
 | []=>g
 | x::r=>Ma (Int.gcd g x) r
def Hh:∀(a b:List Int) (g:Int),Ma g (a ++ b)=Ma (Ma g a) b
 | [],_,_=>rfl
 | x::a,b,g=>Hh a b _
theorem Af{l:List Int}{g:Int}(h:i<l.length):Ma g (l.take (i+1))=(Int.gcd (Ma g (l.take i)) (l.getD i 0):Int):=by rw [Po 0 _ _ h,Hh];rfl
theorem Zh0:∀{l:List Int} {g:Int} {m:Nat},(∀x∈l,bl x.natAbs<=m)->bl g.natAbs<=m->bl (Ma g l).natAbs<=m
 | [],_,_,_,h=>h
 | x::l,g,m,h,hg=>Zh0 (l:=l) (λy e=>h y (bE _ e)) (aB (Zlc g x) (by have:=h x (bK ..);omega))
abbrev Cs:=List Int×List Int×List Int
def Yer(fr e ov:Int):Bool:=decide (0<=fr) && decide (fr<e) && decide (e<=3600000) && decide (1<=ov) && decide (ov<=4294967296)
def Bd(fr e ov:Int)(x y z:List Int):Bool:=Yer fr e ov && axB x ov && axB y ov && axB z ov && decide (Ma ov (x ++ y ++ z)=1)
def La(i:Nat)(x y z:List Int):List Int:=match i with
 | 0=>[]
 | 1=>x
 | 2=>x ++ y
 | _=>x ++ y ++ z
theorem Fz(x y z:List Int)(h:i<3):La (i+1) x y z=La i x y z ++ Zu i x y z:=by
 match i,h with
 | 0,_=>rfl
 | 1,_=>rfl
 | 2,_=>rfl
theorem Zc5 (i:Nat){fr e:Int}{z:List Int}(h:axB (Zu i x y z) ov=false):Bd fr e ov x y z=false:=by unfold Bd;revert h;unfold Zu;split<;>intro h<;>simp [h]
theorem Za2{fr e:Int}{z:List Int}(h:¬(0<=fr/\fr<e/\e<=3600000/\1<=ov/\ov<=4294967296)):Bd fr e ov x y z=false:=by
 cases hb:Bd fr e ov x y z with
 | false=>rfl
 | true=>
  unfold Bd Yer at hb;simp only [aR,dA]at hb;exact absurd O h
theorem Zn5{c:List Int}(h:1<=c.length->c.length<=6->¬(1<c.length/\c.getD (c.length-1) 0=0)->Znu c ov=true->False):axB c ov=false:=by
 cases hb:axB c ov with
 | false=>rfl
 | true=>
  unfold axB at hb;simp only [aR,fB,iM,dA,fM]at hb;exact(h hb.1.1.1 hb.1.1.2 (λg=>by rcases hb.1.2 with e|e;exact e g.1;exact e g.2) hb.2).elim
theorem Yef{c:List Int}(g:1<=c.length)(h:c.length<=6)(j:¬(1<c.length/\c.getD (c.length-1) 0=0))(k:Znu c ov=true):axB c ov=true:=by
 unfold axB;simp only [aR,fB,iM,dA,fM];refine⟨⟨⟨g,h⟩,?_⟩,k⟩;by_cases e:1<c.length
 .exact .inr λl=>j ⟨e,l⟩
 .exact .inl e
theorem Yip{fr h:Int}{z:List Int}(e:0<=fr/\fr<h/\h<=3600000/\1<=ov/\ov<=4294967296)(g:∀k,k<3->axB (Zu k x y z) ov=true):Bd fr h ov x y z=decide (Ma ov (La 3 x y z)=1):=by have j:axB x ov=true:=g 0 O3;have l:axB y ov=true:=g 1 O3;have n:axB z ov=true:=g 2 O3;unfold Bd Yer;rw [aJ e.1,aJ e.2.1,aJ e.2.2.1,aJ e.2.2.2.1,aJ e.2.2.2.2,j,l,n];rfl
def Ig{z:List Int}(e:∀a∈x,Nw a)(g:∀a∈y,Nw a)(h:∀a∈z,Nw a)(i:Nat):∀a∈Zu i x y z,Nw a:=Cu (p:=λl=>∀a∈l,Nw a) e g h
theorem bl_fc{z:List Int}(g:∀a∈x,Nw a)(j:∀a∈y,Nw a)(l:∀a∈z,Nw a)(n:bl ov.natAbs<=64)(i k:Nat):bl (Ma (Ma ov (La i x y z)) ((Zu i x y z).take k)).natAbs<=64:=by
 refine Zh0 (λa e=>Gt (Ig g j l i a (eW e))) (Zh0 (λa e=>Gt ?_) n);unfold La at e;split at e
 .cases e
 .exact g a e
 .rcases cP.1 e with h|h
  .exact g a h
  .exact j a h
 .rcases cP.1 e with h|h
  .rcases cP.1 h with h|h
   .exact g a h
   .exact j a h
  .exact l a h
def Zec : c.sign<0↔c<0:=Pv c
abbrev RWL:=List (Bool×ByteArray)
def smallR(r:RWL):Bool:=decide (r.length<=8) && r.all λc=>decide (c.2.size<=6)
noncomputable def dec (r:RWL):List Int:=if h:okP r=true then(okP_ex h).choose else []
noncomputable def bdE (r:RWL):Int:=if okP r=true then Zzr (dec r)else 2
noncomputable def bdZ (r:RWL):Int:=if bdE r=0 then sbound (dec r)else 0
theorem Yjb{n:Nat}(g:y.length=n)(e:c=cf y (n-1))(h:c.sign<0):Et y=-c:=by subst g;unfold Et;rw [<-e,aM (Zec.1 h)]
theorem Yja{n:Nat}(j:y.length=n)(g:c=cf y (n-1))(h:¬c.sign<0):Et y=c:=by subst j;unfold Et;rw [<-g,aG (λe=>h (Zec.2 e))]
theorem rb_n{d:Int}{n:Nat}(k:y.length=n)(j:x.length=m)(e:c=cf y (n-1))(g:d=cf x (m-1))(h:c.sign<0):rb x y=-d:=by subst k j;unfold rb;rw [<-e,aM (Zec.1 h),g]
theorem rb_p{d:Int}{n:Nat}(l:y.length=n)(k:x.length=m)(g:c=cf y (n-1))(j:d=cf x (m-1))(h:¬c.sign<0):rb x y=d:=by subst l k;unfold rb;rw [<-g,aG (λe=>h (Zec.2 e)),j]
theorem Yd5(y:List Int):bl (Et y).natAbs<=Xz y:=by
 have:=Pd y (y.length-1);unfold Et;split
 .rwa [dM]
 .exact this
theorem bl_rb(x y:List Int):bl (rb x y).natAbs<=Xz x:=by
 have:=Pd x (x.length-1);unfold rb;split
 .rwa [dM]
 .exact this
theorem Zb8{n:Nat}(e:Sz n p)(j:bl c.natAbs<=m):Sz (n+m) (Zr p c):=λi=>by rw [Yi];have g:=Yr (cf p i) c;have h:=e i;omega
theorem Yhp{n:Nat}(e:Sz n p)(g:Sz n q):Sz (n+1) (Ei p q):=λi=>by rw [Ih];have h:=Aa (cf p i) (cf q i);have j:=e i;have k:=g i;omega
theorem sz_shm'{s:Nat} : Sz (Xz x+Xz y) (shm y (rb x y) s i):=Zqj λt=>by have e:=Yr (rb x y) (cf y t);have g:=bl_rb x y;have h:=Pd y t;omega
theorem Zpn(x y:List Int):Xz (Ds x y)<=Xz x+Xz y+1:=by refine Qx ?_;unfold Ds;exact Yhp (Zb8 (Pd x) (Yd5 y)) sz_shm'
theorem Yfa{f S:Nat}(h:0<y.length)(e:y.length<=x.length)(o:x.length<y.length+f)(l:Tr x)(k:Xz x+f*(Xz y+1)<=S) :
  ∃g,f=g+1/\Gy f x y=Gy g (Ds x y) y/\(Ds x y).length<y.length+g/\Tr (Ds x y)/\Xz (Ds x y)+g*(Xz y+1)<=S/\(Ds x y).length<x.length:=by
 obtain⟨g,rfl⟩:∃g,f=g+1:=⟨f-1,O⟩;have j:=Zhe l h e;have n:=Zpn x y;refine⟨g,rfl,?_,O,Zah _ _,?_,j⟩
 .rw [Gy,aG O]
 .rw [cY]at k;omega
theorem Yix{f:Nat}(h:x.length<y.length):Gy f x y=x:=by
 cases f with
 | zero=>rfl
 | succ f=>rw [Gy,aM h]
theorem Zvu(y:List Int):∀(f:Nat) (x:List Int),Xz (Gy f x y)<=Xz x+f*(Xz y+1)
 | 0,x=>by rw [Gy];omega
 | f+1,x=>by
  rw [Gy];split
  .omega
  .have e:=Zvu y f (Ds x y);have g:=Zpn x y;rw [cY];omega
def firstE(r:RWL)(x y e g:Int):Int:=if okP r=true then(if r.length=0\/0<x*g-e*y then 3 else 0)else 2
theorem Yf7{L:List (List Int)}(h:Bk z=L):z.length=L.length:=by rw [<-h];simp
theorem Zs9{n l x:Int}(e:-1<=l)(g:l<=1)(h:-1<=x)(j:x<=1):Ni (n,l) x=(if x*l<0 then n+1 else n,if x≠0 then x else l):=by
 obtain rfl|rfl|rfl:l=-1\/l=0\/l=1:=O
 all_goals obtain rfl|rfl|rfl:x=-1\/x=0\/x=1:=O
 all_goals simp [Ni]
theorem Ybi{n l x:Int}(e:-1<=l)(g:l<=1)(h:-1<=x)(j:x<=1)(k:x*l<0)(o:x≠0):Ni (n,l) x=(n+1,x):=by rw [Zs9 e g h j,aM k,aM o]
theorem Ybh{n l x:Int}(e:-1<=l)(g:l<=1)(h:-1<=x)(j:x<=1)(k:x*l<0)(o:¬x≠0):Ni (n,l) x=(n+1,l):=by rw [Zs9 e g h j,aM k,aG o]
theorem Ybg{n l x:Int}(e:-1<=l)(g:l<=1)(h:-1<=x)(j:x<=1)(k:¬x*l<0)(o:x≠0):Ni (n,l) x=(n,x):=by rw [Zs9 e g h j,aG k,aM o]
theorem Ybf{n l x:Int}(e:-1<=l)(g:l<=1)(h:-1<=x)(j:x<=1)(k:¬x*l<0)(o:¬x≠0):Ni (n,l) x=(n,l):=by rw [Zs9 e g h j,aG k,aG o]
theorem Zd8 (l:List Int)(i:Nat){n m:Int}(hi:i<l.length)(h:(n,m)=(l.take i).foldl Ni (0,0)):(l.take (i+1)).foldl Ni (0,0)=Ni (n,m) (l.getD i 0):=by rw [Po 0 l i hi,Zcl,h]
theorem mul_r{x m:Int}(h:-1<=x)(j:x<=1)(e:-1<=m)(g:m<=1):-9223372036854775808<=x*m/\x*m<=9223372036854775807:=by
 obtain rfl|rfl|rfl:m=-1\/m=0\/m=1:=O
 all_goals obtain rfl|rfl|rfl:x=-1\/x=0\/x=1:=O
 all_goals decide
def ev_b{x y:Int}(hs:Sz 1000000 p)(e:p.length<=30)(g:bl x.natAbs<=1000000)(h:bl y.natAbs<=1000000):bl (pev p x y).natAbs<=100000010:=
 Ztg (λt _=>ev_tb hs (λk=>Zai g k) (λk=>Zai h k) e t) O
theorem Yf6{L:List (List Int)}(h:Bk z=L)(f:List Int->Int)(hi:i<z.length):(L.map f).getD i 0=f (Zb (z.getD i T0).2):=by subst h;simp only [aK,fC,aN hi];rfl
def chke:Nat->Nat->Nat->Nat->Nat->Bool
 | 0,e,_,A,_=>Nat.ble (A+e*64) 65500
 | f+1,e,g,A,B=>Nat.ble (A+e*64) 65500 && (Nat.beq g 0 || (List.range g).all λl=>chke f g l B (bif Nat.ble l 1 then 2 else A+(e-g+1)*B))
inductive SV:List Int->List Int->Prop
 | one (a:Int):SV [a] [a]
 | step (a:Int) (r t:List Int):SV r t->SV (a::r) (a::t)
 | skip (a u w:Int) (r t:List Int):(a=1\/a=-1)->(-1<=u/\u<=1)->(-1<=w/\w<=1)->SV (-a::r) (-a::t)->SV (a::u::-a::r) (a::w::-a::t)
theorem Zp2{s:Int×Int}{a u:Int}(g:a=1\/a=-1)(h:-1<=u/\u<=1):Ni (Ni (Ni s a) u) (-a)=Ni (Ni s a) (-a):=by obtain⟨n,l⟩:=s;have e:u=-1\/u=0\/u=1:=O;rcases g with rfl|rfl<;>rcases e with rfl|rfl|rfl<;>simp [Ni]
theorem SV.fold(h:SV a b):∀s,a.foldl Ni s=b.foldl Ni s:=by
 induction h with
 | one a=>intro s;rfl
 | step a r t _ e=>intro s;exact e (Ni s a)
 | skip a u w r t g j k _ e=>
  intro s;show(r.foldl Ni (Ni (Ni (Ni s a) u) (-a)))=(t.foldl Ni (Ni (Ni (Ni s a) w) (-a)));rw [Zp2 g j,Zp2 g k];exact e (Ni s a)
def SV.chg(h:SV a b):chg a=chg b:=aE Prod.fst (h.fold (0,0))
def Ep(x:Rat):Int:=if x<0 then -1 else if x=0 then 0 else 1
theorem Yiv{x:Rat}:-1<=Ep x/\Ep x<=1:=by unfold Ep;split;decide;split<;>decide
theorem Zaj{x:Rat}(h:0<x):Ep x=1:=by unfold Ep;rw [aG O4,aG O4]
theorem Zak{x:Rat}(h:x<0):Ep x=-1:=by unfold Ep;rw [aM h]
def Big(η x:Rat)(f:Rat->Rat):Prop:=η<f x\/f x < -η
def Tri(η x:Rat):(Rat->Rat)->List (Rat->Rat)->Prop
 | _,[]=>True
 | _,[g]=>Big η x g
 | f,g::k::r=>(Big η x g/\Tri η x g (k::r))\/(Big η x k/\f x*k x<0/\Tri η x k r)
def Near(η x y:Rat)(f:Rat->Rat):Prop:=f x-f y<=η/\f y-f x<=η
theorem Ztn{x y:Rat}(g:0<=η)(h:Big η x f)(e:Near η x y f):Ep (f x)=Ep (f y)/\(Ep (f x)=1\/Ep (f x)=-1):=by
 obtain⟨j,k⟩:=e;rcases h with h|h
 .rw [Zaj O4,Zaj O4];exact⟨rfl,.inl rfl⟩
 .rw [Zak O4,Zak O4];exact⟨rfl,.inr rfl⟩
theorem opp_sg{a b:Rat}(h:a*b<0):Ep b=- Ep a:=by
 rcases(show a<0\/a=0\/0<a by grind)with g|g|g
 .rw [Zak g,Zaj (by
   rcases(show b<=0\/0<b by grind)with e|e
   .have:=aH (a:=-a) (b:=-b) O4 O4;grind
   .exact e)];rfl
 .subst g;grind
 .rw [Zaj g,Zak (by
   rcases(show 0<=b\/b<0 by grind)with e|e
   .have:=aH (a:=a) (b:=b) O4 e;grind
   .exact e)]
theorem Zqd{η x y:Rat}(o:0<=η):∀(n:Nat) (f:Rat->Rat) (fs:List (Rat->Rat)),fs.length<=n->Big η x f->(∀g∈f::fs,Near η x y g)->Tri η x f fs->
  SV ((f::fs).map λg=>Ep (g x)) ((f::fs).map λg=>Ep (g y))
 | _,f,[],_,B,e,_=>by have:=(Ztn o B (e f (bK ..))).1;simp only [bP,iA,this];exact SV.one _
 | 0,f,g::r,D,_,_,_=>absurd D O5
 | n+1,f,[g],D,B,e,u=>by have w:=(Ztn o B (e f (bK ..))).1;have h:=Zqd o n g [] O5 u (λk v=>e k (bE _ v)) aA;rw [bP,bP,w];exact SV.step _ _ _ h
 | n+1,f,g::k::r,D,B,e,u=>by
  have w:=Ztn o B (e f (bK ..));rcases u with⟨I,u⟩|⟨v,N,u⟩
  .have h:=Zqd o n g (k::r) (by simp at D ⊢;omega) I (λk v=>e k (bE _ v)) u;rw [bP (l:=g::k::r),bP (l:=g::k::r),w.1];exact SV.step _ _ _ h
  .have h:=Zqd o n k r (by simp at D ⊢;omega) v (λj M=>e j (bE _ (bE _ M))) u;have G:=(Ztn o v (e k O5)).1;have H:=opp_sg N;rw [bP (l:=r),bP (l:=r)]at h;simp only [bP];rw [<-G]at h ⊢;rw [H]at h ⊢;rw [<-w.1];exact SV.skip _ _ _ _ _ w.2 Yiv Yiv h
structure Lnk (η x:Rat) (f g k:Rat->Rat):Prop where
 big:¬Big η x g->Big η x k
 opp:¬Big η x g->f x*k x<0
def Lnks(η x:Rat):(Rat->Rat)->List (Rat->Rat)->Prop
 | _,[]=>True
 | _,[g]=>Big η x g
 | f,g::k::r=>Lnk η x f g k/\Lnks η x g (k::r)
theorem Zmw{η x:Rat} : ∀(n:Nat) (f:Rat->Rat) (fs:List (Rat->Rat)),fs.length<=n->Lnks η x f fs->Tri η x f fs
 | _,f,[],_,_=>trivial
 | 0,f,g::r,l,_=>absurd l O5
 | n+1,f,[g],_,h=>h
 | n+1,f,[g,k],l,h=>by
  by_cases e:Big η x g
  .exact .inl ⟨e,h.2⟩
  .exact .inr ⟨h.1.big e,h.1.opp e,aA⟩
 | n+1,f,g::k::j::r,l,h=>by
  by_cases e:Big η x g
  .exact .inl ⟨e,Zmw n g (k::j::r) (by simp at l ⊢;omega) h.2⟩
  .exact .inr ⟨h.1.big e,h.1.opp e,Zmw n k (j::r) (by simp at l ⊢;omega) h.2.2⟩
def Rl3(s t:Rat)(f g k:Rat->Rat):Prop:=∃m n Q:Rat,0<m/\0<n/\0<Q/\∀x,s<=x->x<=t->∃q,-Q<=q/\q<=Q/\m*f x=q*g x-n*k x
def Rl2(s t:Rat)(f g:Rat->Rat):Prop:=∃m Q:Rat,0<m/\0<Q/\∀x,s<=x->x<=t->∃q,-Q<=q/\q<=Q/\m*f x=q*g x
def Rls(s t:Rat):(Rat->Rat)->List (Rat->Rat)->Prop
 | _,[]=>True
 | f,[g]=>Rl2 s t f g
 | f,g::k::r=>Rl3 s t f g k/\Rls s t g (k::r)
theorem Zcs{q Q g e:Rat}(h:-Q<=q)(j:q<=Q)(k:-e<=g)(l:g<=e)(n:0<=Q):q*g<=Q*e/\-(Q*e)<=q*g:=by have a:=aH (a:=Q-q) (b:=e+g) O4 O4;have b:=aH (a:=Q+q) (b:=e-g) O4 O4;have c:=aH (a:=Q-q) (b:=e-g) O4 O4;have d:=aH (a:=Q+q) (b:=e+g) O4 O4;constructor<;>grind
theorem Zem{x:Rat}{g:Rat->Rat}(h:¬Big η x g):-η<=g x/\g x<=η:=by unfold Big at h;constructor<;>grind
theorem Zz1{x:Rat}{g:Rat->Rat}(h:η<=ε)(e:Big ε x g):Big η x g:=by unfold Big at *;grind
theorem Gg{a b:Rat}(h:0<ε)(k:0<a)(l:0<b):∃e:Rat,0<e/\e<=ε/\e*a<=b:=by
 have j:0<b*a⁻¹:=aU l (fK.2 k);have n:b*a⁻¹*a=b:=O4;rcases(show ε<=b*a⁻¹\/b*a⁻¹<=ε by grind)with g|g
 .exact⟨ε,h,O4,by have:=cT g (show 0<=a by grind);grind⟩
 .exact⟨b*a⁻¹,j,g,O4⟩
theorem pair3{g k:Rat->Rat}(h:Rl3 s t f g k)(I:0<ε)(V:∀x,s<=x->x<=t->Big ε x f\/Big ε x g) :
  ∃e,0<e/\(∀x,s<=x->x<=t->Big e x g\/Big e x k)/\∀η,0<η->η<=e->∀x,s<=x->x<=t->Lnk η x f g k:=by
 obtain⟨m,n,Q,G,S,hQ,W⟩:=h;obtain⟨e,H,e2,e3⟩:=Gg I (show 0<Q+n by grind) (Rat.mul_pos G I);have o:∀η,0<η->η<=e->∀x,s<=x->x<=t->¬Big η x g->Big η x k/\f x*k x<0:=λη v w x hs l j=>by
  obtain⟨q,Z,q2,q3⟩:=W x hs l;obtain⟨P,R⟩:=Zem j;obtain⟨p1,p2⟩:=Zcs Z q2 P R O4;have D:Big ε x f:=(V x hs l).resolve_right λh=>j (Zz1 O4 h);have c1:η*(Q+n)<=m*ε:=by have:=cT w (show 0<=Q+n by grind);grind
  have c2:0<η*n:=aU v S;rcases D with D|D
  .have M:m*ε<m*f x:=by have:=aU G (show 0<f x-ε by grind);grind
   have N:n*k x < - (n*η):=O4;have B:k x < -η:=by
    rcases(show k x < -η\/-η<=k x by grind)with u|u
    .exact u
    .have:=aH (a:=n) (b:=k x+η) O4 O4;grind
   refine⟨.inr B,?_⟩;have:=aU (a:=f x) (b:=- k x) O4 O4;grind
  .have M:m*f x < - (m*ε):=by have:=aU G (show 0 < -ε-f x by grind);grind
   have N:n*η<n*k x:=O4;have B:η<k x:=by
    rcases(show η<k x\/k x<=η by grind)with u|u
    .exact u
    .have:=aH (a:=n) (b:=η-k x) O4 O4;grind
   refine⟨.inl B,?_⟩;have:=aU (a:=- f x) (b:=k x) O4 O4;grind
 refine⟨e,H,λx hs l=>?_,λη v w x hs l=>⟨λj=>(o η v w x hs l j).1,λj=>(o η v w x hs l j).2⟩⟩;by_cases j:Big e x g
 .exact .inl j
 .exact .inr (o e H O4 x hs l j).1
theorem pair2{g:Rat->Rat}(h:Rl2 s t f g)(n:0<ε)(G:∀x,s<=x->x<=t->Big ε x f\/Big ε x g) :
  ∃e,0<e/\∀η,0<η->η<=e->∀x,s<=x->x<=t->Big η x g:=by
 obtain⟨m,Q,l,D,H⟩:=h;obtain⟨e,u,P,R⟩:=Gg n D (aU l n);refine⟨e,u,λη S B x hs o=>?_⟩;by_cases k:Big η x g
 .exact k
 .exfalso;obtain⟨q,I,M,Z⟩:=H x hs o;obtain⟨v,w⟩:=Zem k;obtain⟨V,W⟩:=Zcs I M v w O4;have j:Big ε x f:=(G x hs o).resolve_right λh=>k (Zz1 O4 h);have N:η*Q<=m*ε:=by have:=cT B (show 0<=Q by grind);grind
  rcases j with j|j
  .have:=aU l (show 0<f x-ε by grind);grind
  .have:=aU l (show 0 < -ε-f x by grind);grind
theorem Zvw{s t:Rat} : ∀(n:Nat) (f:Rat->Rat) (fs:List (Rat->Rat)) (ε:Rat),fs.length<=n->Rls s t f fs->0<ε->(∀g r,fs=g::r->∀x,s<=x->x<=t->Big ε x f\/Big ε x g)->
  ∃e,0<e/\∀η,0<η->η<=e->∀x,s<=x->x<=t->Lnks η x f fs
 | _,f,[],ε,_,_,o,_=>⟨ε,o,λ_ _ _ _ _ _=>trivial⟩
 | 0,f,g::r,ε,hl,_,_,_=>absurd hl O5
 | n+1,f,[g],ε,_,h,o,G=>pair2 h o (G g [] rfl)
 | n+1,f,g::k::r,ε,hl,h,o,G=>by
  obtain⟨e,H,M,I⟩:=pair3 h.1 o (G g (k::r) rfl);obtain⟨w,B,l⟩:=Zvw n g (k::r) e (by simp at hl ⊢;omega) h.2 H (λP Q D=>by injection D with j v;subst j;exact M)
  rcases(show e<=w\/w<=e by grind)with N|N
  .exact⟨e,H,λη j v x hs u=>⟨I η j v x hs u,l η j O4 x hs u⟩⟩
  .exact⟨w,B,λη j v x hs u=>⟨I η j O4 x hs u,l η j v x hs u⟩⟩
def Lip(s t L:Rat)(f:Rat->Rat):Prop:=∀x y,s<=x->x<=y->y<=t->f x-f y<=L*(y-x)/\f y-f x<=L*(y-x)
def vat(fs:List (Rat->Rat))(x:Rat):Int:=chg (fs.map λg=>Ep (g x))
theorem Yo8{L:Rat}(B:0<L)(H:∀g∈f::fs,Lip s t L g)(o:0<δ)(n:∀x,s<=x->x<=t->Big δ x f)(I:Rls s t f fs) :
  ∃h,0<h/\∀x y,s<=x->x<=y->y<=t->y-x<=h->vat (f::fs) x=vat (f::fs) y:=by
 obtain⟨e,u,v⟩:=Zvw fs.length f fs δ (aI _) I o (λg r _ x hs M=> .inl (n x hs M));obtain⟨η,l,R,S⟩:=Gg o (show(0:Rat)<1 by decide) u;obtain⟨h,w,P,Q⟩:=Gg l B l;refine⟨h,w,λx y j k N G=>SV.chg ?_⟩;refine Zqd O4 fs.length f fs (aI _) (Zz1 O4 (n x j O4)) (λg D=>?_) (Zmw _ _ _ (aI _) (v η l O4 x j O4));obtain⟨a,b⟩:=H g D x y j k N;have:=cT G (show 0<=L by grind);exact⟨O4,O4⟩
theorem Yeq{L:Rat}(I:0<L)(P:∀g∈f::fs,Lip s t L g)(N:0<δ)(M:∀x,s<=x->x<=t->Big δ x f)(R:Rls s t f fs)(u:s<=t) :
  vat (f::fs) s=vat (f::fs) t:=by
 obtain⟨h,G,w⟩:=Yo8 I P N M R;have v:∀n:Nat,∀y,s<=y->y<=t->y-s<=(n:Rat)*h->vat (f::fs) s=vat (f::fs) y:=λn=>by
  induction n with
  | zero=>
    intro y e j k;have:y=s:=by simp at k;grind
    rw [this]
  | succ n D=>
   intro y e j k;have B:((n+1:Nat):Rat)*h=(n:Rat)*h+h:=by push_cast;grind
   rcases(show y-s<=(n:Rat)*h\/(n:Rat)*h<y-s by grind)with l|l
   .exact D y e j l
   .have H:(0:Rat)<=(n:Rat)*h:=aH (by exact_mod_cast bA n) O4;rcases(show s<=y-h\/y-h<s by grind)with o|o
    .rw [D (y-h) o O4 O4];exact w (y-h) y o O4 j O4
    .exact w s y O4 e j O4
 have e:∃n:Nat,t-s<=(n:Rat)*h:=by
  have j:0<h⁻¹:=fK.2 G;refine⟨((t-s)*h⁻¹).ceil.toNat,?_⟩;have k:=@nQ ((t-s)*h⁻¹);have B:((((t-s)*h⁻¹).ceil:Int):Rat)<=((((t-s)*h⁻¹).ceil.toNat:Nat):Rat):=by have:((t-s)*h⁻¹).ceil<=((((t-s)*h⁻¹).ceil.toNat:Nat):Int):=lF _;exact_mod_cast this
  have l:=cT (lQ k B) (show 0<=h by grind);have H:(t-s)*h⁻¹*h=t-s:=O4;grind
 obtain⟨n,Q⟩:=e;exact v n t u O4 Q
def Zg:List Int->Rat->Rat
 | [],_=>0
 | c::p,x=>(c:Rat)+x*Zg p x
theorem Yrp(s t:Rat):∃K:Rat,0<K/\∀x,s<=x->x<=t->-K<=x/\x<=K:=by
 rcases(show(0<=s\/s<0) by grind)with h|h<;>rcases(show(0<=t\/t<0) by grind)with e|e
 .exact⟨t+1,O4,λx _ _=>O4⟩
 .exact⟨1,O4,λx _ _=>O4⟩
 .exact⟨t-s+1,O4,λx _ _=>O4⟩
 .exact⟨-s+1,O4,λx _ _=>O4⟩
theorem Zu2(s t:Rat):∀p:List Int,∃B:Rat,0<B/\∀x,s<=x->x<=t->-B<=Zg p x/\Zg p x<=B
 | []=>⟨1,O3,λx _ _=>by unfold Zg;grind⟩
 | c::p=>by obtain⟨B,g,h⟩:=Zu2 s t p;obtain⟨K,u,v⟩:=Yrp s t;obtain⟨C,w,j⟩:=Yrp (c:Rat) (c:Rat);have D:=j (c:Rat) O4 O4;refine⟨C+K*B,by have:=aU u g;grind,λx hs e=>?_⟩;obtain⟨k,l⟩:=h x hs e;obtain⟨n,o⟩:=v x hs e;obtain⟨f1,f2⟩:=Zcs n o k l O4;unfold Zg;constructor<;>grind
theorem Bp(s t:Rat):∀p:List Int,∃L:Rat,0<L/\Lip s t L (Zg p)
 | []=>⟨1,O3,λx y _ _ _=>by unfold Zg;constructor<;>grind⟩
 | c::p=>by obtain⟨L,v,w⟩:=Bp s t p;obtain⟨B,H,k⟩:=Zu2 s t p;obtain⟨K,o,u⟩:=Yrp s t;refine⟨K*L+B,by have:=aU o v;grind,λx y hs h j=>?_⟩;obtain⟨D,G⟩:=w x y hs h j;obtain⟨I,M⟩:=k y O4 j;obtain⟨l,n⟩:=u x hs O4;obtain⟨f1,f2⟩:=Zcs (q:=x) (g:=Zg p x-Zg p y) (e:=L*(y-x)) l n O4 O4 O4;have N:=aH (a:=B-Zg p y) (b:=y-x) O4 O4;have P:=aH (a:=B+Zg p y) (b:=y-x) O4 O4;unfold Zg;constructor<;>grind
theorem Zl5(x:Rat):∀q:List Int,(∀i,cf q i=0)->Zg q x=0
 | [],_=>rfl
 | c::q,h=>by have e:c=0:=h 0;have g:=Zl5 x q λi=>h (i+1);unfold Zg;rw [g,e];grind
theorem Na(x:Rat):∀p q:List Int,(∀i,cf p i=cf q i)->Zg p x=Zg q x
 | [],q,h=>by rw [Zl5 x q λi=>(h i).symm.trans (Yn (bA _))];rfl
 | c::p,[],h=>by rw [Zl5 x (c::p) λi=>(h i).trans (Yn (bA _))];rfl
 | c::p,d::q,h=>by have e:c=d:=h 0;have g:=Na x p q λi=>h (i+1);unfold Zg;rw [g,e]
def Mp:List Int->List Int->List Int
 | [],q=>q
 | p,[]=>p
 | a::p,b::q=>(a+b)::Mp p q
theorem Zv9(p:List Int):Mp p []=p:=by cases p<;>rfl
theorem Xp(x:Rat):∀p q:List Int,Zg (Mp p q) x=Zg p x+Zg q x
 | [],q=>by unfold Mp;show Zg q x=0+Zg q x;grind
 | a::p,[]=>by rw [Zv9];show Zg (a::p) x=Zg (a::p) x+0;grind
 | a::p,b::q=>by have h:=Xp x p q;unfold Mp Zg;rw [h];push_cast;grind
theorem Mt:∀(p q:List Int) (i:Nat),cf (Mp p q) i=cf p i+cf q i
 | [],q,i=>by unfold Mp;rw [show cf [] i=0 from Yn (bA _)];omega
 | a::p,[],i=>by rw [Zv9,show cf [] i=0 from Yn (bA _)];omega
 | a::p,b::q,0=>rfl
 | a::p,b::q,i+1=>Mt p q i
theorem Zp(x:Rat)(c:Int):∀p:List Int,Zg (p.map λa=>c*a) x=(c:Rat)*Zg p x
 | []=>by show(0:Rat)=c*0;grind
 | a::p=>by have h:=Zp x c p;simp only [bP];unfold Zg;rw [h];push_cast;grind
theorem Qp(c:Int):∀(p:List Int) (i:Nat),cf (p.map λa=>c*a) i=c*cf p i
 | [],i=>by simp [cf]
 | a::p,0=>rfl
 | a::p,i+1=>Qp c p i
def lmul:List Int->List Int->List Int
 | [],_=>[]
 | c::p,q=>Mp (q.map λa=>c*a) (0::lmul p q)
theorem Yc(x:Rat):∀p q:List Int,Zg (lmul p q) x=Zg p x*Zg q x
 | [],q=>by show(0:Rat)=0*Zg q x;grind
 | c::p,q=>by have h:=Yc x p q;unfold lmul;rw [Xp,Zp];show(c:Rat)*Zg q x+(((0:Int):Rat)+x*Zg (lmul p q) x)=((c:Rat)+x*Zg p x)*Zg q x;rw [h];grind
theorem Di:∀(p q:List Int) (i:Nat),cf (lmul p q) i=Yj (λk=>cf p k*cf q (i-k)) (i+1)
 | [],q,i=>by rw [show cf (lmul [] q) i=0 from Yn (bA _)];exact(Gi λk _=>by rw [show cf [] k=0 from Yn (bA _),cN]).symm
 | c::p,q,0=>by unfold lmul;rw [Mt,Qp,Ym,Ga];show c*cf q 0+0=0+c*cf q 0;omega
 | c::p,q,i+1=>by have h:=Di p q i;unfold lmul;rw [Mt,Qp,Mv];show c*cf q (i+1)+cf (lmul p q) i=c*cf q (i+1)+_;rw [h];congr 1;refine Xg λk e=>?_;show cf p k*cf q (i-k)=cf p k*cf q (i+1-(k+1));rw [show i+1-(k+1)=i-k by omega]
theorem Cj (a:Int)(c:Int)(x:List Int)(s:List Int)(y:List Int)(z:List Int)(h:∀t,a*cf x t=(ps s*ps y).c t-c*cf z t)(q:Rat):(a:Rat)*Zg x q=Zg s q*Zg y q-(c:Rat)*Zg z q:=by
 have e:∀t,cf (Mp (x.map λb=>a*b) (z.map λb=>c*b)) t=cf (lmul s y) t:=λt=>by rw [Mt,Qp,Qp,Di,h t,PS.mul_c];show Yj (λk=>cf s k*cf y (t-k)) (t+1)-c*cf z t+c*cf z t=_;omega
 have g:=Na q _ _ e;rw [Xp,Zp,Zp,Yc]at g;grind
theorem Yfc(I:Tr x)(w:Tr y)(j:y≠[])(R:y.length<=x.length):Rl3 s t (Zg x) (Zg y) (Zg (Mw x y)):=by
 have W:=aD.2 j;obtain⟨r1,r2,k,u,Q⟩:=Zcc w j x.length x I O;have hs:=Zea x.length I w j R O;have v:Tr (Ziq (Gy x.length x y)):=Qk _ _;obtain⟨m,n,S,V,H⟩:=Zfv v;rw [hs]at H;have P:0<Et y^k:=jN (Zgv w j);obtain⟨B,M,D⟩:=Zu2 s t u;have o:(0:Rat)<(m:Rat):=by exact_mod_cast S
 have e:(0:Rat)<(n:Rat):=by exact_mod_cast V
 have l:(0:Rat)<((Et y^k:Int):Rat):=by exact_mod_cast P
 refine⟨(n:Rat)*((Et y^k:Int):Rat),(m:Rat),(n:Rat)*B,aU e l,o,aU e M,λq g h=>⟨(n:Rat)*Zg u q,?_,?_,?_⟩⟩
 .have:=aH (a:=(n:Rat)) (b:=Zg u q+B) O4 (by have:=D q g h;grind);grind
 .have:=aH (a:=(n:Rat)) (b:=B-Zg u q) O4 (by have:=D q g h;grind);grind
 .have N:=Cj (Et y^k) (-1) x u y (Gy x.length x y) (λt=>by rw [Q t];omega) q;have G:Zg ((Mw x y).map λb=>m*b) q=Zg ((Gy x.length x y).map λb=>(-n)*b) q:=Na q _ _ λi=>by rw [Qp,Qp,H i,Zaz,mK,Int.neg_mul]
  rw [Zp,Zp]at G;push_cast at N G ⊢;grind
theorem rl2_of{g:Rat->Rat}(h:Rl3 s t f g (Zg [])):Rl2 s t f g:=by obtain⟨m,n,Q,l,B,k,o⟩:=h;refine⟨m,Q,l,k,λx e j=>?_⟩;obtain⟨q,u,v,w⟩:=o x e j;refine⟨q,u,v,?_⟩;have:Zg [] x=0:=rfl;rw [this]at w;grind
theorem Zpb (s:Rat)(t:Rat) : ∀(f:Nat) (a b:List Int),Tr a->Tr b->cok f a b->∃r,Nz f a b=a::r/\Rls s t (Zg a) (r.map Zg)/\(b=[]->r=[])/\(b≠[]->∃u,r=b::u):=λf=>by
 induction f with
 | zero=>
  intro a b k l h;have e:b=[]:=h;subst e;exact⟨[],rfl,aA,λ_=>rfl,λh=>absurd rfl h⟩
 | succ f H=>
  intro a b k l h;by_cases e:b=[]
  .subst e;exact⟨[],Dx _ _,aA,λ_=>rfl,λh=>absurd rfl h⟩
  .obtain⟨g,M,I,n,G,hs⟩:=Zht h e;obtain rfl:f=g:=O;obtain⟨r,v,w,B,D⟩:=H b (Mw a b) l (Zc0 k) G;have j:=Yfc (s:=s) (t:=t) k l e n;refine⟨b::r,by rw [hs,v],?_,λh=>absurd h e,λ_=>⟨r,rfl⟩⟩;by_cases o:Mw a b=[]
   .rw [B o];rw [o]at j;exact rl2_of j
   .obtain⟨u,rfl⟩:=D o;exact⟨j,w⟩
theorem Zvx{L M:Rat}(h:L<=M)(k:Lip s t L f):Lip s t M f:=λx y e g j=>by obtain⟨a,b⟩:=k x y e g j;have:=cT h (show 0<=y-x by grind);constructor<;>grind
theorem Ycb(s t:Rat):∀ls:List (List Int),∃L:Rat,0<L/\∀g∈ls.map Zg,Lip s t L g
 | []=>⟨1,O3,λg e=>by cases e⟩
 | p::ls=>by
  obtain⟨L,k,h⟩:=Ycb s t ls;obtain⟨M,l,j⟩:=Bp s t p;refine⟨L+M,O4,λg e=>?_⟩;rw [bP]at e;rcases bB.1 e with rfl|e
  .exact Zvx O4 j
  .exact Zvx O4 (h g e)
theorem Zgq{f:Nat}(l:Tr a)(n:Tr b)(o:cok f a b)(e:s<=t)(u:0<δ)(k:∀x,s<=x->x<=t->Big δ x (Zg a)) :
  vat ((Nz f a b).map Zg) s=vat ((Nz f a b).map Zg) t:=by
 obtain⟨r,h,j,_,_⟩:=Zpb s t f a b l n o;obtain⟨L,v,g⟩:=Ycb s t (Nz f a b);rw [h]at g ⊢;exact Yeq v g u k j e
theorem Zuz(x:Rat)(l:Int):∀p:List Int,Zg (p ++ [l]) x=Zg p x+(l:Rat)*x^p.length
 | []=>by show(l:Rat)+x*0=0+l*x^0;rw [dW];grind
 | c::p=>by have h:=Zuz x l p;rw [gO,dP,dB];unfold Zg;rw [h];grind
def alt:List Int->List Int
 | []=>[]
 | c::p=>c::(alt p).map λa=>-1*a
theorem Yj9(c:Int)(p:List Int)(X Y:Int)(h:p≠[]):pev (c::p) X Y=c*Y^p.length+X*pev p X Y:=by
 have e:=aD.2 h;unfold pev;rw [dP,Mv,<-Md];congr 1
 .show c*(X^0*Y^(p.length+1-1-0))=_;rw [dE,gW,show p.length+1-1-0=p.length by omega]
 .refine Xg λi hi=>?_;show cf p i*(X^(i+1)*Y^(p.length+1-1-(i+1)))=X*(cf p i*(X^i*Y^(p.length-1-i)));rw [show p.length+1-1-(i+1)=p.length-1-i by omega,dG];grind
theorem Ybw{X Y:Int}(e:0<Y):∀p:List Int,((pev p X Y:Int):Rat)=Zg p ((X:Rat)/(Y:Rat))*(Y:Rat)^(p.length-1)
 | []=>by show(0:Rat)=0*_;grind
 | [c]=>by
  have:pev [c] X Y=c:=by unfold pev;show 0+c*(X^0*Y^0)=c;rw [dE,dE];omega
  rw [this];show(c:Rat)=(c+X/Y*0)*(Y:Rat)^0;rw [dW];grind
 | c::d::p=>by
  have h:=Ybw (X:=X) e (d::p);rw [Yj9 c (d::p) X Y O5];have g:(Y:Rat)≠0:=by
    have:(0:Rat)<(Y:Rat):=by exact_mod_cast e
    grind
  push_cast;rw [h];show(c:Rat)*(Y:Rat)^(p.length+1)+X*(Zg (d::p) (X/Y)*(Y:Rat)^(p.length+1-1))=((c:Rat)+X/Y*Zg (d::p) (X/Y))*(Y:Rat)^(p.length+1+1-1);rw [show p.length+1-1=p.length by omega,show p.length+1+1-1=p.length+1 by omega,dB];generalize Zg (d::p) (X/Y)=R;generalize (Y:Rat)^p.length=P;have:(X:Rat)/Y*Y=X:=O4;grind
theorem Yib{z:Int}{r q:Rat}(k:0<q)(h:(z:Rat)=r*q):z.sign=Ep r:=by
 rcases(show r<0\/r=0\/0<r by grind)with e|e|e
 .rw [Zak e];have:=aU (a:=-r) (b:=q) O4 k;have g:(z:Rat)<0:=O4;have j:z<0:=by exact_mod_cast g
  exact iS j
 .subst e;have g:(z:Rat)=0:=O4;have j:z=0:=by exact_mod_cast g
  subst j;rfl
 .rw [Zaj e];have:=aU e k;have g:(0:Rat)<z:=O4;have j:0<z:=by exact_mod_cast g
  exact jT j
theorem Zev{X:Int}(e:0<Y)(p:List Int):Cl X Y p=Ep (Zg p ((X:Rat)/(Y:Rat))):=by
 have:(0:Rat)<(Y:Rat):=by exact_mod_cast e
 exact Yib (Rat.pow_pos this) (Ybw e p)
theorem Yp1(o:Tr xs)(l:xs≠[])(j:eok F (gA (Xc xs) (Xf (Xc xs))) (gB (Xc xs) (Xf (Xc xs)))):∃g:List Int,∀x,Zg xs x=Zg (sqf F xs) x*Zg g x:=by
 obtain⟨f1,f2,f3,f4,f5,f6⟩:=Ov F o l j;have h:∃k:Int,∀i,cf xs i=k*cf (Xc xs) i:=by
  unfold Xc Lr;split
  .refine⟨-Yw xs,λi=>?_⟩;rw [Yi,<-Gm xs i];grind
  .refine⟨Yw xs,λi=>?_⟩;rw [<-Gm xs i];grind
 obtain⟨k,h⟩:=h;refine⟨(Ng F (Xc xs) (Xf (Xc xs))).map λa=>k*a,λx=>?_⟩;have n:Zg (Xc xs) x=Zg (sqf F xs) x*Zg (Ng F (Xc xs) (Xf (Xc xs))) x:=by
  have:=Cj 1 0 (Xc xs) (sqf F xs) (Ng F (Xc xs) (Xf (Xc xs))) [] (λt=>by have e:=Hs (sqf F xs) (Ng F (Xc xs) (Xf (Xc xs))) t;rw [<-f4]at e;rw [e];omega) x
  push_cast at this;grind
 have e:Zg xs x=Zg ((Xc xs).map λa=>k*a) x:=Na x _ _ λi=>by rw [Qp];exact h i
 rw [e,Zp,Zp,n];grind
theorem Yot{x:Rat}{f:List Int->Int}(h:∀p∈ls,Ep (Zg p x)=f p):vat (ls.map Zg) x=chg (ls.map f):=by unfold vat;rw [kO];exact aE chg (kK λp e=>h p e)
def Ysh{X:Int}(e:0<Y):cnt F xs X Y=vat ((chn F xs).map Zg) ((X:Rat)/(Y:Rat)):=
 (Yot λp _=>(Zev e p).symm).symm
theorem Ycy(t:Int):∀p:List Int,Zg p (t:Rat)=((ev1 p t:Int):Rat)
 | []=>rfl
 | c::p=>by have h:=Ycy t p;rw [show Zg (c::p) (t:Rat)=(c:Rat)+(t:Rat)*Zg p (t:Rat)from rfl,show ev1 (c::p) t=c+t*ev1 p t from rfl,h];push_cast;rfl
theorem Zq0(h:∀x:Rat,Zg p x=0)(i:Nat):cf p i=0:=by
 by_cases j:cf p i=0
 .exact j
 .exfalso;have:=Zuy p.length p ((List.range p.length).map λn:Nat=>(n:Int)) rfl ⟨i,j⟩ (by
   refine List.Pairwise.map _ (λa b g=>?_) List.nodup_range;intro e;exact g (by exact_mod_cast e)) (λt l=>by
   have k:=Ycy t p;rw [h]at k;exact_mod_cast k.symm)
  simp at this
theorem Nk(h:∀x:Rat,Zg p x=Zg q x)(i:Nat):cf p i=cf q i:=by have e:=Zq0 (p:=Mp p (q.map λa=>(-1)*a)) (λx=>by rw [Xp,Zp,h x];push_cast;grind) i;rw [Mt,Qp]at e;omega
theorem Mn(p:List Int)(x:Rat):Zg (tzl p) x=Zg p x:=Na x _ _ λi=>Lb p i
theorem Yo(p q:List Int)(x:Rat):Zg (Qt p q) x=Zg p x*Zg q x:=by rw [<-Yc];exact Na x _ _ λi=>by rw [Hs,Di,PS.mul_c];rfl
theorem Px(c:Int)(x:Rat):Zg [c] x=(c:Rat):=by show(c:Rat)+x*0=c;grind
def ld:List Int->List Int
 | []=>[]
 | _::p=>Mp p (0::ld p)
theorem Zgu(c:Int)(p:List Int)(x:Rat):Zg (ld (c::p)) x=Zg p x+x*Zg (ld p) x:=by rw [show ld (c::p)=Mp p (0::ld p)from rfl,Xp];show Zg p x+(((0:Int):Rat)+x*Zg (ld p) x)=_;push_cast;grind
theorem Zhy:∀(p:List Int) (i:Nat),cf (ld p) i=cf p (i+1)*((i:Int)+1)
 | [],i=>by rw [Zdw,show ld []=[]from rfl,Zdw,cN]
 | c::p,0=>by rw [show ld (c::p)=Mp p (0::ld p)from rfl,Mt];show cf p 0+0=cf p 0*_;simp
 | c::p,i+1=>by have h:=Zhy p i;rw [show ld (c::p)=Mp p (0::ld p)from rfl,Mt];show cf p (i+1)+cf (ld p) i=cf p (i+1)*_;rw [h];push_cast;grind
theorem Ie(p:List Int)(x:Rat):Zg (Xf p) x=Zg (ld p) x:=Na x _ _ λi=>by rw [Zhx,Zhy]
theorem Cw (p:List Int)(q:List Int)(h:∀x,Zg p x=Zg q x)(x:Rat):Zg (ld p) x=Zg (ld q) x:=Na x _ _ λi=>by rw [Zhy,Zhy,Nk h]
theorem Yp9(p q:List Int)(x:Rat):Zg (ld (Mp p q)) x=Zg (ld p) x+Zg (ld q) x:=by rw [<-Xp];exact Na x _ _ λi=>by rw [Zhy,Mt,Mt,Zhy,Zhy];grind
theorem Zam(c:Int)(p:List Int)(x:Rat):Zg (ld (p.map λa=>c*a)) x=(c:Rat)*Zg (ld p) x:=by rw [<-Zp];exact Na x _ _ λi=>by rw [Zhy,Qp,Qp,Zhy];grind
theorem Bq(x:Rat):∀p q:List Int,Zg (ld (lmul p q)) x=Zg (ld p) x*Zg q x+Zg p x*Zg (ld q) x
 | [],q=>by show(0:Rat)=0*Zg q x+0*Zg (ld q) x;grind
 | c::p,q=>by have h:=Bq x p q;rw [show lmul (c::p) q=Mp (q.map λa=>c*a) (0::lmul p q)from rfl,Yp9,Zam,Zgu,Zgu,h,Yc,show Zg (c::p) x=(c:Rat)+x*Zg p x from rfl];grind
def Ed(g a:List Int):Prop:=∃(k:Int) (s:List Int),k≠0/\∀x:Rat,(k:Rat)*Zg a x=Zg s x*Zg g x
theorem Ed.refl(a:List Int):Ed a a:=⟨1,[1],O3,λx=>by rw [Px]⟩
theorem Ed.nil(g:List Int):Ed g []:=⟨1,[],O3,λx=>by show(((1:Int)):Rat)*0=0*Zg g x;grind⟩
theorem Ed.trans{c:List Int} : Ed a b->Ed b c->Ed a c:=λ⟨k,s,j,h⟩ ⟨m,u,l,e⟩=>
 ⟨k*m,lmul u s,bC j l,λx=>by have n:=h x;have g:=e x;rw [Yc];push_cast;have:(k:Rat)*m*Zg c x=k*(m*Zg c x):=O4;rw [this,g];grind⟩
theorem Ed.congr{g:List Int}(h:Ed g a)(e:∀x,Zg a x=Zg b x):Ed g b:=by obtain⟨k,s,j,h⟩:=h;exact⟨k,s,j,λx=>by rw [<-e x];exact h x⟩
theorem Ed.congr_l{g j:List Int}(h:Ed g a)(e:∀x,Zg g x=Zg j x):Ed j a:=by obtain⟨k,s,l,h⟩:=h;exact⟨k,s,l,λx=>by rw [<-e x];exact h x⟩
theorem Ed.sim{g:List Int}(h:Ed g a)(e:Sim a b):Ed g b:=by
 obtain⟨k,s,o,h⟩:=h;obtain⟨m,n,v,u,e⟩:=e;refine⟨k*n,s.map λc=>m*c,bC o u,λx=>?_⟩;have j:Zg (a.map λc=>m*c) x=Zg (b.map λc=>n*c) x:=Na x _ _ λi=>by rw [Qp,Qp,e]
 rw [Zp,Zp]at j;rw [Zp];have:=h x;push_cast;have l:(k:Rat)*n*Zg b x=k*(n*Zg b x):=O4;rw [l,<-j];grind
theorem Ed.lin{g c:List Int}(w:Ed g a)(B:Ed g b)(s:List Int)(L:Int)(o:L≠0)(h:∀x,(L:Rat)*Zg c x=Zg s x*Zg a x+Zg b x):Ed g c:=by obtain⟨k,u,D,j⟩:=w;obtain⟨m,v,G,l⟩:=B;refine⟨L*(k*m),Mp ((lmul s u).map λc=>m*c) (v.map λc=>k*c),bC o (bC D G),λx=>?_⟩;have j:=j x;have l:=l x;have h:=h x;rw [Xp,Zp,Zp,Yc];push_cast;have e:(L:Rat)*(k*m)*Zg c x=k*m*(L*Zg c x):=O4;rw [e,h];have n:(k:Rat)*m*(Zg s x*Zg a x+Zg b x)=m*Zg s x*(k*Zg a x)+k*(m*Zg b x):=O4;rw [n,j,l];grind
theorem Zzd{g s:List Int}{k:Int}(I:k≠0)(H:Tr g)(G:Tr a)(D:a≠[])(h:∀x:Rat,(k:Rat)*Zg a x=Zg s x*Zg g x):g≠[]/\tzl s≠[]/\(tzl s).length+g.length<=a.length+1:=by
 have o:∀i,k*cf a i=(ps (tzl s)*ps g).c i:=λi=>by have j:=Nk (p:=a.map λc=>k*c) (q:=lmul (tzl s) g) (λx=>by rw [Zp,Yc,Mn];exact h x) i;rw [Qp,Di]at j;rw [j,PS.mul_c];rfl
 have B:∀i,k*cf a i=0->cf a i=0:=λi hi=>(kI.1 hi).resolve_left I;have l:=G.mem D;have j:tzl s≠[]:=λe=>l (B _ (by rw [o,e,Lz (λt=>Yn (bA _))]));have n:g≠[]:=λe=>l (B _ (by rw [o,e,PS.mul_comm',Lz (λt=>Yn (bA _))]));refine⟨n,j,?_⟩;have M:=aD.2 j;have N:=aD.2 n;have v:=Zaa (p:=tzl s) (q:=g) (a:=(tzl s).length-1) (b:=g.length-1) (λi hi=>Yn O) (λi hi=>Yn O);rw [<-o]at v;have u:=bC ((Qj s).mem j) (H.mem n);rcases aX ((tzl s).length-1+(g.length-1)) a.length with w|w
 .omega
 .rw [Yn w,eG]at v;exact absurd v.symm u
theorem Ed.len{g:List Int}(h:Ed g a)(o:Tr g)(n:Tr a)(l:a≠[]):g≠[]/\g.length<=a.length:=by obtain⟨k,s,u,h⟩:=h;obtain⟨e,j,v⟩:=Zzd u o n l h;have:=aD.2 j;exact⟨e,O⟩
theorem Ed.same{g:List Int}(h:Ed g a)(w:Tr g)(u:Tr a)(o:a≠[])(G:g.length=a.length):Ed a g:=by
 obtain⟨k,s,B,h⟩:=h;obtain⟨D,j,n⟩:=Zzd B w u o h;have e:=aD.2 j
 match hs:tzl s,e,n with
 | [c],_,_=>
  have v:c≠0:=by have:=(Qj s).mem j;rw [hs]at this;exact this
  refine⟨c,[k],v,λx=>?_⟩;have l:=h x;rw [<-Mn s,hs,Px]at l;rw [Px];exact l.symm
 | c::d::r,_,h9=>simp at h9;omega
theorem Znz:∀(n:Nat) (a b:List Int),Tr a->Tr b->b.length<=n->∃g A B:List Int,Tr g/\Ed g a/\Ed g b/\∀x,Zg g x=Zg A x*Zg a x+Zg B x*Zg b x
 | n,a,[],j,l,_=>⟨a,[1],[],j,Ed.refl a,Ed.nil a,λx=>by rw [Px];show _=_+0*(0:Rat);push_cast;grind⟩
 | 0,a,c::r,_,_,hl=>absurd hl O5
 | n+1,a,c::b',j,l,hl=>by
  have h:(c::b')≠[]:=O5;generalize c::b'=b at *;obtain⟨k,s,hs⟩:=Cx a h;have u:=Mh (l.mem h) k;generalize cf b (b.length-1)^k=L at hs u;have H:=Pe a h;obtain⟨g,A,B,w,o,D,G⟩:=Znz n b (Qn a b) l (Kn j) O;have v:∀x,(L:Rat)*Zg a x=Zg s x*Zg b x+Zg (Qn a b) x:=λx=>by have:=Cj L (-1) a s b (Qn a b) (λt=>by rw [hs t];omega) x;push_cast at this;grind
  refine⟨g,B.map λc=>L*c,Mp A ((lmul B s).map λc=>(-1)*c),w,o.lin D s L u v,o,λx=>?_⟩;rw [Zp,Xp,Zp,Yc,G x];have:=v x;have e:Zg (Qn a b) x=L*Zg a x-Zg s x*Zg b x:=O4;rw [e];push_cast;grind
def Irr(q:List Int):Prop:=Tr q/\2<=q.length/\∀d,Tr d->Ed d q->d.length<=1\/d.length=q.length
theorem Zen(h:2<=q.length):q≠[]:=λe=>by rw [e]at h;simp at h
theorem Ylg:∀(n:Nat) (q:List Int),q.length<=n->Tr q->2<=q.length->∃p,Irr p/\Ed p q
 | 0,q,v,_,j=>O
 | n+1,q,v,l,j=>by
  by_cases h:Irr q
  .exact⟨q,h,Ed.refl q⟩
  .have:∃d,Tr d/\Ed d q/\¬(d.length<=1\/d.length=q.length):=by refine bH λu=>h ⟨l,j,λd e g=>bH λo=>u ⟨d,e,g,o⟩⟩
   obtain⟨d,e,g,D⟩:=this;have w:=(g.len e l (Zen j)).2;obtain⟨p,B,k⟩:=Ylg n d O e O;exact⟨p,B,k.trans g⟩
theorem Zbq (f:List Int)(h:List Int)(m:List Int)(k:Int)(Q:Irr q)(P:k≠0)(e:∀x:Rat,(k:Rat)*(Zg f x*Zg h x)=Zg m x*Zg q x):Ed q f\/Ed q h:=by
 obtain⟨j,n,w⟩:=Q;obtain⟨g,A,B,l,o,G,u⟩:=Znz _ q (tzl f) j (Qj f) (aI _);have N:=(o.len l j (Zen n)).1;rcases w g l o with v|v
 .right
  match g,N,v,l,u with
  | [c],_,_,l,u=>
   have M:c≠0:=l.mem O5;refine⟨c*k,Mp ((lmul A h).map λc=>k*c) (lmul B m),bC M P,λx=>?_⟩;have D:=u x;have I:=e x;rw [Px,Mn]at D;rw [Xp,Zp,Yc,Yc];push_cast;rw [D];have:(Zg A x*Zg q x+Zg B x*Zg f x)*k*Zg h x=k*Zg A x*Zg q x*Zg h x+Zg B x*(k*(Zg f x*Zg h x)):=O4;rw [this,I];grind
  | c::d::r,_,h9,_,_=>simp at h9
 .left;have H:=o.same l j (Zen n) v;exact(H.trans G).congr λx=>Mn f x
def Fo(q:List Int):Nat->List Int
 | 0=>[1]
 | n+1=>Qt q (Fo q n)
theorem Zbl{q:List Int}(j:Tr q)(g:2<=q.length):∀n,Tr (Fo q n)/\n+1<=(Fo q n).length
 | 0=>⟨.inr (show cf [1] 0≠0 by decide),aI _⟩
 | n+1=>by obtain⟨k,h⟩:=Zbl j g n;refine⟨Qm,?_⟩;show n+1+1<=(Qt q (Fo q n)).length;rw [Ow j k (Zen g) (λe=>by rw [e]at h;simp at h)];omega
def Es(q:List Int)(n:Nat)(x:Rat):Zg (Fo q (n+1)) x=Zg q x*Zg (Fo q n) x:=Yo _ _ _
theorem Zq4(q:List Int):∀(n:Nat) (x:Rat),Zg (ld (Fo q (n+1))) x=((n:Rat)+1)*(Zg (Fo q n) x*Zg (ld q) x)
 | n,x=>by
  have e:Zg (ld (Fo q (n+1))) x=Zg (ld (lmul q (Fo q n))) x:=Cw _ _ (λy=>by rw [Es,Yc]) x;rw [e,Bq]
  match n with
  | 0=>
   rw [show Zg (ld (Fo q 0)) x=0 from by rw [show Fo q 0=[1]from rfl,Zgu];show(0:Rat)+x*0=0;grind];simp;grind
  | n+1=>
   rw [Zq4 q n x,Es];push_cast;grind
theorem Yh0{s g u:List Int}{c:Int}{k:Nat}(H:∀x:Rat,Zg p x=Zg s x*Zg g x)(G:∀d,Tr d->Ed d p->Ed d (ld p)->Ed d g)(hq:Irr q)(h1:Ed q s)(h2:Ed q (ld s))(hk:Ed (Fo q k) g):Ed (Fo q (k+1)) g:=by
 obtain⟨n,v,I⟩:=hq;obtain⟨l,h,k1,N⟩:=h1;obtain⟨w,s2,k2,W⟩:=h2;have V:∀x:Rat,(l:Rat)*Zg (ld s) x=Zg (ld h) x*Zg q x+Zg h x*Zg (ld q) x:=λx=>by have:=Cw (s.map λa=>l*a) (lmul h q) (λy=>by rw [Zp,Yc];exact N y) x;rwa [Zam,Bq]at this
 have h3:Ed q h:=by
  rcases Zbq h (ld q) (Mp (s2.map λa=>l*a) ((ld h).map λa=>(-w)*a)) _ ⟨n,v,I⟩ k2 (λx=>by have M:=V x;have Q:=W x;rw [Xp,Zp,Zp];push_cast;have:(w:Rat)*(Zg h x*Zg (ld q) x)=l*(w*Zg (ld s) x)-w*(Zg (ld h) x*Zg q x):=O4;rw [this,Q];grind)with h9|h9
  .exact h9
  .exfalso;have h8:Ed q (Xf q):=h9.congr λx=>(Ie q x).symm;have P:=Oc q;have:=(h8.len n (Np n) (λe=>by rw [e]at P;simp at P;omega)).2;omega
 obtain⟨o,j,k3,Z⟩:=h3;obtain⟨c,u,kc,eu⟩:=hk;have D:∀x:Rat,((l*o*c:Int):Rat)*Zg p x=Zg (lmul j u) x*Zg (Fo q (k+1+1)) x:=λx=>by rw [H x,Yc,Es,Es];push_cast;have M:=N x;have R:=Z x;have S:=eu x;have:(l:Rat)*o*c*(Zg s x*Zg g x)=o*(l*Zg s x)*(c*Zg g x):=O4;rw [this,M,S];have:(o:Rat)*(Zg h x*Zg q x)*(Zg u x*Zg (Fo q k) x)=(o*Zg h x)*Zg q x*(Zg u x*Zg (Fo q k) x):=O4;rw [this,R];grind
 have B:l*o*c≠0:=bC (bC k1 k3) kc;generalize l*o*c=C at D B;have hD:∀x:Rat,(C:Rat)*Zg (ld p) x=Zg (ld (lmul j u)) x*Zg (Fo q (k+1+1)) x+Zg (lmul j u) x*((((k+1:Nat):Rat)+1)*(Zg (Fo q (k+1)) x*Zg (ld q) x)):=λx=>by have:=Cw (p.map λa=>C*a) (lmul (lmul j u) (Fo q (k+1+1))) (λy=>by rw [Zp,Yc];exact D y) x;rwa [Zam,Bq,Zq4]at this
 refine G _ (Zbl n v _).1 ⟨C,lmul (lmul j u) q,B,λx=>?_⟩ ⟨C,Mp (lmul (ld (lmul j u)) q) ((lmul (lmul j u) (ld q)).map λa=>((k+2:Nat):Int)*a),B,λx=>?_⟩
 .rw [D x,Yc _ (lmul j u),Es q (k+1)];grind
 .rw [hD x,Xp,Zp,Yc _ (ld (lmul j u)),Yc _ (lmul j u),Es q (k+1)];push_cast;grind
theorem Yh2{s g:List Int}(l:∀x:Rat,Zg p x=Zg s x*Zg g x)(G:Tr g)(w:g≠[])(j:∀d,Tr d->Ed d p->Ed d (ld p)->Ed d g)(H:Tr q)(B:Ed q s)(D:Ed q (ld s)):q.length<=1:=by
 refine bH λh=>?_;obtain⟨r,n,e⟩:=Ylg _ q (aI _) H O;have o:∀k,Ed (Fo r k) g:=λk=>by
  induction k with
  | zero=>exact⟨1,g,O3,λx=>by rw [show Fo r 0=[1]from rfl,Px];push_cast;grind⟩
  | succ k I=>exact Yh0 (u:=[]) (c:=0) l j n (e.trans B) (e.trans D) I
 obtain⟨v,M⟩:=Zbl n.1 n.2.1 g.length;have:=((o g.length).len v G w).2;omega
theorem Yrs(o:Tr b)(g:b≠[])(h:Ed d a)(j:Ed d b):Ed d (Qn a b):=by
  obtain⟨k,s,hs⟩:=Cx a g;have n:=Mh (o.mem g) k;generalize cf b (b.length-1)^k=L at hs n;have v:∀x,(L:Rat)*Zg a x=Zg s x*Zg b x+Zg (Qn a b) x:=λx=>by have:=Cj L (-1) a s b (Qn a b) (λt=>by rw [hs t];omega) x;push_cast at this;grind
  have l:Ed d (a.map λc=>L*c):=by obtain⟨k,u,w,e⟩:=h;exact⟨k,u.map λc=>L*c,w,λx=>by rw [Zp,Zp];have:=e x;grind⟩
  exact j.lin l (s.map λc=>(-1)*c) 1 O3 λx=>by rw [Zp,Zp];push_cast;have:=v x;grind
theorem Zwl{d:List Int} : ∀(f:Nat) {a b:List Int},Tr a->Tr b->Ed d a->Ed d b->Ed d (eu f a b)
  | 0,a,b,_,_,e,_=>e
  | f+1,a,b,k,j,e,h=>by
    by_cases g:b=[]
    . rw [g,Bg];exact e
    . rw [show eu (f + 1) a b = eu f b (Zz (Qn a b)) by
          conv=>lhs;unfold eu
          rw [aG g]]
      have t1:=Kn (q:=b) k;exact Zwl f j (Yu t1) h ((Yrs j g e h).sim (Ql t1).symm)
theorem Zmi(e:Tr p)(g:Tr q)(h:Ed d p)(j:Ed d q):Ed d (Ng F p q):=by
  have k:=h.sim (Ql e).symm;have l:=j.sim (Ql g).symm;unfold Ng;refine Ed.sim ?_ (Hm _).symm;refine Zwl F (Zji e g) (Zjh e g) ?_ ?_
  . unfold gA;split<;>assumption
  . unfold gB;split<;>assumption
theorem Zgl(j:Tr xs)(k:xs≠[])(e:eok F (gA (Xc xs) (Xf (Xc xs))) (gB (Xc xs) (Xf (Xc xs))))(o:Tr q)(l:Ed q (sqf F xs))(n:Ed q (Xf (sqf F xs))):q.length<=1:=by
  obtain⟨f1,f2,f3,f4,f5,f6⟩:=Ov F j k e;have hs:Tr (Xc xs):=Nc (Yu j);have h:Tr (Xf (Xc xs)):=Np hs;refine Yh2 (p:=Xc xs) (s:=sqf F xs) (g:=Ng F (Xc xs) (Xf (Xc xs))) (λx=>?_) (Zd7 _ hs h) f5 (λd _ a b=>?_) o l (n.congr λx=>Ie _ x)
  . have:Zg (Xc xs) x=Zg (Qt (sqf F xs) (Ng F (Xc xs) (Xf (Xc xs)))) x:=by rw [<-f4]
    rw [this,Yo]
  . exact Zmi hs h a (b.congr λx=>(Ie _ x).symm)
theorem Zbw:∀(l:List Int) (n z:Int),(l.foldl Ni (n,z)).1=n+(l.foldl Ni (0,z)).1
 | [],n,z=>O5
 | x::l,n,z=>by
  simp only [gC];by_cases h:x=0
  .have e:∀n,Ni (n,z) x=(n,z):=λn=>by unfold Ni;rw [aM h]
   rw [e,e];exact Zbw l n z
  .by_cases g:x=-z
   .have e:∀n,Ni (n,z) x=(n+1,x):=λn=>by unfold Ni;rw [aG h,aM (by dsimp only;exact g)]
    rw [e,e,Zbw l (n+1) x,Zbw l (0+1) x];omega
   .have e:∀n,Ni (n,z) x=(n,x):=λn=>by unfold Ni;rw [aG h,aG (by dsimp only;exact g)]
    rw [e,e];exact Zbw l n x
theorem Ysu{x y:Int}{l:List Int}(k:y≠0):chg (x::y::l)=chg (y::l)+(if x=-y then 1 else 0):=by
 unfold chg;simp only [gC];have g:Ni (0,0) y=(0,y):=by unfold Ni;rw [aG k,aG O9]
 rw [g];by_cases j:x=0
 .have e:Ni (0,0) x=(0,0):=by unfold Ni;rw [aM j]
  rw [e,g,aG O];omega
 .have e:Ni (0,0) x=(0,x):=by unfold Ni;rw [aG j,aG O9]
  rw [e];have n:Ni (0,x) y=(if x=-y then 1 else 0,y):=by
   unfold Ni;rw [aG k];by_cases h:x=-y
   .rw [aM O9,aM h];rfl
   .rw [aG O9,aG h]
  rw [n,Zbw];omega
def crs(f:Rat->Rat)(u v:Rat):Int:=if f u≠0/\f u*f v<=0 then 1 else 0
theorem Zkn(s t:Rat):∀p:List Int,∃M:Rat,0<M/\∀x y,s<=x->x<=y->y<=t->
  -(M*(y-x)*(y-x))<=Zg p y-Zg p x-(y-x)*Zg (ld p) x/\Zg p y-Zg p x-(y-x)*Zg (ld p) x<=M*(y-x)*(y-x)
 | []=>⟨1,O3,λx y R S V=>by have:=aH (a:=y-x) (b:=y-x) O4 O4;show -(1*(y-x)*(y-x))<=(0:Rat)-0-(y-x)*0/\(0:Rat)-0-(y-x)*0<=1*(y-x)*(y-x);constructor<;>grind⟩
 | c::p=>by obtain⟨M,D,G⟩:=Zkn s t p;obtain⟨L,W,B⟩:=Bp s t p;obtain⟨K,v,w⟩:=Yrp s t;refine⟨L+K*M,by have:=aU v D;grind,λx y hs h k=>?_⟩;obtain⟨l,n⟩:=G x y hs h k;obtain⟨H,I⟩:=B x y hs h k;obtain⟨o,u⟩:=w x hs O4;have j:0<=y-x:=O4;obtain⟨f1,f2⟩:=Zcs (q:=x) (Q:=K) (g:=Zg p y-Zg p x-(y-x)*Zg (ld p) x) (e:=M*(y-x)*(y-x)) o u l n O4;have N:=aH (a:=y-x) (b:=L*(y-x)-(Zg p y-Zg p x)) j O4;have P:=aH (a:=y-x) (b:=L*(y-x)+(Zg p y-Zg p x)) j O4;rw [Zgu,show Zg (c::p) y=(c:Rat)+y*Zg p y from rfl,show Zg (c::p) x=(c:Rat)+x*Zg p x from rfl];constructor<;>grind
theorem Ydj(v:Tr a)(hb:Tr b)(Z:a≠[])(hc:∀q,Tr q->Ed q a->Ed q b->q.length<=1)(s t:Rat):∃ε:Rat,0<ε/\∀x,s<=x->x<=t->Big ε x (Zg a)\/Big ε x (Zg b):=by
 obtain⟨g,A,B,e,n,W,j⟩:=Znz _ a b v hb (aI _);have hl:=hc g e n W;have hg:=(n.len e v Z).1
 match g,hg,hl,e,j with
 | [c],_,_,e,j=>
  have l:c≠0:=e.mem O5;obtain⟨P,p1,p2⟩:=Zu2 s t A;obtain⟨Q,q1,q2⟩:=Zu2 s t B;obtain⟨ε,V,e2,e3⟩:=Gg (show(0:Rat)<1 by decide) (show 0<(P+Q)+(P+Q) by grind) (show(0:Rat)<1 by decide);refine⟨ε,V,λx hs w=>?_⟩;by_cases o:Big ε x (Zg a)
  .exact .inl o
  .by_cases u:Big ε x (Zg b)
   .exact .inr u
   .exfalso;obtain⟨D,G⟩:=Zem o;obtain⟨H,I⟩:=Zem u;obtain⟨M,N⟩:=p2 x hs w;obtain⟨R,S⟩:=q2 x hs w;obtain⟨u1,u2⟩:=Zcs M N D G O4;obtain⟨v1,v2⟩:=Zcs R S H I O4;have h4:=j x;rw [Px]at h4;have k:(c:Rat)<=-1\/1<=(c:Rat):=by
     rcases mY l with h|h
     .left;have:((c:Int):Rat)<=((-1:Int):Rat):=by exact_mod_cast (show c<=-1 by omega)
      rwa [show(((-1:Int)):Rat)=-1 from rfl]at this
     .right;have:1<=c:=O;exact_mod_cast this
    rcases k with k|k<;>grind
 | c::d::r,_,h9,_,_=>simp at h9
theorem Big.near{ε x y:Rat}{f:Rat->Rat}(h:Big ε x f)(e:f x-f y<=ε/2)(g:f y-f x<=ε/2):Big (ε/2) y f:=by unfold Big at *;grind
theorem Zjp(x:Rat):Ep x=-1↔x<0:=by
 unfold Ep;by_cases h:x<0
 .rw [aM h];simp [h]
 .rw [aG h];by_cases e:x=0
  .rw [aM e];simp [h]
  .rw [aG e];simp [h]
theorem Yiw(x:Rat):Ep (-x)=- Ep x:=by
 unfold Ep;by_cases h:x<0
 .rw [aM h,aG O4,aG O4];rfl
 .rw [aG h];by_cases e:x=0
  .rw [aM e,aG O4,aM O4];rfl
  .rw [aG e,aM O4]
theorem Zop{g:Rat->Rat}{x:Rat}(h:Ep (g x)≠0):vat (f::g::r) x=vat (g::r) x+(if Ep (f x)=- Ep (g x)then 1 else 0):=by unfold vat;simp only [bP];exact Ysu h
def Tay(s t M:Rat)(p:List Int):Prop:=∀x y,s<=x->x<=y->y<=t->-(M*(y-x)*(y-x))<=Zg p y-Zg p x-(y-x)*Zg (ld p) x/\Zg p y-Zg p x-(y-x)*Zg (ld p) x<=M*(y-x)*(y-x)
theorem Zjm  {f:Nat}  (ha:Tr a) (hb:Tr b) (a1:cok f a b) {κ:Rat} (hκ:0<κ) (W:∀x,Zg (ld a) x=κ*Zg b x)
  {L L' M h:Rat} (e1:0<ε) (e2:∀x,s<=x->x<=t->Big ε x (Zg a)\/Big ε x (Zg b)) (l1:0<=L) (l2:Lip s t L (Zg a)) (a9:0<=L') (I:Lip s t L' (Zg b)) (m1:0<=M) (m2:Tay s t M a)
  (h5:0<h) (h3:h*(L+L')<=ε/2) (h7:h*M<=κ*ε/2) {u v:Rat} (hs:s<=u) (j:u<=v) (ht:v<=t) (hh:v-u<=h) :
  vat ((Nz f a b).map Zg) u-vat ((Nz f a b).map Zg) v=crs (Zg a) u v:=by
 have Q:∀w,u<=w->w<=v->L*(w-u)<=ε/2/\L'*(w-u)<=ε/2:=λw k n=>by have p1:=aH (a:=L) (b:=h-(w-u)) O4 O4;have p2:=aH (a:=L') (b:=h-(w-u)) O4 O4;have p3:=aH (a:=L) (b:=h) O4 O4;have p4:=aH (a:=L') (b:=h) O4 O4;constructor<;>grind
 by_cases B:Big ε u (Zg a)
 .have hB:∀w,u<=w->w<=v->Big (ε/2) w (Zg a):=λw k n=>by obtain⟨x1,x2⟩:=l2 u w hs k O4;have:=Q w k n;exact B.near O4 O4
  rw [Zgq ha hb a1 j (show 0<ε/2 by grind) hB];have hv:=hB v j O4;have:crs (Zg a) u v=0:=by
   unfold crs;refine aG λ⟨_,P⟩=>?_;obtain⟨x1,x2⟩:=l2 u v hs j ht;have a6:=Q v j O4;unfold Big at B hv;rcases B with hp|hp
   .have:0<Zg a v:=O4;have:=aU (show 0<Zg a u by grind) this;grind
   .have:0 < - Zg a v:=O4;have:=aU (show 0 < - Zg a u by grind) this;grind
  omega
 .have l:Big ε u (Zg b):=(e2 u hs O4).resolve_left B;have hB:∀w,u<=w->w<=v->Big (ε/2) w (Zg b):=λw k n=>by obtain⟨x1,x2⟩:=I u w hs k O4;have:=Q w k n;exact l.near O4 O4
  have a2:b≠[]:=λe=>by rw [e]at l;unfold Big at l;have:Zg [] u=0:=rfl;rw [this]at l;grind
  obtain⟨g,hg,hd,a8,S,a4⟩:=Zht a1 a2;have hT:=Zgq hb (Zc0 ha) S j (show 0<ε/2 by grind) hB;obtain⟨r,hr,_,_,_⟩:=Zpb u v g b (Mw a b) hb (Zc0 ha) S;rw [a4,hr];rw [hr]at hT;simp only [bP]at hT ⊢;have a5:∃σ:Rat,(σ=1\/σ=-1)/\ε<σ*Zg b u/\∀w,u<=w->w<=v->0<σ*Zg b w:=by
   unfold Big at l;rcases l with hp|hp
   .refine⟨1,.inl rfl,O4,λw k n=>?_⟩;obtain⟨x1,x2⟩:=I u w hs k O4;have:=Q w k n;grind
   .refine⟨-1,.inr rfl,O4,λw k n=>?_⟩;obtain⟨x1,x2⟩:=I u w hs k O4;have:=Q w k n;grind
  obtain⟨σ,hσ,a7,R⟩:=a5;have o:u<v->σ*Zg a u<σ*Zg a v:=λD=>by
   obtain⟨y1,y2⟩:=m2 u v hs j ht;rw [W u]at y1 y2;have hd:0<v-u:=O4;have z1:M*(v-u)<=κ*ε/2:=by have:=aH (a:=M) (b:=h-(v-u)) O4 O4;grind
   have z2:0<κ*(σ*Zg b u)-M*(v-u):=by have:=aU hκ (show 0<σ*Zg b u-ε by grind);have:=aU hκ e1;grind
   have z3:=aU hd z2;rcases hσ with rfl|rfl<;>grind
  have a0:∀w,u<=w->w<=v->Ep (Zg b w)≠0:=λw k n=>by
   have:=R w k n;rcases hσ with rfl|rfl
   .rw [Zaj O4];decide
   .rw [Zak O4];decide
  rw [Zop (a0 u O4 j),Zop (a0 v j O4),hT];have G:∀w,u<=w->w<=v->(Ep (Zg a w)=- Ep (Zg b w)↔σ*Zg a w<0):=λw k n=>by
   have:=R w k n;rcases hσ with rfl|rfl
   .rw [Zaj (x:=Zg b w) O4,Zjp];constructor<;>intro<;>grind
   .rw [Zak (x:=Zg b w) O4,show(-(-1:Int))=- -1 from rfl];have P:=Zjp (-(Zg a w));rw [Yiw]at P;constructor
    .intro h8;have:=P.1 O;grind
    .intro h8;have:=P.2 O4;omega
  rw [show(if Ep (Zg a u)=- Ep (Zg b u)then(1:Int)else 0)=if σ*Zg a u<0 then 1 else 0 from by simp only [G u O4 j]];rw [show(if Ep (Zg a v)=- Ep (Zg b v)then(1:Int)else 0)=if σ*Zg a v<0 then 1 else 0 from by simp only [G v j O4]];have V:crs (Zg a) u v=if σ*Zg a u<0/\¬σ*Zg a v<0 then 1 else 0:=by
   unfold crs;have a3:Zg a u*Zg a v=(σ*Zg a u)*(σ*Zg a v):=by rcases hσ with rfl|rfl<;>grind
   have hz:Zg a u≠0↔σ*Zg a u≠0:=by rcases hσ with rfl|rfl<;>constructor<;>intro P h8<;>exact P O4
   have Z:(Zg a u≠0/\Zg a u*Zg a v<=0)↔(σ*Zg a u<0/\¬σ*Zg a v<0):=by
    rw [a3,hz];generalize hp:σ*Zg a u=p at *;generalize hq:σ*Zg a v=q at *;constructor
    .intro ⟨n1,n2⟩;rcases(show u<v\/u=v by grind)with D|H
     .have:=o D;rcases(show p<0\/0<p by grind)with N|N
      .refine⟨N,λn4=>?_⟩;have:=aU (show 0 < -p by grind) (show 0 < -q by grind);grind
      .have:=aU N (show 0<q by grind);grind
     .exfalso;have:q=p:=by rw [<-hp,<-hq,H]
      rw [this]at n2;rcases(show p<0\/0<p by grind)with N|N
      .have:=aU (show 0 < -p by grind) (show 0 < -p by grind);grind
      .have:=aU N N;grind
    .intro ⟨n1,n2⟩;refine⟨O4,?_⟩;have:=aH (show 0<=-p by grind) (show 0<=q by grind);grind
   simp only [Z]
  rw [V];by_cases k1:σ*Zg a u<0<;>by_cases k2:σ*Zg a v<0
  .simp [k1,k2]
  .simp [k1,k2];omega
  .exfalso;rcases(show u<v\/u=v by grind)with D|H
   .have:=o D;grind
   .rw [H]at k1;exact k1 k2
  .simp [k1,k2]
theorem Zls (κ:Rat){f:Nat}(w:Tr a)(B:Tr b)(H:a≠[])(g:cok f a b)(D:0<κ)(e:∀x,Zg (ld a) x=κ*Zg b x)(Q:∀q,Tr q->Ed q a->Ed q b->q.length<=1) :
  ∃h:Rat,0<h/\∀u v,s<=u->u<=v->v<=t->v-u<=h->vat ((Nz f a b).map Zg) u-vat ((Nz f a b).map Zg) v=crs (Zg a) u v:=by
 obtain⟨ε,n,G⟩:=Ydj w B H Q s t;obtain⟨L,l1,W⟩:=Bp s t a;obtain⟨l,V,k⟩:=Bp s t b;obtain⟨M,Z,m2⟩:=Zkn s t a;obtain⟨I,N,h3,h4⟩:=Gg (show(0:Rat)<1 by decide) (show 0<L+l by grind) (show 0<ε/2 by grind);obtain⟨h,o,h6,P⟩:=Gg N Z (show 0<κ*ε/2 by have:=aU D n;grind);refine⟨h,o,λu v hs j S R=>Zjm w B g D e n G O4 W O4 k O4 m2 o ?_ P hs j S R⟩;have:=aH (a:=L+l) (b:=I-h) O4 O4;grind
theorem Ylj:∀(n m:Nat) (f:Nat->Nat),(∀k,k<n->f k<m)->(∀a b,a<n->b<n->f a=f b->a=b)->n<=m
 | 0,_,_,_,_=>bA _
 | n+1,m,f,g,hi=>by
  have j:=g n O;have:=Ylj n (m-1) (λk=>if f n<f k then f k-1 else f k) (λk w=>by
   have l:=g k O;have h:f k≠f n:=λe=>by have:=hi k n O O e;omega
   split<;>omega) (λa b u v e=>by
   have h:f a≠f n:=λe=>by have:=hi a n O O e;omega
   have o:f b≠f n:=λe=>by have:=hi b n O O e;omega
   refine hi a b O O ?_;split at e<;>split at e<;>omega)
  omega
theorem php{n:Nat}{f:Nat->Nat}(h:m<n)(u:∀k,k<n->f k<m):∃a b,a<n/\b<n/\a≠b/\f a=f b:=by refine bH λj=>?_;have:=Ylj n m f u λa b l o e=>bH λg=>j ⟨a,b,l,o,g,e⟩;omega
def enc(B:Nat)(d:Nat->Nat):Nat->Nat
 | 0=>0
 | n+1=>enc B d n+d n*B^n
theorem Zsr{B:Nat}{d:Nat->Nat} : ∀n,(∀i,i<n->d i<B)->enc B d n<B^n
 | 0,_=>by simp [enc]
 | n+1,h=>by have j:=Zsr n λi hi=>h i O;have e:=h n O;have g:(d n+1)*B^n<=B*B^n:=aL _ e;rw [cK,Nat.one_mul]at g;rw [cH,bD (B^n) B];show enc B d n+d n*B^n<_;omega
theorem Yc3{B:Nat}{d e:Nat->Nat} : ∀n,(∀i,i<n->d i<B)->(∀i,i<n->e i<B)->enc B d n=enc B e n->∀i,i<n->d i=e i
 | 0,_,_,_,i,hi=>absurd hi (bN i)
 | n+1,g,j,h,i,hi=>by
  have u:=Zsr n λi hi=>g i O;have v:=Zsr n λi hi=>j i O;have h:enc B d n+d n*B^n=enc B e n+e n*B^n:=h;have o:0<B^n:=O;have l:d n=e n:=by
   have w:(enc B d n+d n*B^n)/B^n=d n:=by rw [mG _ _ o,cM u,cE]
   have D:(enc B e n+e n*B^n)/B^n=e n:=by rw [mG _ _ o,cM v,cE]
   rw [<-w,<-D,h]
  rcases aX i n with k|k
  .exact Yc3 n (λi hi=>g i O) (λi hi=>j i O) (by rw [l]at h;omega) i k
  .rw [show i=n by omega];exact l
def dig(B k j:Nat):Nat:=k/B^j%B
theorem Zss(B k:Nat):∀n,enc B (dig B k) n=k%B^n
 | 0=>by simp [enc,mI]
 | n+1=>by show enc B (dig B k) n+dig B k n*B^n=_;rw [Zss B k n,cH,nN];unfold dig;rw [bD]
theorem Zlr (C:Int){f:Nat->Int} : ∀n,(∀i,i<n->-C<=f i/\f i<=C)->-((n:Int)*C)<=Yj f n/\Yj f n<=(n:Int)*C
 | 0,_=>by simp [Ga]
 | n+1,h=>by
  have g:=Zlr _ n λi hi=>h i O;have j:=h n O;have e:((n+1:Nat):Int)*C=(n:Int)*C+C:=by push_cast;grind
  rw [Ym,e];omega
theorem Zoz(f g:Nat->Int):∀n,Yj (λi=>f i-g i) n=Yj f n-Yj g n
 | 0=>by simp [Ga]
 | n+1=>by rw [Ym,Ym,Ym,Zoz f g n];omega
theorem siegel{N M A:Nat}(a0:M<N)(hA:0<A)(c:Nat->Nat->Int)(hc:∀i j,i<M->j<N->(c i j).natAbs<=A) :
  ∃x:Nat->Int,(∃j,j<N/\x j≠0)/\(∀j,j<N->(x j).natAbs<=(2*N*A)^M)/\∀i,i<M->Yj (λj=>c i j*x j) N=0:=by
 generalize hX:(2*N*A)^M=X;generalize S:N*(A*X)=W;let d:=λk j=>dig (X+1) k j;have B:∀k j,d k j<=X:=λk j=>nG (bJ _ (kP X));let y:=λk i=>Yj (λj=>c i j*(d k j:Int)) N;have I:∀k i,i<M->-(W:Int)<=y k i/\y k i<=(W:Int):=λk i hi=>by
  have g:=Zlr ((A*X:Nat):Int) (f:=λj=>c i j*(d k j:Int)) N λj G=>by
   have h:=hc i j hi G;have u:(c i j*(d k j:Int)).natAbs<=A*X:=by rw [bX,dC];exact aP h (B k j)
   omega
  have l:((N:Int)*((A*X:Nat):Int))=(W:Int):=by rw [<-S];push_cast;rfl
  rw [l]at g;exact g
 let e:=λk=>enc (2*W+1) (λi=>(y k i+(W:Int)).toNat) M;have D:∀k i,i<M->(y k i+(W:Int)).toNat<2*W+1:=λk i hi=>by have:=I k i hi;omega
 have H:(2*W+1)^M<(X+1)^N:=by
  have g:2*W+1<=(2*N*A)*(X+1):=by
   have:0<N*A:=fJ O hA;have o:2*N*A*(X+1)=2*W+2*(N*A):=by rw [<-S];grind
   omega
  have h:=fS g M;rw [Nat.mul_pow,hX]at h;have u:(X+1)^(M+1)<=(X+1)^N:=cQ O O;rw [cH]at u;have l:0<(X+1)^M:=bZ O;have h5:X*(X+1)^M<(X+1)^M*(X+1):=by rw [bD];exact iT O l
  omega
 obtain⟨a,b,ha,hb,w,hf⟩:=php (f:=e) H (λk _=>Zsr M (D k));have P:=Yc3 M (D a) (D b) hf;refine⟨λj=>(d a j:Int)-(d b j:Int),?_,λj _=>?_,λi hi=>?_⟩
 .refine bH λh9=>w ?_;have Z:∀j,j<N->d a j=d b j:=λj G=>bH λv=>h9 ⟨j,G,λR=>v (by have R:(d a j:Int)-(d b j:Int)=0:=R;omega)⟩;have o:=Zss (X+1) a N;have Q:=Zss (X+1) b N;rw [bG ha]at o;rw [bG hb]at Q;have V:∀n,n<=N->enc (X+1) (dig (X+1) a) n=enc (X+1) (dig (X+1) b) n:=λn=>by
   induction n with
   | zero=>intro _;rfl
   | succ n ih=>
    intro hn;have v:dig (X+1) a n=dig (X+1) b n:=Z n O;show enc _ _ n+dig (X+1) a n*_=enc _ _ n+dig (X+1) b n*_;rw [ih O,v]
  rw [<-o,<-Q];exact V N (aI _)
 .have g:=B a j;have h:=B b j;dsimp only;omega
 .have g:Yj (λj=>c i j*((d a j:Int)-(d b j:Int))) N=y a i-y b i:=by rw [<-Zoz];exact Xg λj _=>O4
  rw [g];have h:=P i hi;have u:=I a i hi;have l:=I b i hi;omega
theorem Zjk(f:Nat->Int)(p:Nat):∀q,Yj f (p+q)=Yj f p+Yj (λk=>f (p+k)) q
 | 0=>by simp [Ga]
 | q+1=>by rw [<-jE,Ym,Ym,Zjk f p q];omega
def sft(a:List Int)(t k:Nat):Int:=if k<=t then cf a (t-k)else 0
theorem Znl{U:List Int}{p:Nat}(h:U.length=p)(t:Nat):(ps U*ps a).c t=Yj (λk=>sft a t k*cf U k) p:=by rw [<-Zxm,<-h];refine Xg λk _=>?_;unfold sft;split<;>grind
theorem Zey{U:List Int}{p t:Nat}(h:U.length<=p)(j:p+a.length<=t+1):(ps U*ps a).c t=0:=by
 rw [PS.mul_c];refine Gi λk g=>?_;rw [Nf,Nf];rcases aX k U.length with e|e
 .rw [Yn (p:=a) O,eG]
 .rw [Yn e,cN]
theorem Zjo (a:List Int)(b:List Int)(e:Nat){p q A:Nat}(w:0<A)(B:∀i,(cf a i).natAbs<=A)(D:∀i,(cf b i).natAbs<=A)(H:0<p+q)(I:p+a.length<=p+q+e)(P:q+b.length<=p+q+e) :
  ∃U V:List Int,U.length=p/\V.length=q/\((∃i,cf U i≠0)\/∃i,cf V i≠0)/\(∀i,(cf U i).natAbs<=(2*(p+q)*A)^(p+q-1))/\(∀i,(cf V i).natAbs<=(2*(p+q)*A)^(p+q-1))/\
   ∀t,e<=t->(ps U*ps a).c t+(ps V*ps b).c t=0:=by
 obtain⟨x,⟨j,Q,g⟩,v,G⟩:=siegel (N:=p+q) (M:=p+q-1) (A:=A) O w (λi j=>if j<p then sft a (e+i) j else sft b (e+i) (j-p)) (λi j _ _=>by
  split<;>unfold sft<;>split
  .exact B _
  .simp
  .exact D _
  .simp)
 have n:∀i,cf (mk p x) i=if i<p then x i else 0:=λi=>Nv _ _ _
 have o:∀i,cf (mk q λk=>x (p+k)) i=if i<q then x (p+i)else 0:=λi=>Nv _ _ _
 refine⟨mk p x,mk q λk=>x (p+k),Yt _ _,Yt _ _,?_,λi=>?_,λi=>?_,λt R=>?_⟩
 .rcases aX j p with h|h
  .exact .inl ⟨j,by rw [n,aM h];exact g⟩
  .exact .inr ⟨j-p,by rw [o,aM O,show p+(j-p)=j by omega];exact g⟩
 .rw [n];split
  .exact v i O
  .exact bA _
 .rw [o];split
  .exact v _ O
  .exact bA _
 .rcases aX (t-e) (p+q-1)with h|h
  .have u:=G (t-e) h;rw [show e+(t-e)=t by omega,Zjk]at u;rw [Znl (Yt _ _),Znl (Yt _ _),<-u];congr 1
   .exact Xg λk l=>by rw [aM l,n,aM l]
   .exact Xg λk l=>by rw [aG O,o,aM l,show p+k-p=k by omega]
  .rw [Zey (nJ (Yt _ _)) O,Zey (nJ (Yt _ _)) O];rfl
theorem Ydk (t:Nat){U:List Int}{p X A:Nat}(h:U.length=p)(j:∀i,(cf U i).natAbs<=X)(l:∀i,(cf a i).natAbs<=A):((ps U*ps a).c t).natAbs<=p*(X*A):=by
 rw [Znl h];have e:=Zlr ((X*A:Nat):Int) (f:=λk=>sft a t k*cf U k) p λk _=>by
  have:(sft a t k*cf U k).natAbs<=X*A:=by
   rw [bX,bD];refine aP (j k) ?_;unfold sft;split
   .exact l _
   .simp
  omega
 have g:((p:Int)*((X*A:Nat):Int))=((p*(X*A):Nat):Int):=by push_cast;rfl
 rw [g]at e;omega
theorem Zgw (w:List Int)(q:List Int)(y:List Int)(n:Nat)(h:∀x,Zg w x=Zg q x*Zg y x)(v:Tr y)(k:y≠[])(u:∀i,n<=i->cf w i=0):tzl q=[]\/(tzl q).length+y.length<=n+1:=by
 by_cases g:tzl q=[]
 .exact .inl g
 .right;have o:∀i,cf w i=(ps (tzl q)*ps y).c i:=λi=>by rw [Nk (p:=w) (q:=lmul (tzl q) y) (λx=>by rw [Yc,Mn];exact h x) i,Di,PS.mul_c];rfl
  have B:=aD.2 g;have D:=aD.2 k;have j:=Zaa (p:=tzl q) (q:=y) (a:=(tzl q).length-1) (b:=y.length-1) (λi hi=>Yn O) (λi hi=>Yn O);rw [<-o]at j;have e:=bC ((Qj q).mem g) (v.mem k);rcases aX ((tzl q).length-1+(y.length-1)) n with l|l
  .omega
  .rw [u _ l]at j;exact absurd j.symm e
theorem Ew (v:List Int){f:List Int}(j:tzl v≠[])(h:∀x,Zg v x*Zg f x=0)(x:Rat):Zg f x=0:=by
 by_cases e:tzl f=[]
 .rw [<-Mn,e];rfl
 .exfalso;rcases Zgw [] v (tzl f) 0 (λx=>by rw [Mn,h x];rfl) (Qj f) e (λi _=>Zdw i)with g|g
  .exact j g
  .have:=aD.2 e;have:=aD.2 j;omega
structure Inv (a b x y:List Int):Prop where
 ex:∃(α β γ:Int) (u' v' u v:List Int),α≠0/\β≠0/\γ≠0/\
  (∀t:Rat,(α:Rat)*Zg x t=Zg u' t*Zg a t+Zg v' t*Zg b t)/\(∀t:Rat,(β:Rat)*Zg y t=Zg u t*Zg a t+Zg v t*Zg b t)/\
  (∀t:Rat,Zg u' t*Zg v t-Zg u t*Zg v' t=(γ:Rat))/\(tzl v).length<=a.length-x.length+1/\(tzl v').length<=a.length-x.length+1
 xl:x.length<=b.length
 yl:y.length<x.length
theorem Ybo{z:List Int}{L:Int}(g:Tr y)(e:y≠[])(j:z.length<=x.length)(h:∀t:Rat,(L:Rat)*Zg x t=Zg q t*Zg y t+(c:Rat)*Zg z t):tzl q=[]\/(tzl q).length+y.length<=x.length+1:=
 Zgw (Mp (x.map λa=>L*a) (z.map λa=>(-c)*a)) _ _ x.length (λt=>by rw [Xp,Zp,Zp];have:=h t;push_cast;grind) g e λi hi=>by rw [Mt,Qp,Qp,Yn hi,Yn (p:=z) O];omega
theorem Zar{n:Nat}(h:(tzl p).length<=m)(j:(tzl q).length<=n)(i:Nat)(hi:m+n<=i+1):cf (lmul p q) i=0:=by have g:cf (lmul p q) i=cf (lmul (tzl p) (tzl q)) i:=Nk (λx=>by rw [Yc,Yc,Mn,Mn]) i;rw [g,Di];have e:=Zey (U:=tzl p) (a:=tzl q) (p:=m) (t:=i) h O;rw [PS.mul_c]at e;exact e
def Zqb{n:Nat}(h:∀i,n<=i->cf p i=0):(tzl p).length<=n:=Zb6 h
theorem Ydz{n:Nat}(h:(tzl p).length<=n)(hi:n<=i):cf p i=0:=by rw [<-Lb];exact Yn O
theorem Inv.next{z z':List Int}{L:Int}(S:Inv a b x y)(W:b.length<=a.length)(hx:Tr x)(hy:Tr y)(R:y≠[])(V:L≠0)(h:∀t:Rat,(L:Rat)*Zg x t=Zg q t*Zg y t+Zg z' t)(hz:Sim z' z)(k:z.length<y.length):Inv a b y z:=by
 obtain⟨⟨α,β,γ,u',G,u,v,hα,l,hγ,N,w,P,l1,l2⟩,xl,yl⟩:=S;obtain⟨m,n,Z,hn,hs⟩:=hz;have j:∀t:Rat,(m:Rat)*Zg z' t=(n:Rat)*Zg z t:=λt=>by
  have:=Na t (z'.map λa=>m*a) (z.map λa=>n*a) λi=>by rw [Qp,Qp,hs]
  rwa [Zp,Zp]at this
 have B:∀t:Rat,((L*m:Int):Rat)*Zg x t=Zg (q.map λa=>m*a) t*Zg y t+(n:Rat)*Zg z t:=λt=>by rw [Zp];push_cast;have:=h t;have:=j t;grind
 have e:=Ybo hy R O B;have g:(tzl (q.map λa=>m*a)).length<=x.length-y.length+1:=by
  rcases e with D|D
  .rw [D];simp
  .omega
 generalize hQ:(q.map λa=>m*a)=Q at *;have o:∀t:Rat,((n*(α*β):Int):Rat)*Zg z t=Zg (Mp (u'.map λc=>(L*m*β)*c) ((lmul Q u).map λc=>(-α)*c)) t*Zg a t+Zg (Mp (G.map λc=>(L*m*β)*c) ((lmul Q v).map λc=>(-α)*c)) t*Zg b t:=λt=>by rw [Xp,Xp,Zp,Zp,Zp,Zp,Yc,Yc];have H:=B t;have I:=N t;have M:=w t;push_cast at H ⊢;have:(n:Rat)*(α*β)*Zg z t=α*β*(n*Zg z t):=O4;rw [this,show(n:Rat)*Zg z t=L*m*Zg x t-Zg Q t*Zg y t by grind];have:(α:Rat)*β*(L*m*Zg x t-Zg Q t*Zg y t)=L*m*β*(α*Zg x t)-α*Zg Q t*(β*Zg y t):=O4;rw [this,I,M];grind
 refine⟨⟨β,n*(α*β),-(L*m*β*γ),u,v,_,_,l,bC hn (bC hα l),?_,w,o,λt=>?_,?_,?_⟩,O,k⟩
 .have:=bC (bC (bC V Z) l) hγ;omega
 .rw [Xp,Xp,Zp,Zp,Zp,Zp,Yc,Yc];have:=P t;push_cast;grind
 .refine Zqb λi hi=>?_;rw [Mt,Qp,Qp,Ydz (p:=G) l2 O,Zar g l1 i O];omega
 .omega
theorem Inv.first{z z':List Int}{L:Int}(w:b.length<=a.length)(M:Tr a)(B:Tr b)(u:b≠[])(v:L≠0)(h:∀t:Rat,(L:Rat)*Zg a t=Zg q t*Zg b t+Zg z' t)(H:Sim z' z)(k:z.length<b.length):Inv a b b z:=by
 obtain⟨m,n,D,G,hs⟩:=H;have j:∀t:Rat,(m:Rat)*Zg z' t=(n:Rat)*Zg z t:=λt=>by
  have:=Na t (z'.map λa=>m*a) (z.map λa=>n*a) λi=>by rw [Qp,Qp,hs]
  rwa [Zp,Zp]at this
 have l:∀t:Rat,((L*m:Int):Rat)*Zg a t=Zg (q.map λa=>m*a) t*Zg b t+(n:Rat)*Zg z t:=λt=>by rw [Zp];push_cast;have:=h t;have:=j t;grind
 have e:=Ybo B u O l;have g:(tzl (q.map λa=>m*a)).length<=a.length-b.length+1:=by
  rcases e with o|o
  .rw [o];simp
  .omega
 generalize I:(q.map λa=>m*a)=Q at *;refine⟨⟨1,n,-(L*m),[],[1],[L*m],Q.map λc=>(-1)*c,O3,G,?_,λt=>?_,λt=>?_,λt=>?_,?_,?_⟩,aI _,k⟩
 .have:=bC v D;omega
 .rw [Px];show _=(0:Rat)*_+_;grind
 .rw [Px,Zp];have:=l t;push_cast at this ⊢;grind
 .rw [Px,Px];show(0:Rat)*_-_=_;push_cast;grind
 .refine Zqb λi hi=>?_;rw [Qp,Ydz g O];omega
 .refine aB (Mc _) ?_;simp
def Zie{n:Nat}(h:Sz n a)(i:Nat):(cf a i).natAbs<=2^n:=dO ((Qo n _).1 (h i))
theorem Zal(h:tzl p=[])(x:Rat):Zg p x=0:=by rw [<-Mn,h];rfl
def tzl_ne(h:cf p i≠0):tzl p≠[]:=λe=>h ((Km p).1 e i)
def nn_eq{x a b:Nat}(e:x<=b)(g:b<=a):b-x+1+(a-x+1)=a+b-2*x+2:=O
theorem Inv.bound{n s:Nat}(hI:Inv a b x y)(a6:b.length<=a.length)(ha:Tr a)(hx:Tr x)(hy:Tr y)(h0:y≠[])(hp:Yw y=1)(na:Sz n a)(nb:Sz n b)(hs:a.length+b.length-2*x.length+2<=2^s) :
  Xz y<=(s+1+n)*(a.length+b.length-2*x.length+2):=by
 obtain⟨⟨α,β,γ,u',M,u,v,hα,hβ,hγ,e1,P,e3,l1,l2⟩,xl,yl⟩:=hI;have b3:=aD.2 h0;have b2:x≠[]:=λe=>by rw [e]at yl;simp at yl
 have I:a≠[]:=λe=>by
  have g:a.length=0:=by rw [e];rfl
  omega
 obtain⟨U,V,lU,lV,a9,bU,bV,hz⟩:=Zjo a b (x.length-1) (p:=b.length-x.length+1) (q:=a.length-x.length+1) (A:=2^n) (bZ O3) (Zie na) (Zie nb) O O O;have hv:a.length+1<=(tzl v).length+x.length:=by
  refine bH λg=>?_;have a8:∀i,cf (Mp (a.map λc=>γ*c) ((lmul y M).map λc=>β*c)) i=cf (lmul (tzl v) (x.map λc=>α*c)) i:=λi=>Nk (λt=>by
   rw [Xp,Zp,Zp,Yc,Yc,Zp,Mn];have Z:=e1 t;have G:=P t;have a3:=e3 t;have:Zg v t*(α*Zg x t)=(Zg u' t*Zg v t-Zg u t*Zg M t)*Zg a t+(Zg u t*Zg a t+Zg v t*Zg b t)*Zg M t:=by rw [Z];grind
   rw [this,a3,<-G];grind) i
  have l:=a8 (a.length-1);rw [Mt,Qp,Qp,Zar (m:=y.length) (n:=a.length-x.length+1) (Mc _) l2 _ O,Di]at l;have Q:=Zey (U:=tzl v) (a:=x.map λc=>α*c) (p:=(tzl v).length) (t:=a.length-1) (aI _) (by rw [aT];omega);rw [PS.mul_c]at Q;have h3:Yj (λk=>cf (tzl v) k*cf (x.map λc=>α*c) (a.length-1-k)) (a.length-1+1)=0:=Q;rw [h3]at l;have:=bC hγ (ha.mem I);omega
 have h:tzl v≠[]:=λe=>by rw [e]at hv;simp at hv;omega
 have cR:∀i,cf (Mp (lmul U a) (lmul V b)) i=(ps U*ps a).c i+(ps V*ps b).c i:=λi=>by rw [Mt,Di,Di,PS.mul_c,PS.mul_c];rfl
 generalize hR:Mp (lmul U a) (lmul V b)=R at cR;have rR:∀t,Zg R t=Zg U t*Zg a t+Zg V t*Zg b t:=λt=>by rw [<-hR,Xp,Yc,Yc]
 have lR:(tzl R).length<=x.length-1:=Zqb λi hi=>by rw [cR];exact hz i hi
 have hf:tzl (Mp (lmul U v) ((lmul u V).map λc=>(-1)*c))=[]:=by
  rcases Zgw (Mp (lmul R v) ((lmul y V).map λc=>(-β)*c)) (Mp (lmul U v) ((lmul u V).map λc=>(-1)*c)) a (a.length-1) (λt=>by
   rw [Xp,Zp,Yc,Yc,Xp,Zp,Yc,Yc,rR];have G:=P t;push_cast;have:(-(β:Rat))*(Zg y t*Zg V t)=- (β*Zg y t)*Zg V t:=O4;rw [this,G];grind) ha I (λi hi=>by
   rw [Mt,Qp,Zar lR l1 i O,Zar (m:=y.length) (n:=a.length-x.length+1) (Mc _) (aB (Mc _) (nJ lV)) i O];omega)with g|g
  .exact g
  .refine bH λh8=>?_;have:=aD.2 h8;omega
 have D:∀t,Zg U t*Zg v t=Zg u t*Zg V t:=λt=>by have:=Zal hf t;rw [Xp,Zp,Yc,Yc]at this;push_cast at this;grind
 have a4:∀t,Zg R t*Zg v t=β*Zg y t*Zg V t:=λt=>by rw [rR,P t];have:=D t;grind
 have W:∀t,(γ:Rat)*Zg V t=Zg v t*Zg (Mp (lmul u' V) ((lmul M U).map λc=>(-1)*c)) t:=λt=>by rw [Xp,Zp,Yc,Yc,<-e3 t];have:=D t;push_cast;grind
 generalize Mp (lmul u' V) ((lmul M U).map λc=>(-1)*c)=w at W;have hV:tzl V≠[]:=λe=>by
  rcases a9 with⟨i,hi⟩|⟨i,hi⟩
  .refine hi (Nk (p:=U) (q:=[]) (λt=>?_) i▸Zdw i);exact Ew v (f:=U) h (λt=>by have:=D t;rw [Zal e]at this;grind) t
  .exact tzl_ne hi e
 have b1:∃c:Int,c≠0/\∀t,Zg w t=(c:Rat):=by
  have j:tzl w≠[]:=λe=>hV ((Km V).2 λi=>by have:=Nk (p:=V.map λc=>γ*c) (q:=[]) (λt=>by rw [Zp,W t,Zal e];show _=(0:Rat);grind) i;rw [Qp,Zdw]at this;exact(kI.1 this).resolve_left hγ)
  rcases Zgw (V.map λc=>γ*c) w (tzl v) (a.length-x.length+1) (λt=>by rw [Zp,Mn,W t];grind) (Qj v) h (λi hi=>by rw [Qp,Yn O];omega)with g|g
  .exact absurd g j
  .have h8:=aD.2 j;have h7:(tzl w).length=1:=O
   match S:tzl w,h7 with
   | [c],_=>
    refine⟨c,?_,λt=>by rw [<-Mn,S,Px]⟩;have:=(Qj w).mem j;rw [S]at this;exact this
 obtain⟨c,a7,S⟩:=b1;have o:Sim R y:=by
  refine⟨γ,β*c,hγ,bC hβ a7,λi=>?_⟩;have:=Nk (p:=R.map λd=>γ*d) (q:=y.map λd=>(β*c)*d) (λt=>by
   rw [Zp,Zp];push_cast;have l:Zg (Mp (R.map λd=>γ*d) (y.map λd=>(-(β*c))*d)) t=0:=Ew v h (λt=>by rw [Xp,Zp,Zp];push_cast;have Z:=a4 t;have G:=W t;rw [S]at G;have:Zg v t*(γ*Zg R t + -(β*c:Rat)*Zg y t)=γ*(Zg R t*Zg v t)-β*Zg y t*(Zg v t*c):=O4;rw [this,Z,<-G];grind) t
   rw [Xp,Zp,Zp]at l;push_cast at l;grind) i
  rwa [Qp,Qp]at this
 have b0:Sz ((s+1+n)*(a.length+b.length-2*x.length+2)) R:=λi=>by
  rw [cR];have c1:=Ydk i lU bU (Zie na);have c2:=Ydk i lV bV (Zie nb);have a0:b.length-x.length+1+(a.length-x.length+1)=a.length+b.length-2*x.length+2:=nn_eq xl a6;rw [<-a0]at hs ⊢;generalize hN:b.length-x.length+1+(a.length-x.length+1)=N at *;generalize H:(2*N*2^n)^(N-1)=X at *;have c3:((ps U*ps a).c i+(ps V*ps b).c i).natAbs<=N*(X*2^n):=by rw [<-hN,cK];have:=nH ((ps U*ps a).c i) ((ps V*ps b).c i);omega
  refine(Qo _ _).2 (aW c3 ?_);have a5:0<X:=by rw [<-H];exact bZ (fJ O (bZ O3))
  have c4:N*(X*2^n)<(2*N*2^n)^N:=by
   have e:(2*N*2^n)^N=X*(2*N*2^n):=by rw [<-H,<-cH,Nat.succ_eq_add_one,show N-1+1=N by omega]
   rw [e];have:0<N*(X*2^n):=fJ O (fJ a5 (bZ O3));have P:X*(2*N*2^n)=2*(N*(X*2^n)):=O4;omega
  have c5:2*N*2^n<=2^(s+1+n):=by rw [cC,cH];exact aL _ O
  have c6:=fS c5 N;rw [<-Nat.pow_mul]at c6;exact dL c4 c6
 have l:tzl R≠[]:=λe=>by obtain⟨m,k,hm,hk,e9⟩:=o;have:=e9 (y.length-1);rw [(Km R).1 e,eG]at this;exact bC hk (hy.mem h0) this.symm
 have B:Sim (tzl R) y:=by obtain⟨m,k,hm,hk,e9⟩:=o;exact⟨m,k,hm,hk,λi=>by rw [Lb];exact e9 i⟩
 have Q:=(Ql (Qj R)).trans B;have h3:∀i,(cf y i).natAbs=(cf (Zz (tzl R)) i).natAbs:=λi=>by
  rcases Zlu (Yu (Qj R)) hy (λe=>l (aC (by rw [<-Zw,e];rfl))) (Kp (Qj R) l) hp Q with g|g
  .rw [g]
  .rw [g i,dM]
 exact Qx λi=>by rw [h3];exact Hz b0.tzl i
def Zvo(g e K:Nat):Prop:=∀l,l<=e->(l+1)*(K*(g+e-2*l+2)+1)<=65536
def Zxf{e g K l:Nat}(h:l<=m):K*(e+g-2*m+2)<=K*(e+g-2*l+2):=aY _ O
theorem Zhr{C:Nat}(e:y≠[])(l:y.length<x.length)(g:Xz x<=C)(j:Xz y<=C)(h:(x.length+1)*(C+1)<=65536):Bx x y=0:=by have n:=aD.2 e;unfold Bx;have k:(x.length-y.length+1)*(Xz y+1)<=x.length*(C+1):=aP O O;grind
theorem Yf5(n:Inv a b x y)(g:b.length<=a.length)(j:Tr x)(l:Tr y)(e:y≠[]):Inv a b y (Zz (Qn x y)):=by
 obtain⟨k,s,hs⟩:=Cx x e;have h:=Mh (l.mem e) k;generalize cf y _^k=L at hs h;have o:∀t,(L)*Zg x t=Zg s t*Zg y t+Zg (Qn x y) t:=λt=>by have:=Cj L (-1) x s y (Qn x y) (λt=>O4) t;grind
 exact n.next g j l e h o (Ql (Kn j)).symm (by simp_all [Zw,Pe])
theorem Zg0(h:Tr p):Zz p=[]\/Yw (Zz p)=1:=by
 by_cases e:p=[]
 .left;rw [e];rfl
 grind [Kp]
theorem Bt(g:Tr x)(e:y≠[]):(Mw x y).length<y.length:=by simp_all [Bs,Pe]
theorem Yf4(n:Inv a b x y)(j:b.length<=a.length)(g:Tr x)(h:Tr y)(e:y≠[]):Inv a b y (Mw x y)/\(Mw x y=[]\/Yw (Mw x y)=1):=by
 have B:=aD.2 e;have v:=n.yl;obtain⟨r1,r2,k,u,w⟩:=Zcc h e x.length x g O;have hs:=Zea x.length g h e O O;have l:Tr (Ziq (Gy x.length x y)):=Qk _ _;have o:Et y^k≠0:=Mh (by have:=Zgv h e;omega) _;constructor
 .refine n.next (z':=Gy x.length x y) (q:=u) j g h e o (λt=>?_) ?_ (Bt g e)
  .have:=Cj (Et y^k) (-1) x u y (Gy x.length x y) (λt=>O4) t;grind
  .rw [<-hs];exact Sim.trans ⟨1,-1,O,O,λi=>by grind [Zaz]⟩ (Ql l).symm
 grind [Zg0]
theorem Yc1{a b:List Int}{n s K:Nat}(g:b.length<=a.length)(D:Tr a)(I:Sz n a)(M:Sz n b)(hs:a.length+b.length<=2^s)(w:s+1+n<=K)(B:Zvo a.length b.length K) :
  ∀(f:Nat) (x y:List Int),Inv a b x y->Tr x->Tr y->(y=[]\/Yw y=1)->Xz x<=K*(a.length+b.length-2*x.length+2)->y.length<=f->eok f x y/\Xz (eu f x y)<=K*(a.length+b.length)
 | 0,x,y,e,o,u,G,l,Q=>by have k:=e.yl;refine⟨aC O,aB l (aY _ (by have:=e.xl;omega))⟩
 | f+1,x,y,e,o,u,G,l,Q=>by
  have v:=e.yl;have k:=e.xl;by_cases h:y=[]
  .subst h;refine⟨.inl rfl,?_⟩;exact aB l (aY _ O)
  .have N:=e.bound g D o u h (G.resolve_left h) I M (s:=s) O;have j:=aB N (aL _ w);have P:=Zhr h v l j (B _ k);have H:=Kn (q:=y) o;have R:=Yc1 g D I M hs w B f y _ (Yf5 e g o u h) u (Yu H) (Zg0 H) (aB j (Zxf O)) (by rw [Zw];have:=Pe x h;omega);refine⟨.inr ⟨P,R.1⟩,?_⟩;rw [show eu _ x y=eu f y (Zz (Qn x y)) by
     conv=>lhs;unfold eu
     grind]
   omega
theorem Ydn{a b:List Int}{n s K:Nat}(j:b.length<=a.length)(G:Tr a)(M:Sz n a)(N:Sz n b)(hs:a.length+b.length<=2^s)(B:s+1+n<=K)(D:Zvo a.length b.length K) :
  ∀(f:Nat) (x y:List Int),Inv a b x y->Tr x->Tr y->(y=[]\/Yw y=1)->Xz x<=K*(a.length+b.length-2*x.length+2)->y.length<=f->cok f x y/\∀p∈Nz f x y,Xz p<=K*(a.length+b.length)/\p.length<=a.length
 | 0,x,y,h,o,v,e,l,R=>by
  have u:=h.yl;have H:=h.xl;have g:y=[]:=aC O;refine⟨g,λp e=>?_⟩;have:p=x:=by unfold Nz at e;grind
  rw [this];exact⟨aB l (aY _ O),O⟩
 | f+1,x,y,h,o,v,e,l,R=>by
  have w:=h.yl;have u:=h.xl;by_cases g:y=[]
  .subst g;refine⟨.inl rfl,λp e=>?_⟩;rw [Dx]at e;have:p=x:=O4;rw [this];exact⟨aB l (aY _ O),O⟩
  .have P:=h.bound j G o v g (e.resolve_left g) M N (s:=s) O;have k:=aB P (aL _ B);have Q:=Zhr g w l k (D _ u);obtain⟨S,V⟩:=Yf4 h j o v g;have I:=Ydn j G M N hs B D f y _ S v (Zc0 o) V (aB k (Zxf O)) (by have:=Bt o g;omega);refine⟨.inr ⟨Q,O,I.1⟩,λp e=>?_⟩;unfold Nz at e;rw [aG g]at e;rcases bB.1 e with rfl|e
   .exact⟨aB l (aY _ O),O⟩
   .exact I.2 p e
theorem Yc2 (s:Nat)(K:Nat){n f:Nat}(j:b.length<a.length)(h:Tr a)(l:Tr b)(v:Sz n a)(w:Sz n b)(hs:a.length+b.length<=2^s)(D:s+1+n<=K)(H:Zvo a.length b.length K)(I:(a.length+1)*(n+1)<=65536)(S:b.length<=f) :
  eok f a b/\Xz (eu f a b)<=K*(a.length+b.length):=by
 have Q:=Qx v;have R:=Qx w;have G:n<=K*(a.length+b.length):=aB (by omega:n<=K*1) (aY _ O);by_cases e:b=[]
 .subst e;cases f with
  | zero=>exact⟨rfl,by grind [Bg]⟩
  | succ f=>exact⟨.inl rfl,by grind [Bg]⟩
 .have V:=aD.2 e;obtain⟨g,rfl⟩:∃g,f=g+1:=⟨f-1,O⟩;have o:=Kn (q:=b) h;obtain⟨k,q,N⟩:=Cx a e;have u:=Mh (l.mem e) k;generalize cf b _^k=L at N u;have M:∀t,(L)*Zg a t=Zg q t*Zg b t+Zg (Qn a b) t:=λt=>by have:=Cj L (-1) a q b (Qn a b) (λt=>O4) t;grind
  have B:=Inv.first O h l e u M (Ql o).symm (by simp_all [Zw,Pe]);have P:=Yc1 O h v w hs D H g b _ B l (Yu o) (Zg0 o) (aB (by omega:Xz b<=K*1) (aY _ O5)) (by rw [Zw];have:=Pe a e;omega);refine⟨.inr ⟨Zhr e j Q R I,P.1⟩,?_⟩;rw [show eu _ a b=eu g b (Zz (Qn a b)) by
    conv=>lhs;unfold eu
    grind]
  omega
theorem Yse{n s K f:Nat}(w:b.length<a.length)(j:Tr a)(l:Tr b)(G:Sz n a)(H:Sz n b)(hs:a.length+b.length<=2^s)(M:s+1+n<=K)(P:Zvo a.length b.length K)(Q:(a.length+1)*(n+1)<=65536)(W:b.length<=f) :
  cok f a b/\∀p∈Nz f a b,Xz p<=K*(a.length+b.length)/\p.length<=a.length:=by
 have S:=Qx G;have V:=Qx H;have N:n<=K*(a.length+b.length):=aB (by omega:n<=K*1) (aY _ O);by_cases e:b=[]
 .subst e;have h:∀p∈Nz f a [],Xz p<=K*(a.length+([]:List Int).length)/\p.length<=a.length:=λp o=>by rw [Dx]at o;grind
  cases f with
  | zero=>exact⟨rfl,h⟩
  | succ f=>exact⟨.inl rfl,h⟩
 .have l0:=aD.2 e;obtain⟨g,rfl⟩:∃g,f=g+1:=⟨f-1,O⟩;obtain⟨r1,r2,k,u,Z⟩:=Zcc l e a.length a j O;have B:=Zea a.length j l e O O;have D:Tr (Ziq (Gy a.length a b)):=Qk _ _;have v:Et b^k≠0:=Mh (by have:=Zgv l e;omega) _;have I:=by
   refine Inv.first (z':=Gy a.length a b) (q:=u) O j l e v (λt=>?_) ?_ (Bt j e)
   .have:=Cj (Et b^k) (-1) a u b (Gy a.length a b) (λt=>O4) t;grind
   .rw [<-B];exact Sim.trans ⟨1,-1,O,O,λi=>by grind [Zaz]⟩ (Ql D).symm
  have o:Mw a b=[]\/Yw (Mw a b)=1:=by grind [Zg0]
  have R:=Ydn O j G H hs M P g b _ I l (Zc0 j) o (aB (by omega:Xz b<=K*1) (aY _ O5)) (by have:=Bt j e;omega);refine⟨.inr ⟨Zhr e w S V Q,O,R.1⟩,λp o=>?_⟩;unfold Nz at o;grind
end Go.Sky

