/- Rules, arithmetic and contracts: part 6. No conditions but those that each theorem names. -/
import Derived.Test.YteikicbnfbgpnaaGreatEb04
set_option linter.all false
namespace Go.Sky
variable{p q a b s u xs x y v z:List Int}{c k d r:Int}{f m F i K B:Nat}{t κ:Rat}
theorem Yag(t:Int):∀p:List Int,Zd p (t:Rat)=((ev1 p t:Int):Rat)
 | []=>rfl
 | c::p=>by have h:=Yag t p;rw [show Zd (c::p) (t:Rat)=(c:Rat)+(t:Rat)*Zd p (t:Rat)from rfl,show ev1 (c::p) t=c+t*ev1 p t from rfl,h];push_cast;rfl
theorem Zo8(h:∀x:Rat,Zd p x=0)(i:Nat):cf p i=0:=by
 by_cases j:cf p i=0
 .exact j
 .exfalso;have:=Zs7 p.length p ((List.range p.length).map λn:Nat=>(n:Int)) rfl ⟨i,j⟩ (by
   refine List.Pairwise.map _ (λa b g=>?_) List.nodup_range;intro e;exact g (by exact_mod_cast e)) (λt o=>by
   have l:=Yag t p;rw [h]at l;exact_mod_cast l.symm)
  simp at this
theorem Oy(h:∀x:Rat,Zd p x=Zd q x)(i:Nat):cf p i=cf q i:=by have e:=Zo8 (p:=Ma p (q.map λa=>(-1)*a)) (λx=>by rw [Xh,Zk,h x];push_cast;grind) i;rw [Mb,Qi]at e;omega
def Ny(p:List Int)(x:Rat):Zd (tzl p) x=Zd p x:=Om x _ _ λi=>Ks p i
theorem Yi(p q:List Int)(x:Rat):Zd (Qn p q) x=Zd p x*Zd q x:=by rw [<-Zx];exact Om x _ _ λi=>by rw [Hg,Ek,PS.mul_c];rfl
theorem Pj(c:Int)(x:Rat):Zd [c] x=(c:Rat):=by show(c:Rat)+x*0=c;grind
def ld:List Int->List Int
 | []=>[]
 | _::p=>Ma p (0::ld p)
theorem Zfs(c:Int)(p:List Int)(x:Rat):Zd (ld (c::p)) x=Zd p x+x*Zd (ld p) x:=by rw [show ld (c::p)=Ma p (0::ld p)from rfl,Xh];show Zd p x+(((0:Int):Rat)+x*Zd (ld p) x)=_;push_cast;grind
theorem Zgs:∀(p:List Int) (i:Nat),cf (ld p) i=cf p (i+1)*((i:Int)+1)
 | [],i=>by rw [Zbz,show ld []=[]from rfl,Zbz,Int.zero_mul]
 | c::p,0=>by rw [show ld (c::p)=Ma p (0::ld p)from rfl,Mb];show cf p 0+0=cf p 0*_;simp
 | c::p,i+1=>by have h:=Zgs p i;rw [show ld (c::p)=Ma p (0::ld p)from rfl,Mb];show cf p (i+1)+cf (ld p) i=cf p (i+1)*_;rw [h];push_cast;grind
theorem Kw(p:List Int)(x:Rat):Zd (Xd p) x=Zd (ld p) x:=Om x _ _ λi=>by rw [Zgr,Zgs]
theorem Ca(h:∀x,Zd p x=Zd q x)(x:Rat):Zd (ld p) x=Zd (ld q) x:=Om x _ _ λi=>by rw [Zgs,Zgs,Oy h]
theorem Ym0(p q:List Int)(x:Rat):Zd (ld (Ma p q)) x=Zd (ld p) x+Zd (ld q) x:=by rw [<-Xh];exact Om x _ _ λi=>by rw [Zgs,Mb,Mb,Zgs,Zgs];grind
theorem Ak(c:Int)(p:List Int)(x:Rat):Zd (ld (p.map λa=>c*a)) x=(c:Rat)*Zd (ld p) x:=by rw [<-Zk];exact Om x _ _ λi=>by rw [Zgs,Qi,Qi,Zgs];grind
theorem Cr(x:Rat):∀p q:List Int,Zd (ld (lmul p q)) x=Zd (ld p) x*Zd q x+Zd p x*Zd (ld q) x
 | [],q=>by show(0:Rat)=0*Zd q x+0*Zd (ld q) x;grind
 | c::p,q=>by have h:=Cr x p q;rw [show lmul (c::p) q=Ma (q.map λa=>c*a) (0::lmul p q)from rfl,Ym0,Ak,Zfs,Zfs,h,Zx,show Zd (c::p) x=(c:Rat)+x*Zd p x from rfl];grind
def Ed(g a:List Int):Prop:=∃(k:Int) (s:List Int),k≠0/\∀x:Rat,(k:Rat)*Zd a x=Zd s x*Zd g x
theorem Ed.refl(a:List Int):Ed a a:=⟨1,[1],O2,λx=>by rw [Pj]⟩
theorem Ed.nil(g:List Int):Ed g []:=⟨1,[],O2,λx=>by show(((1:Int)):Rat)*0=0*Zd g x;grind⟩
theorem Ed.trans{c:List Int} : Ed a b->Ed b c->Ed a c:=λ⟨k,s,j,h⟩ ⟨m,u,l,e⟩=>
 ⟨k*m,lmul u s,Int.mul_ne_zero j l,λx=>by have n:=h x;have g:=e x;rw [Zx];push_cast;have:(k:Rat)*m*Zd c x=k*(m*Zd c x):=O4;rw [this,g];grind⟩
theorem Ed.congr{g:List Int}(h:Ed g a)(e:∀x,Zd a x=Zd b x):Ed g b:=by obtain⟨k,s,j,h⟩:=h;exact⟨k,s,j,λx=>by rw [<-e x];exact h x⟩
theorem Ed.congr_l{g j:List Int}(h:Ed g a)(e:∀x,Zd g x=Zd j x):Ed j a:=by obtain⟨k,s,l,h⟩:=h;exact⟨k,s,l,λx=>by rw [<-e x];exact h x⟩
theorem Ed.sim{g:List Int}(h:Ed g a)(e:Sim a b):Ed g b:=by
 obtain⟨k,s,o,h⟩:=h;obtain⟨m,n,D,w,e⟩:=e;refine⟨k*n,s.map λc=>m*c,Int.mul_ne_zero o w,λx=>?_⟩;have j:Zd (a.map λc=>m*c) x=Zd (b.map λc=>n*c) x:=Om x _ _ λi=>by rw [Qi,Qi,e]
 rw [Zk,Zk]at j;rw [Zk];have:=h x;push_cast;have l:(k:Rat)*n*Zd b x=k*(n*Zd b x):=O4;rw [l,<-j];grind
theorem Ed.lin{g c:List Int}(w:Ed g a)(D:Ed g b)(s:List Int)(L:Int)(o:L≠0)(h:∀x,(L:Rat)*Zd c x=Zd s x*Zd a x+Zd b x):Ed g c:=by obtain⟨k,u,G,j⟩:=w;obtain⟨m,v,H,l⟩:=D;refine⟨L*(k*m),Ma ((lmul s u).map λc=>m*c) (v.map λc=>k*c),Int.mul_ne_zero o (Int.mul_ne_zero G H),λx=>?_⟩;have j:=j x;have l:=l x;have h:=h x;rw [Xh,Zk,Zk,Zx];push_cast;have e:(L:Rat)*(k*m)*Zd c x=k*m*(L*Zd c x):=O4;rw [e,h];have n:(k:Rat)*m*(Zd s x*Zd a x+Zd b x)=m*Zd s x*(k*Zd a x)+k*(m*Zd b x):=O4;rw [n,j,l];grind
theorem Zxf{g:List Int}(P:k≠0)(N:Tr g)(M:Tr a)(I:a≠[])(h:∀x:Rat,(k:Rat)*Zd a x=Zd s x*Zd g x):g≠[]/\tzl s≠[]/\(tzl s).length+g.length<=a.length+1:=by
 have o:∀i,k*cf a i=(ps (tzl s)*ps g).c i:=λi=>by have j:=Oy (p:=a.map λc=>k*c) (q:=lmul (tzl s) g) (λx=>by rw [Zk,Zx,Ny];exact h x) i;rw [Qi,Ek]at j;rw [j,PS.mul_c];rfl
 have H:∀i,k*cf a i=0->cf a i=0:=λi hi=>(Int.mul_eq_zero.1 hi).resolve_left P;have l:=M.mem I;have j:tzl s≠[]:=λe=>l (H _ (by rw [o,e,Kp (λt=>Yl (Nat.zero_le _))]));have n:g≠[]:=λe=>l (H _ (by rw [o,e,PS.mul_comm',Kp (λt=>Yl (Nat.zero_le _))]));refine⟨n,j,?_⟩;have Q:=List.length_pos_iff.2 j;have R:=List.length_pos_iff.2 n;have D:=Bv (p:=tzl s) (q:=g) (a:=(tzl s).length-1) (b:=g.length-1) (λi hi=>Yl O) (λi hi=>Yl O);rw [<-o]at D;have w:=Int.mul_ne_zero ((Qc s).mem j) (N.mem n);rcases Nat.lt_or_ge ((tzl s).length-1+(g.length-1)) a.length with G|G
 .omega
 .rw [Yl G,Int.mul_zero]at D;exact absurd D.symm w
theorem Ed.len{g:List Int}(h:Ed g a)(o:Tr g)(n:Tr a)(l:a≠[]):g≠[]/\g.length<=a.length:=by obtain⟨k,s,w,h⟩:=h;obtain⟨e,j,D⟩:=Zxf w o n l h;have:=List.length_pos_iff.2 j;exact⟨e,O⟩
theorem Ed.same{g:List Int}(h:Ed g a)(G:Tr g)(w:Tr a)(o:a≠[])(M:g.length=a.length):Ed a g:=by
 obtain⟨k,s,H,h⟩:=h;obtain⟨I,j,n⟩:=Zxf H G w o h;have e:=List.length_pos_iff.2 j
 match hs:tzl s,e,n with
 | [c],_,_=>
  have D:c≠0:=by have:=(Qc s).mem j;rw [hs]at this;exact this
  refine⟨c,[k],D,λx=>?_⟩;have l:=h x;rw [<-Ny s,hs,Pj]at l;rw [Pj];exact l.symm
 | c::d::r,_,h9=>simp at h9;omega
theorem Zmg:∀(n:Nat) (a b:List Int),Tr a->Tr b->b.length<=n->∃g A B:List Int,Tr g/\Ed g a/\Ed g b/\∀x,Zd g x=Zd A x*Zd a x+Zd B x*Zd b x
 | n,a,[],j,l,_=>⟨a,[1],[],j,Ed.refl a,Ed.nil a,λx=>by rw [Pj];show _=_+0*(0:Rat);push_cast;grind⟩
 | 0,a,c::r,_,_,hl=>absurd hl O7
 | n+1,a,c::b',j,l,hl=>by
  have h:(c::b')≠[]:=O7;generalize c::b'=b at *;obtain⟨k,s,hs⟩:=Zas a h;have w:=Kq (l.mem h) k;generalize cf b (b.length-1)^k=L at hs w;have M:=Oa a h;obtain⟨g,A,B,G,o,H,I⟩:=Zmg n b (Qp a b) l (Ix j) O;have D:∀x,(L:Rat)*Zd a x=Zd s x*Zd b x+Zd (Qp a b) x:=λx=>by have:=Dn (a:=L) (c:=-1) (x:=a) (s:=s) (y:=b) (z:=Qp a b) (λt=>by rw [hs t];omega) x;push_cast at this;grind
  refine⟨g,B.map λc=>L*c,Ma A ((lmul B s).map λc=>(-1)*c),G,o.lin H s L w D,o,λx=>?_⟩;rw [Zk,Xh,Zk,Zx,I x];have:=D x;have e:Zd (Qp a b) x=L*Zd a x-Zd s x*Zd b x:=O4;rw [e];push_cast;grind
def Irr(q:List Int):Prop:=Tr q/\2<=q.length/\∀d,Tr d->Ed d q->d.length<=1\/d.length=q.length
theorem Zdq(h:2<=q.length):q≠[]:=λe=>by rw [e]at h;simp at h
theorem Yh4:∀(n:Nat) (q:List Int),q.length<=n->Tr q->2<=q.length->∃p,Irr p/\Ed p q
 | 0,q,G,_,j=>O
 | n+1,q,G,o,j=>by
  by_cases h:Irr q
  .exact⟨q,h,Ed.refl q⟩
  .have:∃d,Tr d/\Ed d q/\¬(d.length<=1\/d.length=q.length):=by refine Classical.byContradiction λD=>h ⟨o,j,λd e g=>Classical.byContradiction λw=>D ⟨d,e,g,w⟩⟩
   obtain⟨d,e,g,M⟩:=this;have H:=(g.len e o (Zdq j)).2;obtain⟨p,I,l⟩:=Yh4 n d O e O;exact⟨p,I,l.trans g⟩
theorem Zaz{f h m:List Int}(S:Irr q)(R:k≠0)(e:∀x:Rat,(k:Rat)*(Zd f x*Zd h x)=Zd m x*Zd q x):Ed q f\/Ed q h:=by
 obtain⟨j,n,G⟩:=S;obtain⟨g,A,B,l,o,I,w⟩:=Zmg _ q (tzl f) j (Qc f) (Nat.le_refl _);have Q:=(o.len l j (Zdq n)).1;rcases G g l o with D|D
 .right
  match g,Q,D,l,w with
  | [c],_,_,l,w=>
   have P:c≠0:=l.mem O7;refine⟨c*k,Ma ((lmul A h).map λc=>k*c) (lmul B m),Int.mul_ne_zero P R,λx=>?_⟩;have H:=w x;have N:=e x;rw [Pj,Ny]at H;rw [Xh,Zk,Zx,Zx];push_cast;rw [H];have:(Zd A x*Zd q x+Zd B x*Zd f x)*k*Zd h x=k*Zd A x*Zd q x*Zd h x+Zd B x*(k*(Zd f x*Zd h x)):=O4;rw [this,N];grind
  | c::d::r,_,h9,_,_=>simp at h9
 .left;have M:=o.same l j (Zdq n) D;exact(M.trans I).congr λx=>Ny f x
def Fb(q:List Int):Nat->List Int
 | 0=>[1]
 | n+1=>Qn q (Fb q n)
theorem Zat{q:List Int}(j:Tr q)(g:2<=q.length):∀n,Tr (Fb q n)/\n+1<=(Fb q n).length
 | 0=>⟨.inr (show cf [1] 0≠0 by decide),Nat.le_refl _⟩
 | n+1=>by obtain⟨l,h⟩:=Zat j g n;refine⟨Qa _ _,?_⟩;show n+1+1<=(Qn q (Fb q n)).length;rw [Oo j l (Zdq g) (λe=>by rw [e]at h;simp at h)];omega
def Fw(q:List Int)(n:Nat)(x:Rat):Zd (Fb q (n+1)) x=Zd q x*Zd (Fb q n) x:=Yi _ _ _
theorem Zo9(q:List Int):∀(n:Nat) (x:Rat),Zd (ld (Fb q (n+1))) x=((n:Rat)+1)*(Zd (Fb q n) x*Zd (ld q) x)
 | n,x=>by
  have e:Zd (ld (Fb q (n+1))) x=Zd (ld (lmul q (Fb q n))) x:=Ca (λy=>by rw [Fw,Zx]) x;rw [e,Cr]
  match n with
  | 0=>
   rw [show Zd (ld (Fb q 0)) x=0 from by rw [show Fb q 0=[1]from rfl,Zfs];show(0:Rat)+x*0=0;grind];simp;grind
  | n+1=>
   rw [Zo9 q n x,Fw];push_cast;grind
theorem Yet{g u:List Int}{c:Int}{k:Nat}(N:∀x:Rat,Zd p x=Zd s x*Zd g x)(M:∀d,Tr d->Ed d p->Ed d (ld p)->Ed d g)(hq:Irr q)(h1:Ed q s)(h2:Ed q (ld s))(hk:Ed (Fb q k) g):Ed (Fb q (k+1)) g:=by
 obtain⟨o,D,P⟩:=hq;obtain⟨n,j,k1,R⟩:=h1;obtain⟨G,s2,k2,e2⟩:=h2;have Z:∀x:Rat,(n:Rat)*Zd (ld s) x=Zd (ld j) x*Zd q x+Zd j x*Zd (ld q) x:=λx=>by have:=Ca (p:=s.map λa=>n*a) (q:=lmul j q) (λy=>by rw [Zk,Zx];exact R y) x;rwa [Ak,Cr]at this
 have h3:Ed q j:=by
  rcases Zaz (f:=j) (h:=ld q) (m:=Ma (s2.map λa=>n*a) ((ld j).map λa=>(-G)*a)) ⟨o,D,P⟩ k2 (λx=>by have Q:=Z x;have V:=e2 x;rw [Xh,Zk,Zk];push_cast;have:(G:Rat)*(Zd j x*Zd (ld q) x)=n*(G*Zd (ld s) x)-G*(Zd (ld j) x*Zd q x):=O4;rw [this,V];grind)with h9|h9
  .exact h9
  .exfalso;have h8:Ed q (Xd q):=h9.congr λx=>(Kw q x).symm;have S:=Nv q;have:=(h8.len o (Mp o) (λe=>by rw [e]at S;simp at S;omega)).2;omega
 obtain⟨w,l,k3,e3⟩:=h3;obtain⟨c,u,kc,eu⟩:=hk;have I:∀x:Rat,((n*w*c:Int):Rat)*Zd p x=Zd (lmul l u) x*Zd (Fb q (k+1+1)) x:=λx=>by rw [N x,Zx,Fw,Fw];push_cast;have Q:=R x;have W:=e3 x;have Y:=eu x;have:(n:Rat)*w*c*(Zd s x*Zd g x)=w*(n*Zd s x)*(c*Zd g x):=O4;rw [this,Q,Y];have:(w:Rat)*(Zd j x*Zd q x)*(Zd u x*Zd (Fb q k) x)=(w*Zd j x)*Zd q x*(Zd u x*Zd (Fb q k) x):=O4;rw [this,W];grind
 have H:n*w*c≠0:=Int.mul_ne_zero (Int.mul_ne_zero k1 k3) kc;generalize n*w*c=C at I H;have hD:∀x:Rat,(C:Rat)*Zd (ld p) x=Zd (ld (lmul l u)) x*Zd (Fb q (k+1+1)) x+Zd (lmul l u) x*((((k+1:Nat):Rat)+1)*(Zd (Fb q (k+1)) x*Zd (ld q) x)):=λx=>by have:=Ca (p:=p.map λa=>C*a) (q:=lmul (lmul l u) (Fb q (k+1+1))) (λy=>by rw [Zk,Zx];exact I y) x;rwa [Ak,Cr,Zo9]at this
 refine M _ (Zat o D _).1 ⟨C,lmul (lmul l u) q,H,λx=>?_⟩ ⟨C,Ma (lmul (ld (lmul l u)) q) ((lmul (lmul l u) (ld q)).map λa=>((k+2:Nat):Int)*a),H,λx=>?_⟩
 .rw [I x,Zx _ (lmul l u),Fw q (k+1)];grind
 .rw [hD x,Xh,Zk,Zx _ (ld (lmul l u)),Zx _ (lmul l u),Fw q (k+1)];push_cast;grind
theorem Yev{g:List Int}(l:∀x:Rat,Zd p x=Zd s x*Zd g x)(I:Tr g)(D:g≠[])(j:∀d,Tr d->Ed d p->Ed d (ld p)->Ed d g)(M:Tr q)(G:Ed q s)(H:Ed q (ld s)):q.length<=1:=by
 refine Classical.byContradiction λh=>?_;obtain⟨r,n,e⟩:=Yh4 _ q (Nat.le_refl _) M O;have o:∀k,Ed (Fb r k) g:=λk=>by
  induction k with
  | zero=>exact⟨1,g,O2,λx=>by rw [show Fb r 0=[1]from rfl,Pj];push_cast;grind⟩
  | succ k N=>exact Yet (u:=[]) (c:=0) l j n (e.trans G) (e.trans H) N
 obtain⟨w,P⟩:=Zat n.1 n.2.1 g.length;have:=((o g.length).len w I D).2;omega
theorem Yog{d:List Int}(o:Tr b)(g:b≠[])(h:Ed d a)(j:Ed d b):Ed d (Qp a b):=by
  obtain⟨k,s,hs⟩:=Zas a g;have n:=Kq (o.mem g) k;generalize cf b (b.length-1)^k=L at hs n;have w:∀x,(L:Rat)*Zd a x=Zd s x*Zd b x+Zd (Qp a b) x:=λx=>by have:=Dn (a:=L) (c:=-1) (x:=a) (s:=s) (y:=b) (z:=Qp a b) (λt=>by rw [hs t];omega) x;push_cast at this;grind
  have l:Ed d (a.map λc=>L*c):=by obtain⟨k,u,D,e⟩:=h;exact⟨k,u.map λc=>L*c,D,λx=>by rw [Zk,Zk];have:=e x;grind⟩
  exact j.lin l (s.map λc=>(-1)*c) 1 O2 λx=>by rw [Zk,Zk];push_cast;have:=w x;grind
theorem Zut{d:List Int} : ∀(f:Nat) {a b:List Int},Tr a->Tr b->Ed d a->Ed d b->Ed d (eu f a b)
  | 0,a,b,_,_,e,_=>e
  | f+1,a,b,l,j,e,h=>by
    by_cases g:b=[]
    . rw [g,Zht];exact e
    . rw [show eu (f + 1) a b = eu f b (Zz (Qp a b)) by
          conv=>lhs;unfold eu
          rw [if_neg g]]
      have t1:=Ix (q:=b) l;exact Zut f j (Xb t1) h ((Yog j g e h).sim (Qu t1).symm)
theorem Zkx{d:List Int}(e:Tr p)(g:Tr q)(h:Ed d p)(j:Ed d q):Ed d (Mh F p q):=by
  have l:=h.sim (Qu e).symm;have n:=j.sim (Qu g).symm;unfold Mh;refine Ed.sim ?_ (Hb _).symm;refine Zut F (Zj4 e g) (Zj3 e g) ?_ ?_
  . unfold gA;split<;>assumption
  . unfold gB;split<;>assumption
theorem Zfj(j:Tr xs)(l:xs≠[])(e:eok F (gA (Xe xs) (Xd (Xe xs))) (gB (Xe xs) (Xd (Xe xs))))(w:Tr q)(n:Ed q (sqf F xs))(o:Ed q (Xd (sqf F xs))):q.length<=1:=by
  obtain⟨f1,f2,f3,f4,f5,f6⟩:=Ol (F:=F) j l e;have hs:Tr (Xe xs):=Ov (Xb j);have h:Tr (Xd (Xe xs)):=Mp hs;refine Yev (p:=Xe xs) (s:=sqf F xs) (g:=Mh F (Xe xs) (Xd (Xe xs))) (λx=>?_) (Zff hs h) f5 (λd _ a b=>?_) w n (o.congr λx=>Kw _ x)
  . have:Zd (Xe xs) x=Zd (Qn (sqf F xs) (Mh F (Xe xs) (Xd (Xe xs)))) x:=by rw [<-f4]
    rw [this,Yi]
  . exact Zkx hs h a (b.congr λx=>(Kw _ x).symm)
theorem Za6:∀(l:List Int) (n z:Int),(l.foldl Mn (n,z)).1=n+(l.foldl Mn (0,z)).1
 | [],n,z=>O7
 | x::l,n,z=>by
  simp only [List.foldl_cons];by_cases h:x=0
  .have e:∀n,Mn (n,z) x=(n,z):=λn=>by unfold Mn;rw [if_pos h]
   rw [e,e];exact Za6 l n z
  .by_cases g:x=-z
   .have e:∀n,Mn (n,z) x=(n+1,x):=λn=>by unfold Mn;rw [if_neg h,if_pos (by dsimp only;exact g)]
    rw [e,e,Za6 l (n+1) x,Za6 l (0+1) x];omega
   .have e:∀n,Mn (n,z) x=(n,x):=λn=>by unfold Mn;rw [if_neg h,if_neg (by dsimp only;exact g)]
    rw [e,e];exact Za6 l n x
theorem Ypf{x y:Int}(l:List Int)(n:y≠0):chg (x::y::l)=chg (y::l)+(if x=-y then 1 else 0):=by
 unfold chg;simp only [List.foldl_cons];have g:Mn (0,0) y=(0,y):=by unfold Mn;rw [if_neg n,if_neg O9]
 rw [g];by_cases j:x=0
 .have e:Mn (0,0) x=(0,0):=by unfold Mn;rw [if_pos j]
  rw [e,g,if_neg O];omega
 .have e:Mn (0,0) x=(0,x):=by unfold Mn;rw [if_neg j,if_neg O9]
  rw [e];have o:Mn (0,x) y=(if x=-y then 1 else 0,y):=by
   unfold Mn;rw [if_neg n];by_cases h:x=-y
   .rw [if_pos O9,if_pos h];rfl
   .rw [if_neg O9,if_neg h]
  rw [o,Za6];omega
def crs(f:Rat->Rat)(u v:Rat):Int:=if f u≠0/\f u*f v<=0 then 1 else 0
theorem Zjb(s t:Rat):∀p:List Int,∃M:Rat,0<M/\∀x y,s<=x->x<=y->y<=t->
  -(M*(y-x)*(y-x))<=Zd p y-Zd p x-(y-x)*Zd (ld p) x/\Zd p y-Zd p x-(y-x)*Zd (ld p) x<=M*(y-x)*(y-x)
 | []=>⟨1,O2,λx y Y Z h3=>by have:=Rat.mul_nonneg (a:=y-x) (b:=y-x) O4 O4;show -(1*(y-x)*(y-x))<=(0:Rat)-0-(y-x)*0/\(0:Rat)-0-(y-x)*0<=1*(y-x)*(y-x);constructor<;>grind⟩
 | c::p=>by obtain⟨M,N,P⟩:=Zjb s t p;obtain⟨L,l1,I⟩:=Cq s t p;obtain⟨K,G,H⟩:=Yob s t;refine⟨L+K*M,by have:=Rat.mul_pos G N;grind,λx y hs h l=>?_⟩;obtain⟨n,o⟩:=P x y hs h l;obtain⟨R,S⟩:=I x y hs h l;obtain⟨w,D⟩:=H x hs O4;have j:0<=y-x:=O4;obtain⟨f1,f2⟩:=Zb3 (q:=x) (Q:=K) (g:=Zd p y-Zd p x-(y-x)*Zd (ld p) x) (e:=M*(y-x)*(y-x)) w D n o O4;have V:=Rat.mul_nonneg (a:=y-x) (b:=L*(y-x)-(Zd p y-Zd p x)) j O4;have W:=Rat.mul_nonneg (a:=y-x) (b:=L*(y-x)+(Zd p y-Zd p x)) j O4;rw [Zfs,show Zd (c::p) y=(c:Rat)+y*Zd p y from rfl,show Zd (c::p) x=(c:Rat)+x*Zd p x from rfl];constructor<;>grind
theorem Yay(G:Tr a)(hb:Tr b)(h0:a≠[])(hc:∀q,Tr q->Ed q a->Ed q b->q.length<=1)(s t:Rat):∃ε:Rat,0<ε/\∀x,s<=x->x<=t->Big ε x (Zd a)\/Big ε x (Zd b):=by
 obtain⟨g,A,B,e,o,g3,j⟩:=Zmg _ a b G hb (Nat.le_refl _);have hl:=hc g e o g3;have hg:=(o.len e G h0).1
 match g,hg,hl,e,j with
 | [c],_,_,e,j=>
  have n:c≠0:=e.mem O7;obtain⟨P,p1,p2⟩:=Ztb s t A;obtain⟨Q,q1,q2⟩:=Ztb s t B;obtain⟨ε,Z,e2,e3⟩:=Hz (show(0:Rat)<1 by decide) (show 0<(P+Q)+(P+Q) by grind) (show(0:Rat)<1 by decide);refine⟨ε,Z,λx hs H=>?_⟩;by_cases w:Big ε x (Zd a)
  .exact .inl w
  .by_cases D:Big ε x (Zd b)
   .exact .inr D
   .exfalso;obtain⟨I,M⟩:=Zdo w;obtain⟨N,R⟩:=Zdo D;obtain⟨S,V⟩:=p2 x hs H;obtain⟨W,Y⟩:=q2 x hs H;obtain⟨u1,u2⟩:=Zb3 S V I M O4;obtain⟨v1,v2⟩:=Zb3 W Y N R O4;have h4:=j x;rw [Pj]at h4;have l:(c:Rat)<=-1\/1<=(c:Rat):=by
     rcases Int.lt_or_gt_of_ne n with h|h
     .left;have:((c:Int):Rat)<=((-1:Int):Rat):=by exact_mod_cast (show c<=-1 by omega)
      rwa [show(((-1:Int)):Rat)=-1 from rfl]at this
     .right;have:1<=c:=O;exact_mod_cast this
    rcases l with l|l<;>grind
 | c::d::r,_,h9,_,_=>simp at h9
theorem Big.near{ε x y:Rat}{f:Rat->Rat}(h:Big ε x f)(e:f x-f y<=ε/2)(g:f y-f x<=ε/2):Big (ε/2) y f:=by unfold Big at *;grind
theorem Zic(x:Rat):Er x=-1↔x<0:=by
 unfold Er;by_cases h:x<0
 .rw [if_pos h];simp [h]
 .rw [if_neg h];by_cases e:x=0
  .rw [if_pos e];simp [h]
  .rw [if_neg e];simp [h]
theorem Yfq(x:Rat):Er (-x)=- Er x:=by
 unfold Er;by_cases h:x<0
 .rw [if_pos h,if_neg O4,if_neg O4];rfl
 .rw [if_neg h];by_cases e:x=0
  .rw [if_pos e,if_neg O4,if_pos O4];rfl
  .rw [if_neg e,if_pos O4]
theorem Zm4{f g:Rat->Rat}(r:List (Rat->Rat)){x:Rat}(h:Er (g x)≠0):vat (f::g::r) x=vat (g::r) x+(if Er (f x)=- Er (g x)then 1 else 0):=by unfold vat;simp only [List.map_cons];exact Ypf _ h
def Tay(s t M:Rat)(p:List Int):Prop:=∀x y,s<=x->x<=y->y<=t->-(M*(y-x)*(y-x))<=Zd p y-Zd p x-(y-x)*Zd (ld p) x/\Zd p y-Zd p x-(y-x)*Zd (ld p) x<=M*(y-x)*(y-x)
theorem Zh7 {s:Rat}   (ha:Tr a) (hb:Tr b) (a2:cok f a b)  (hκ:0<κ) (Z:∀x,Zd (ld a) x=κ*Zd b x)
  {ε L L' M h:Rat} (e1:0<ε) (e2:∀x,s<=x->x<=t->Big ε x (Zd a)\/Big ε x (Zd b)) (l1:0<=L) (l2:Lip s t L (Zd a)) (b0:0<=L') (P:Lip s t L' (Zd b)) (m1:0<=M) (m2:Tay s t M a)
  (h5:0<h) (h3:h*(L+L')<=ε/2) (h7:h*M<=κ*ε/2) {u v:Rat} (hs:s<=u) (j:u<=v) (ht:v<=t) (hh:v-u<=h) :
  vat ((Mz f a b).map Zd) u-vat ((Mz f a b).map Zd) v=crs (Zd a) u v:=by
 have S:∀w,u<=w->w<=v->L*(w-u)<=ε/2/\L'*(w-u)<=ε/2:=λw l o=>by have p1:=Rat.mul_nonneg (a:=L) (b:=h-(w-u)) O4 O4;have p2:=Rat.mul_nonneg (a:=L') (b:=h-(w-u)) O4 O4;have p3:=Rat.mul_nonneg (a:=L) (b:=h) O4 O4;have p4:=Rat.mul_nonneg (a:=L') (b:=h) O4 O4;constructor<;>grind
 by_cases G:Big ε u (Zd a)
 .have hB:∀w,u<=w->w<=v->Big (ε/2) w (Zd a):=λw l o=>by obtain⟨x1,x2⟩:=l2 u w hs l O4;have:=S w l o;exact G.near O4 O4
  rw [Zfo ha hb a2 j (show 0<ε/2 by grind) hB];have hv:=hB v j O4;have:crs (Zd a) u v=0:=by
   unfold crs;refine if_neg λ⟨_,R⟩=>?_;obtain⟨x1,x2⟩:=l2 u v hs j ht;have a7:=S v j O4;unfold Big at G hv;rcases G with hp|hp
   .have:0<Zd a v:=O4;have:=Rat.mul_pos (show 0<Zd a u by grind) this;grind
   .have:0 < - Zd a v:=O4;have:=Rat.mul_pos (show 0 < - Zd a u by grind) this;grind
  omega
 .have n:Big ε u (Zd b):=(e2 u hs O4).resolve_left G;have hB:∀w,u<=w->w<=v->Big (ε/2) w (Zd b):=λw l o=>by obtain⟨x1,x2⟩:=P u w hs l O4;have:=S w l o;exact n.near O4 O4
  have a3:b≠[]:=λe=>by rw [e]at n;unfold Big at n;have:Zd [] u=0:=rfl;rw [this]at n;grind
  obtain⟨g,hg,hd,a9,W,a5⟩:=Zl5 a2 a3;have hT:=Zfo hb (Zce ha) W j (show 0<ε/2 by grind) hB;obtain⟨r,hr,_,_,_⟩:=Znp (s:=u) (t:=v) g b (Nn a b) hb (Zce ha) W;rw [a5,hr];rw [hr]at hT;simp only [List.map_cons]at hT ⊢;have a6:∃σ:Rat,(σ=1\/σ=-1)/\ε<σ*Zd b u/\∀w,u<=w->w<=v->0<σ*Zd b w:=by
   unfold Big at n;rcases n with hp|hp
   .refine⟨1,.inl rfl,O4,λw l o=>?_⟩;obtain⟨x1,x2⟩:=P u w hs l O4;have:=S w l o;grind
   .refine⟨-1,.inr rfl,O4,λw l o=>?_⟩;obtain⟨x1,x2⟩:=P u w hs l O4;have:=S w l o;grind
  obtain⟨σ,hσ,a8,V⟩:=a6;have D:u<v->σ*Zd a u<σ*Zd a v:=λH=>by
   obtain⟨y1,y2⟩:=m2 u v hs j ht;rw [Z u]at y1 y2;have hd:0<v-u:=O4;have z1:M*(v-u)<=κ*ε/2:=by have:=Rat.mul_nonneg (a:=M) (b:=h-(v-u)) O4 O4;grind
   have z2:0<κ*(σ*Zd b u)-M*(v-u):=by have:=Rat.mul_pos hκ (show 0<σ*Zd b u-ε by grind);have:=Rat.mul_pos hκ e1;grind
   have z3:=Rat.mul_pos hd z2;rcases hσ with rfl|rfl<;>grind
  have a1:∀w,u<=w->w<=v->Er (Zd b w)≠0:=λw l o=>by
   have:=V w l o;rcases hσ with rfl|rfl
   .rw [Ah O4];decide
   .rw [Ai O4];decide
  rw [Zm4 _ (a1 u O4 j),Zm4 _ (a1 v j O4),hT];have I:∀w,u<=w->w<=v->(Er (Zd a w)=- Er (Zd b w)↔σ*Zd a w<0):=λw l o=>by
   have:=V w l o;rcases hσ with rfl|rfl
   .rw [Ah (x:=Zd b w) O4,Zic];constructor<;>intro<;>grind
   .rw [Ai (x:=Zd b w) O4,show(-(-1:Int))=- -1 from rfl];have R:=Zic (-(Zd a w));rw [Yfq]at R;constructor
    .intro h8;have:=R.1 O;grind
    .intro h8;have:=R.2 O4;omega
  rw [show(if Er (Zd a u)=- Er (Zd b u)then(1:Int)else 0)=if σ*Zd a u<0 then 1 else 0 from by simp only [I u O4 j]];rw [show(if Er (Zd a v)=- Er (Zd b v)then(1:Int)else 0)=if σ*Zd a v<0 then 1 else 0 from by simp only [I v j O4]];have Y:crs (Zd a) u v=if σ*Zd a u<0/\¬σ*Zd a v<0 then 1 else 0:=by
   unfold crs;have a4:Zd a u*Zd a v=(σ*Zd a u)*(σ*Zd a v):=by rcases hσ with rfl|rfl<;>grind
   have hz:Zd a u≠0↔σ*Zd a u≠0:=by rcases hσ with rfl|rfl<;>constructor<;>intro R h8<;>exact R O4
   have a0:(Zd a u≠0/\Zd a u*Zd a v<=0)↔(σ*Zd a u<0/\¬σ*Zd a v<0):=by
    rw [a4,hz];generalize hp:σ*Zd a u=p at *;generalize hq:σ*Zd a v=q at *;constructor
    .intro ⟨n1,n2⟩;rcases(show u<v\/u=v by grind)with H|N
     .have:=D H;rcases(show p<0\/0<p by grind)with Q|Q
      .refine⟨Q,λn4=>?_⟩;have:=Rat.mul_pos (show 0 < -p by grind) (show 0 < -q by grind);grind
      .have:=Rat.mul_pos Q (show 0<q by grind);grind
     .exfalso;have:q=p:=by rw [<-hp,<-hq,N]
      rw [this]at n2;rcases(show p<0\/0<p by grind)with Q|Q
      .have:=Rat.mul_pos (show 0 < -p by grind) (show 0 < -p by grind);grind
      .have:=Rat.mul_pos Q Q;grind
    .intro ⟨n1,n2⟩;refine⟨O4,?_⟩;have:=Rat.mul_nonneg (show 0<=-p by grind) (show 0<=q by grind);grind
   simp only [a0]
  rw [Y];by_cases k1:σ*Zd a u<0<;>by_cases k2:σ*Zd a v<0
  .simp [k1,k2]
  .simp [k1,k2];omega
  .exfalso;rcases(show u<v\/u=v by grind)with H|N
   .have:=D H;grind
   .rw [N]at k1;exact k1 k2
  .simp [k1,k2]
theorem Zkb{s:Rat}(D:Tr a)(G:Tr b)(N:a≠[])(g:cok f a b)(H:0<κ)(e:∀x,Zd (ld a) x=κ*Zd b x)(S:∀q,Tr q->Ed q a->Ed q b->q.length<=1) :
  ∃h:Rat,0<h/\∀u v,s<=u->u<=v->v<=t->v-u<=h->vat ((Mz f a b).map Zd) u-vat ((Mz f a b).map Zd) v=crs (Zd a) u v:=by
 obtain⟨ε,o,I⟩:=Yay D G N S s t;obtain⟨L,l1,Z⟩:=Cq s t a;obtain⟨n,Y,l⟩:=Cq s t b;obtain⟨M,m1,m2⟩:=Zjb s t a;obtain⟨P,Q,h3,h4⟩:=Hz (show(0:Rat)<1 by decide) (show 0<L+n by grind) (show 0<ε/2 by grind);obtain⟨h,w,h6,R⟩:=Hz Q m1 (show 0<κ*ε/2 by have:=Rat.mul_pos H o;grind);refine⟨h,w,λu v hs j W V=>Zh7 D G g H e o I O4 Z O4 l O4 m2 w ?_ R hs j W V⟩;have:=Rat.mul_nonneg (a:=L+n) (b:=P-h) O4 O4;grind
theorem Yh6:∀(n m:Nat) (f:Nat->Nat),(∀k,k<n->f k<m)->(∀a b,a<n->b<n->f a=f b->a=b)->n<=m
 | 0,_,_,_,_=>Nat.zero_le _
 | n+1,m,f,g,hi=>by
  have j:=g n O;have:=Yh6 n (m-1) (λk=>if f n<f k then f k-1 else f k) (λk G=>by
   have l:=g k O;have h:f k≠f n:=λe=>by have:=hi k n O O e;omega
   split<;>omega) (λa b w D e=>by
   have h:f a≠f n:=λe=>by have:=hi a n O O e;omega
   have o:f b≠f n:=λe=>by have:=hi b n O O e;omega
   refine hi a b O O ?_;split at e<;>split at e<;>omega)
  omega
theorem php{n:Nat}{f:Nat->Nat}(h:m<n)(w:∀k,k<n->f k<m):∃a b,a<n/\b<n/\a≠b/\f a=f b:=by refine Classical.byContradiction λj=>?_;have:=Yh6 n m f w λa b l o e=>Classical.byContradiction λg=>j ⟨a,b,l,o,g,e⟩;omega
def enc(B:Nat)(d:Nat->Nat):Nat->Nat
 | 0=>0
 | n+1=>enc B d n+d n*B^n
theorem Zq1{B:Nat}{d:Nat->Nat} : ∀n,(∀i,i<n->d i<B)->enc B d n<B^n
 | 0,_=>by simp [enc]
 | n+1,h=>by have j:=Zq1 n λi hi=>h i O;have e:=h n O;have g:(d n+1)*B^n<=B*B^n:=Nat.mul_le_mul_right _ e;rw [Nat.add_mul,Nat.one_mul]at g;rw [Nat.pow_succ,Nat.mul_comm (B^n) B];show enc B d n+d n*B^n<_;omega
theorem Yaj{B:Nat}{d e:Nat->Nat} : ∀n,(∀i,i<n->d i<B)->(∀i,i<n->e i<B)->enc B d n=enc B e n->∀i,i<n->d i=e i
 | 0,_,_,_,i,hi=>absurd hi (Nat.not_lt_zero i)
 | n+1,g,j,h,i,hi=>by
  have D:=Zq1 n λi hi=>g i O;have G:=Zq1 n λi hi=>j i O;have h:enc B d n+d n*B^n=enc B e n+e n*B^n:=h;have w:0<B^n:=O;have o:d n=e n:=by
   have H:(enc B d n+d n*B^n)/B^n=d n:=by rw [Nat.add_mul_div_right _ _ w,Nat.div_eq_of_lt D,Nat.zero_add]
   have I:(enc B e n+e n*B^n)/B^n=e n:=by rw [Nat.add_mul_div_right _ _ w,Nat.div_eq_of_lt G,Nat.zero_add]
   rw [<-H,<-I,h]
  rcases Nat.lt_or_ge i n with l|l
  .exact Yaj n (λi hi=>g i O) (λi hi=>j i O) (by rw [o]at h;omega) i l
  .rw [show i=n by omega];exact o
def dig(B k j:Nat):Nat:=k/B^j%B
theorem Zq2(B k:Nat):∀n,enc B (dig B k) n=k%B^n
 | 0=>by simp [enc,Nat.mod_one]
 | n+1=>by show enc B (dig B k) n+dig B k n*B^n=_;rw [Zq2 B k n,Nat.pow_succ,Nat.mod_mul];unfold dig;rw [Nat.mul_comm]
theorem Zka{f:Nat->Int}{C:Int} : ∀n,(∀i,i<n->-C<=f i/\f i<=C)->-((n:Int)*C)<=Ye f n/\Ye f n<=(n:Int)*C
 | 0,_=>by simp [Hm]
 | n+1,h=>by
  have g:=Zka n λi hi=>h i O;have j:=h n O;have e:((n+1:Nat):Int)*C=(n:Int)*C+C:=by push_cast;grind
  rw [Yj,e];omega
theorem Znf(f g:Nat->Int):∀n,Ye (λi=>f i-g i) n=Ye f n-Ye g n
 | 0=>by simp [Hm]
 | n+1=>by rw [Yj,Yj,Yj,Znf f g n];omega
theorem siegel{N M A:Nat}(a0:M<N)(hA:0<A)(c:Nat->Nat->Int)(hc:∀i j,i<M->j<N->(c i j).natAbs<=A) :
  ∃x:Nat->Int,(∃j,j<N/\x j≠0)/\(∀j,j<N->(x j).natAbs<=(2*N*A)^M)/\∀i,i<M->Ye (λj=>c i j*x j) N=0:=by
 generalize hX:(2*N*A)^M=X;generalize Z:N*(A*X)=W;let d:=λk j=>dig (X+1) k j;have H:∀k j,d k j<=X:=λk j=>Nat.le_of_lt_succ (Nat.mod_lt _ (Nat.succ_pos X));let y:=λk i=>Ye (λj=>c i j*(d k j:Int)) N;have R:∀k i,i<M->-(W:Int)<=y k i/\y k i<=(W:Int):=λk i hi=>by
  have g:=Zka (f:=λj=>c i j*(d k j:Int)) (C:=((A*X:Nat):Int)) N λj P=>by
   have h:=hc i j hi P;have w:(c i j*(d k j:Int)).natAbs<=A*X:=by rw [Int.natAbs_mul,Int.natAbs_natCast];exact Nat.mul_le_mul h (H k j)
   omega
  have l:((N:Int)*((A*X:Nat):Int))=(W:Int):=by rw [<-Z];push_cast;rfl
  rw [l]at g;exact g
 let e:=λk=>enc (2*W+1) (λi=>(y k i+(W:Int)).toNat) M;have I:∀k i,i<M->(y k i+(W:Int)).toNat<2*W+1:=λk i hi=>by have:=R k i hi;omega
 have Q:(2*W+1)^M<(X+1)^N:=by
  have g:2*W+1<=(2*N*A)*(X+1):=by
   have:0<N*A:=Nat.mul_pos O hA;have o:2*N*A*(X+1)=2*W+2*(N*A):=by rw [<-Z];grind
   omega
  have h:=Nat.pow_le_pow_left g M;rw [Nat.mul_pow,hX]at h;have w:(X+1)^(M+1)<=(X+1)^N:=Nat.pow_le_pow_right O O;rw [Nat.pow_succ]at w;have l:0<(X+1)^M:=Nat.pow_pos O;have h5:X*(X+1)^M<(X+1)^M*(X+1):=by rw [Nat.mul_comm];exact Nat.mul_lt_mul_of_pos_left O l
  omega
 obtain⟨a,b,ha,hb,G,hf⟩:=php (f:=e) Q (λk _=>Zq1 M (I k));have S:=Yaj M (I a) (I b) hf;refine⟨λj=>(d a j:Int)-(d b j:Int),?_,λj _=>?_,λi hi=>?_⟩
 .refine Classical.byContradiction λh9=>G ?_;have h8:∀j,j<N->d a j=d b j:=λj P=>Classical.byContradiction λD=>h9 ⟨j,P,λY=>D (by have Y:(d a j:Int)-(d b j:Int)=0:=Y;omega)⟩;have o:=Zq2 (X+1) a N;have V:=Zq2 (X+1) b N;rw [Nat.mod_eq_of_lt ha]at o;rw [Nat.mod_eq_of_lt hb]at V;have e3:∀n,n<=N->enc (X+1) (dig (X+1) a) n=enc (X+1) (dig (X+1) b) n:=λn=>by
   induction n with
   | zero=>intro _;rfl
   | succ n ih=>
    intro hn;have D:dig (X+1) a n=dig (X+1) b n:=h8 n O;show enc _ _ n+dig (X+1) a n*_=enc _ _ n+dig (X+1) b n*_;rw [ih O,D]
  rw [<-o,<-V];exact e3 N (Nat.le_refl _)
 .have g:=H a j;have h:=H b j;dsimp only;omega
 .have g:Ye (λj=>c i j*((d a j:Int)-(d b j:Int))) N=y a i-y b i:=by rw [<-Znf];exact Yy λj _=>O4
  rw [g];have h:=S i hi;have w:=R a i hi;have l:=R b i hi;omega
theorem Zh5(f:Nat->Int)(p:Nat):∀q,Ye f (p+q)=Ye f p+Ye (λk=>f (p+k)) q
 | 0=>by simp [Hm]
 | q+1=>by rw [<-Nat.add_assoc,Yj,Yj,Zh5 f p q];omega
def sft(a:List Int)(t k:Nat):Int:=if k<=t then cf a (t-k)else 0
theorem Zl4{U:List Int}{p:Nat}(h:U.length=p)(t:Nat):(ps U*ps a).c t=Ye (λk=>sft a t k*cf U k) p:=by rw [<-Zvv,<-h];refine Yy λk _=>?_;unfold sft;split<;>grind
theorem Zdz{U:List Int}{p t:Nat}(h:U.length<=p)(j:p+a.length<=t+1):(ps U*ps a).c t=0:=by
 rw [PS.mul_c];refine Gd λk g=>?_;rw [Oh,Oh];rcases Nat.lt_or_ge k U.length with e|e
 .rw [Yl (p:=a) O,Int.mul_zero]
 .rw [Yl e,Int.zero_mul]
theorem Zh9{p q lo A:Nat}(D:0<A)(G:∀i,(cf a i).natAbs<=A)(H:∀i,(cf b i).natAbs<=A)(P:0<p+q)(Q:p+a.length<=p+q+lo)(R:q+b.length<=p+q+lo) :
  ∃U V:List Int,U.length=p/\V.length=q/\((∃i,cf U i≠0)\/∃i,cf V i≠0)/\(∀i,(cf U i).natAbs<=(2*(p+q)*A)^(p+q-1))/\(∀i,(cf V i).natAbs<=(2*(p+q)*A)^(p+q-1))/\
   ∀t,lo<=t->(ps U*ps a).c t+(ps V*ps b).c t=0:=by
 obtain⟨x,⟨j,S,e⟩,w,I⟩:=siegel (N:=p+q) (M:=p+q-1) (A:=A) O D (λi j=>if j<p then sft a (lo+i) j else sft b (lo+i) (j-p)) (λi j _ _=>by
  split<;>unfold sft<;>split
  .exact G _
  .simp
  .exact H _
  .simp)
 have l:∀i,cf (mk p x) i=if i<p then x i else 0:=λi=>Nk _ _ _
 have n:∀i,cf (mk q λk=>x (p+k)) i=if i<q then x (p+i)else 0:=λi=>Nk _ _ _
 refine⟨mk p x,mk q λk=>x (p+k),Yp _ _,Yp _ _,?_,λi=>?_,λi=>?_,λt W=>?_⟩
 .rcases Nat.lt_or_ge j p with h|h
  .exact .inl ⟨j,by rw [l,if_pos h];exact e⟩
  .exact .inr ⟨j-p,by rw [n,if_pos O,show p+(j-p)=j by omega];exact e⟩
 .rw [l];split
  .exact w i O
  .exact Nat.zero_le _
 .rw [n];split
  .exact w _ O
  .exact Nat.zero_le _
 .rcases Nat.lt_or_ge (t-lo) (p+q-1)with h|h
  .have o:=I (t-lo) h;rw [show lo+(t-lo)=t by omega,Zh5]at o;rw [Zl4 (Yp _ _),Zl4 (Yp _ _),<-o];congr 1
   .exact Yy λk g=>by rw [if_pos g,l,if_pos g]
   .exact Yy λk g=>by rw [if_neg O,n,if_pos g,show p+k-p=k by omega]
  .rw [Zdz (Nat.le_of_eq (Yp _ _)) O,Zdz (Nat.le_of_eq (Yp _ _)) O];rfl
theorem Yaz{U:List Int}{p t X A:Nat}(h:U.length=p)(j:∀i,(cf U i).natAbs<=X)(l:∀i,(cf a i).natAbs<=A):((ps U*ps a).c t).natAbs<=p*(X*A):=by
 rw [Zl4 h];have e:=Zka (f:=λk=>sft a t k*cf U k) (C:=((X*A:Nat):Int)) p λk _=>by
  have:(sft a t k*cf U k).natAbs<=X*A:=by
   rw [Int.natAbs_mul,Nat.mul_comm];refine Nat.mul_le_mul (j k) ?_;unfold sft;split
   .exact l _
   .simp
  omega
 have g:((p:Int)*((X*A:Nat):Int))=((p*(X*A):Nat):Int):=by push_cast;rfl
 rw [g]at e;omega
theorem Zfu{w:List Int}{n:Nat}(h:∀x,Zd w x=Zd q x*Zd y x)(H:Tr y)(l:y≠[])(G:∀i,n<=i->cf w i=0):tzl q=[]\/(tzl q).length+y.length<=n+1:=by
 by_cases g:tzl q=[]
 .exact .inl g
 .right;have D:∀i,cf w i=(ps (tzl q)*ps y).c i:=λi=>by rw [Oy (p:=w) (q:=lmul (tzl q) y) (λx=>by rw [Zx,Ny];exact h x) i,Ek,PS.mul_c];rfl
  have I:=List.length_pos_iff.2 g;have M:=List.length_pos_iff.2 l;have j:=Bv (p:=tzl q) (q:=y) (a:=(tzl q).length-1) (b:=y.length-1) (λi hi=>Yl O) (λi hi=>Yl O);rw [<-D]at j;have e:=Int.mul_ne_zero ((Qc q).mem g) (H.mem l);rcases Nat.lt_or_ge ((tzl q).length-1+(y.length-1)) n with o|o
  .omega
  .rw [G _ o]at j;exact absurd j.symm e
theorem Ea{f:List Int}(j:tzl v≠[])(h:∀x,Zd v x*Zd f x=0)(x:Rat):Zd f x=0:=by
 by_cases e:tzl f=[]
 .rw [<-Ny,e];rfl
 .exfalso;rcases Zfu (w:=[]) (q:=v) (y:=tzl f) (n:=0) (λx=>by rw [Ny,h x];rfl) (Qc f) e (λi _=>Zbz i)with g|g
  .exact j g
  .have:=List.length_pos_iff.2 e;have:=List.length_pos_iff.2 j;omega
structure Inv (a b x y:List Int):Prop where
 ex:∃(α β γ:Int) (u' v' u v:List Int),α≠0/\β≠0/\γ≠0/\
  (∀t:Rat,(α:Rat)*Zd x t=Zd u' t*Zd a t+Zd v' t*Zd b t)/\(∀t:Rat,(β:Rat)*Zd y t=Zd u t*Zd a t+Zd v t*Zd b t)/\
  (∀t:Rat,Zd u' t*Zd v t-Zd u t*Zd v' t=(γ:Rat))/\(tzl v).length<=a.length-x.length+1/\(tzl v').length<=a.length-x.length+1
 xl:x.length<=b.length
 yl:y.length<x.length
theorem Zzf{L:Int}(g:Tr y)(e:y≠[])(j:z.length<=x.length)(h:∀t:Rat,(L:Rat)*Zd x t=Zd q t*Zd y t+(c:Rat)*Zd z t):tzl q=[]\/(tzl q).length+y.length<=x.length+1:=
 Zfu (w:=Ma (x.map λa=>L*a) (z.map λa=>(-c)*a)) (n:=x.length) (λt=>by rw [Xh,Zk,Zk];have:=h t;push_cast;grind) g e λi hi=>by rw [Mb,Qi,Qi,Yl hi,Yl (p:=z) O];omega
theorem Aq{n:Nat}(h:(tzl p).length<=m)(j:(tzl q).length<=n)(i:Nat)(hi:m+n<=i+1):cf (lmul p q) i=0:=by have g:cf (lmul p q) i=cf (lmul (tzl p) (tzl q)) i:=Oy (λx=>by rw [Zx,Zx,Ny,Ny]) i;rw [g,Ek];have e:=Zdz (U:=tzl p) (a:=tzl q) (p:=m) (t:=i) h O;rw [PS.mul_c]at e;exact e
def Zon{n:Nat}(h:∀i,n<=i->cf p i=0):(tzl p).length<=n:=Zbg h
theorem Ybb{n:Nat}(h:(tzl p).length<=n)(hi:n<=i):cf p i=0:=by rw [<-Ks];exact Yl O
theorem Inv.next{z':List Int}{L:Int}(W:Inv a b x y)(Z:b.length<=a.length)(hx:Tr x)(hy:Tr y)(V:y≠[])(Y:L≠0)(h:∀t:Rat,(L:Rat)*Zd x t=Zd q t*Zd y t+Zd z' t)(hz:Sim z' z)(l:z.length<y.length):Inv a b y z:=by
 obtain⟨⟨α,β,γ,u',I,u,v,hα,o,hγ,R,D,S,l1,l2⟩,xl,yl⟩:=W;obtain⟨m,n,hm,hn,hs⟩:=hz;have j:∀t:Rat,(m:Rat)*Zd z' t=(n:Rat)*Zd z t:=λt=>by
  have:=Om t (z'.map λa=>m*a) (z.map λa=>n*a) λi=>by rw [Qi,Qi,hs]
  rwa [Zk,Zk]at this
 have G:∀t:Rat,((L*m:Int):Rat)*Zd x t=Zd (q.map λa=>m*a) t*Zd y t+(n:Rat)*Zd z t:=λt=>by rw [Zk];push_cast;have:=h t;have:=j t;grind
 have e:=Zzf hy V O G;have g:(tzl (q.map λa=>m*a)).length<=x.length-y.length+1:=by
  rcases e with H|H
  .rw [H];simp
  .omega
 generalize hQ:(q.map λa=>m*a)=Q at *;have w:∀t:Rat,((n*(α*β):Int):Rat)*Zd z t=Zd (Ma (u'.map λc=>(L*m*β)*c) ((lmul Q u).map λc=>(-α)*c)) t*Zd a t+Zd (Ma (I.map λc=>(L*m*β)*c) ((lmul Q v).map λc=>(-α)*c)) t*Zd b t:=λt=>by rw [Xh,Xh,Zk,Zk,Zk,Zk,Zx,Zx];have M:=G t;have N:=R t;have P:=D t;push_cast at M ⊢;have:(n:Rat)*(α*β)*Zd z t=α*β*(n*Zd z t):=O4;rw [this,show(n:Rat)*Zd z t=L*m*Zd x t-Zd Q t*Zd y t by grind];have:(α:Rat)*β*(L*m*Zd x t-Zd Q t*Zd y t)=L*m*β*(α*Zd x t)-α*Zd Q t*(β*Zd y t):=O4;rw [this,N,P];grind
 refine⟨⟨β,n*(α*β),-(L*m*β*γ),u,v,_,_,o,Int.mul_ne_zero hn (Int.mul_ne_zero hα o),?_,D,w,λt=>?_,?_,?_⟩,O,l⟩
 .have:=Int.mul_ne_zero (Int.mul_ne_zero (Int.mul_ne_zero Y hm) o) hγ;omega
 .rw [Xh,Xh,Zk,Zk,Zk,Zk,Zx,Zx];have:=S t;push_cast;grind
 .refine Zon λi hi=>?_;rw [Mb,Qi,Qi,Ybb (p:=I) l2 O,Aq g l1 i O];omega
 .omega
theorem Inv.first{z':List Int}{L:Int}(H:b.length<=a.length)(S:Tr a)(I:Tr b)(D:b≠[])(G:L≠0)(h:∀t:Rat,(L:Rat)*Zd a t=Zd q t*Zd b t+Zd z' t)(P:Sim z' z)(l:z.length<b.length):Inv a b b z:=by
 obtain⟨m,n,M,N,hs⟩:=P;have j:∀t:Rat,(m:Rat)*Zd z' t=(n:Rat)*Zd z t:=λt=>by
  have:=Om t (z'.map λa=>m*a) (z.map λa=>n*a) λi=>by rw [Qi,Qi,hs]
  rwa [Zk,Zk]at this
 have o:∀t:Rat,((L*m:Int):Rat)*Zd a t=Zd (q.map λa=>m*a) t*Zd b t+(n:Rat)*Zd z t:=λt=>by rw [Zk];push_cast;have:=h t;have:=j t;grind
 have e:=Zzf I D O o;have g:(tzl (q.map λa=>m*a)).length<=a.length-b.length+1:=by
  rcases e with w|w
  .rw [w];simp
  .omega
 generalize R:(q.map λa=>m*a)=Q at *;refine⟨⟨1,n,-(L*m),[],[1],[L*m],Q.map λc=>(-1)*c,O2,N,?_,λt=>?_,λt=>?_,λt=>?_,?_,?_⟩,Nat.le_refl _,l⟩
 .have:=Int.mul_ne_zero G M;omega
 .rw [Pj];show _=(0:Rat)*_+_;grind
 .rw [Pj,Zk];have:=o t;push_cast at this ⊢;grind
 .rw [Pj,Pj];show(0:Rat)*_-_=_;push_cast;grind
 .refine Zon λi hi=>?_;rw [Qi,Ybb g O];omega
 .refine Nat.le_trans (Mx _) ?_;simp
def Zg8{n:Nat}(h:Sz n a)(i:Nat):(cf a i).natAbs<=2^n:=Nat.le_of_lt ((Qg n _).1 (h i))
theorem Aj(h:tzl p=[])(x:Rat):Zd p x=0:=by rw [<-Ny,h];rfl
def tzl_ne(h:cf p i≠0):tzl p≠[]:=λe=>h ((Lz p).1 e i)
def nn_eq{x a b:Nat}(e:x<=b)(g:b<=a):b-x+1+(a-x+1)=a+b-2*x+2:=O
theorem Inv.bound{n s:Nat}(hI:Inv a b x y)(a6:b.length<=a.length)(ha:Tr a)(hx:Tr x)(hy:Tr y)(h0:y≠[])(hp:Ym y=1)(na:Sz n a)(nb:Sz n b)(hs:a.length+b.length-2*x.length+2<=2^s) :
  Pa y<=(s+1+n)*(a.length+b.length-2*x.length+2):=by
 obtain⟨⟨α,β,γ,u',P,u,v,hα,hβ,hγ,e1,Q,e3,l1,l2⟩,xl,yl⟩:=hI;have b3:=List.length_pos_iff.2 h0;have b2:x≠[]:=λe=>by rw [e]at yl;simp at yl
 have M:a≠[]:=λe=>by
  have g:a.length=0:=by rw [e];rfl
  omega
 obtain⟨U,V,lU,lV,a9,bU,bV,hz⟩:=Zh9 (a:=a) (b:=b) (p:=b.length-x.length+1) (q:=a.length-x.length+1) (lo:=x.length-1) (A:=2^n) (Nat.pow_pos O2) (Zg8 na) (Zg8 nb) O O O;have hv:a.length+1<=(tzl v).length+x.length:=by
  refine Classical.byContradiction λg=>?_;have a8:∀i,cf (Ma (a.map λc=>γ*c) ((lmul y P).map λc=>β*c)) i=cf (lmul (tzl v) (x.map λc=>α*c)) i:=λi=>Oy (λt=>by
   rw [Xh,Zk,Zk,Zx,Zx,Zk,Ny];have Z:=e1 t;have H:=Q t;have a3:=e3 t;have:Zd v t*(α*Zd x t)=(Zd u' t*Zd v t-Zd u t*Zd P t)*Zd a t+(Zd u t*Zd a t+Zd v t*Zd b t)*Zd P t:=by rw [Z];grind
   rw [this,a3,<-H];grind) i
  have l:=a8 (a.length-1);rw [Mb,Qi,Qi,Aq (m:=y.length) (n:=a.length-x.length+1) (Mx _) l2 _ O,Ek]at l;have S:=Zdz (U:=tzl v) (a:=x.map λc=>α*c) (p:=(tzl v).length) (t:=a.length-1) (Nat.le_refl _) (by rw [List.length_map];omega);rw [PS.mul_c]at S;have h3:Ye (λk=>cf (tzl v) k*cf (x.map λc=>α*c) (a.length-1-k)) (a.length-1+1)=0:=S;rw [h3]at l;have:=Int.mul_ne_zero hγ (ha.mem M);omega
 have h:tzl v≠[]:=λe=>by rw [e]at hv;simp at hv;omega
 have cR:∀i,cf (Ma (lmul U a) (lmul V b)) i=(ps U*ps a).c i+(ps V*ps b).c i:=λi=>by rw [Mb,Ek,Ek,PS.mul_c,PS.mul_c];rfl
 generalize hR:Ma (lmul U a) (lmul V b)=R at cR;have rR:∀t,Zd R t=Zd U t*Zd a t+Zd V t*Zd b t:=λt=>by rw [<-hR,Xh,Zx,Zx]
 have lR:(tzl R).length<=x.length-1:=Zon λi hi=>by rw [cR];exact hz i hi
 have hf:tzl (Ma (lmul U v) ((lmul u V).map λc=>(-1)*c))=[]:=by
  rcases Zfu (w:=Ma (lmul R v) ((lmul y V).map λc=>(-β)*c)) (q:=Ma (lmul U v) ((lmul u V).map λc=>(-1)*c)) (y:=a) (n:=a.length-1) (λt=>by
   rw [Xh,Zk,Zx,Zx,Xh,Zk,Zx,Zx,rR];have H:=Q t;push_cast;have:(-(β:Rat))*(Zd y t*Zd V t)=- (β*Zd y t)*Zd V t:=O4;rw [this,H];grind) ha M (λi hi=>by
   rw [Mb,Qi,Aq lR l1 i O,Aq (m:=y.length) (n:=a.length-x.length+1) (Mx _) (Nat.le_trans (Mx _) (Nat.le_of_eq lV)) i O];omega)with g|g
  .exact g
  .refine Classical.byContradiction λh8=>?_;have:=List.length_pos_iff.2 h8;omega
 have G:∀t,Zd U t*Zd v t=Zd u t*Zd V t:=λt=>by have:=Aj hf t;rw [Xh,Zk,Zx,Zx]at this;push_cast at this;grind
 have a4:∀t,Zd R t*Zd v t=β*Zd y t*Zd V t:=λt=>by rw [rR,Q t];have:=G t;grind
 have Y:∀t,(γ:Rat)*Zd V t=Zd v t*Zd (Ma (lmul u' V) ((lmul P U).map λc=>(-1)*c)) t:=λt=>by rw [Xh,Zk,Zx,Zx,<-e3 t];have:=G t;push_cast;grind
 generalize Ma (lmul u' V) ((lmul P U).map λc=>(-1)*c)=w at Y;have hV:tzl V≠[]:=λe=>by
  rcases a9 with⟨i,hi⟩|⟨i,hi⟩
  .refine hi (Oy (p:=U) (q:=[]) (λt=>?_) i▸Zbz i);exact Ea (v:=v) (f:=U) h (λt=>by have:=G t;rw [Aj e]at this;grind) t
  .exact tzl_ne hi e
 have b1:∃c:Int,c≠0/\∀t,Zd w t=(c:Rat):=by
  have j:tzl w≠[]:=λe=>hV ((Lz V).2 λi=>by have:=Oy (p:=V.map λc=>γ*c) (q:=[]) (λt=>by rw [Zk,Y t,Aj e];show _=(0:Rat);grind) i;rw [Qi,Zbz]at this;exact(Int.mul_eq_zero.1 this).resolve_left hγ)
  rcases Zfu (w:=V.map λc=>γ*c) (q:=w) (y:=tzl v) (n:=a.length-x.length+1) (λt=>by rw [Zk,Ny,Y t];grind) (Qc v) h (λi hi=>by rw [Qi,Yl O];omega)with g|g
  .exact absurd g j
  .have h8:=List.length_pos_iff.2 j;have h7:(tzl w).length=1:=O
   match W:tzl w,h7 with
   | [c],_=>
    refine⟨c,?_,λt=>by rw [<-Ny,W,Pj]⟩;have:=(Qc w).mem j;rw [W]at this;exact this
 obtain⟨c,a7,W⟩:=b1;have o:Sim R y:=by
  refine⟨γ,β*c,hγ,Int.mul_ne_zero hβ a7,λi=>?_⟩;have:=Oy (p:=R.map λd=>γ*d) (q:=y.map λd=>(β*c)*d) (λt=>by
   rw [Zk,Zk];push_cast;have l:Zd (Ma (R.map λd=>γ*d) (y.map λd=>(-(β*c))*d)) t=0:=Ea (v:=v) h (λt=>by rw [Xh,Zk,Zk];push_cast;have Z:=a4 t;have H:=Y t;rw [W]at H;have:Zd v t*(γ*Zd R t + -(β*c:Rat)*Zd y t)=γ*(Zd R t*Zd v t)-β*Zd y t*(Zd v t*c):=O4;rw [this,Z,<-H];grind) t
   rw [Xh,Zk,Zk]at l;push_cast at l;grind) i
  rwa [Qi,Qi]at this
 have b0:Sz ((s+1+n)*(a.length+b.length-2*x.length+2)) R:=λi=>by
  rw [cR];have c1:=Yaz (t:=i) lU bU (Zg8 na);have c2:=Yaz (t:=i) lV bV (Zg8 nb);have a0:b.length-x.length+1+(a.length-x.length+1)=a.length+b.length-2*x.length+2:=nn_eq xl a6;rw [<-a0]at hs ⊢;generalize hN:b.length-x.length+1+(a.length-x.length+1)=N at *;generalize I:(2*N*2^n)^(N-1)=X at *;have c3:((ps U*ps a).c i+(ps V*ps b).c i).natAbs<=N*(X*2^n):=by rw [<-hN,Nat.add_mul];have:=Int.natAbs_add_le ((ps U*ps a).c i) ((ps V*ps b).c i);omega
  refine(Qg _ _).2 (Nat.lt_of_le_of_lt c3 ?_);have a5:0<X:=by rw [<-I];exact Nat.pow_pos (Nat.mul_pos O (Nat.pow_pos O2))
  have c4:N*(X*2^n)<(2*N*2^n)^N:=by
   have e:(2*N*2^n)^N=X*(2*N*2^n):=by rw [<-I,<-Nat.pow_succ,Nat.succ_eq_add_one,show N-1+1=N by omega]
   rw [e];have:0<N*(X*2^n):=Nat.mul_pos O (Nat.mul_pos a5 (Nat.pow_pos O2));have Q:X*(2*N*2^n)=2*(N*(X*2^n)):=O4;omega
  have c5:2*N*2^n<=2^(s+1+n):=by rw [Nat.pow_add,Nat.pow_succ];exact Nat.mul_le_mul_right _ O
  have c6:=Nat.pow_le_pow_left c5 N;rw [<-Nat.pow_mul]at c6;exact Nat.lt_of_lt_of_le c4 c6
 have l:tzl R≠[]:=λe=>by obtain⟨m,k,hm,hk,e9⟩:=o;have:=e9 (y.length-1);rw [(Lz R).1 e,Int.mul_zero]at this;exact Int.mul_ne_zero hk (hy.mem h0) this.symm
 have D:Sim (tzl R) y:=by obtain⟨m,k,hm,hk,e9⟩:=o;exact⟨m,k,hm,hk,λi=>by rw [Ks];exact e9 i⟩
 have S:=(Qu (Qc R)).trans D;have h3:∀i,(cf y i).natAbs=(cf (Zz (tzl R)) i).natAbs:=λi=>by
  rcases Zkd (Xb (Qc R)) hy (λe=>l (List.eq_nil_of_length_eq_zero (by rw [<-Ya,e];rfl))) (Kd (Qc R) l) hp S with g|g
  .rw [g]
  .rw [g i,Int.natAbs_neg]
 exact Pr λi=>by rw [h3];exact Fs b0.tzl i
def Zty(g e K:Nat):Prop:=∀l,l<=e->(l+1)*(K*(g+e-2*l+2)+1)<=65536
def Zvn{e g l:Nat}(h:l<=m):K*(e+g-2*m+2)<=K*(e+g-2*l+2):=Nat.mul_le_mul_left _ O
theorem Zgn{C:Nat}(e:y≠[])(n:y.length<x.length)(g:Pa x<=C)(j:Pa y<=C)(h:(x.length+1)*(C+1)<=65536):Cy x y=0:=by have o:=List.length_pos_iff.2 e;unfold Cy;rw [if_neg O,if_neg O];have l:(x.length-y.length+1)*(Pa y+1)<=x.length*(C+1):=Nat.mul_le_mul O O;rw [Nat.add_mul,Nat.one_mul]at h;rw [if_neg O]
theorem Yc5(n:Inv a b x y)(g:b.length<=a.length)(j:Tr x)(l:Tr y)(e:y≠[]):Inv a b y (Zz (Qp x y)):=by
 obtain⟨k,s,hs⟩:=Zas x e;have h:=Kq (l.mem e) k;generalize cf y (y.length-1)^k=L at hs h;have o:∀t:Rat,(L:Rat)*Zd x t=Zd s t*Zd y t+Zd (Qp x y) t:=λt=>by have:=Dn (a:=L) (c:=-1) (x:=x) (s:=s) (y:=y) (z:=Qp x y) (λt=>by rw [hs t];omega) t;push_cast at this;grind
 exact n.next g j l e h o (Qu (Ix j)).symm (by rw [Ya];exact Oa x e)
theorem Zfy(h:Tr p):Zz p=[]\/Ym (Zz p)=1:=by
 by_cases e:p=[]
 .left;rw [e];rfl
 .right;exact Kd h e
theorem Cu(g:Tr x)(e:y≠[]):(Nn x y).length<y.length:=by rw [Zbu g];exact Oa x e
theorem Yc4(n:Inv a b x y)(l:b.length<=a.length)(h:Tr x)(j:Tr y)(e:y≠[]):Inv a b y (Nn x y)/\(Nn x y=[]\/Ym (Nn x y)=1):=by
 have G:=List.length_pos_iff.2 e;have D:=n.yl;obtain⟨r1,r2,k,u,w⟩:=Zfp j e x.length x h O;have hs:=Zhb (f:=x.length) h j e O O;have g:Tr (Zes (Zaq x.length x y)):=Qk _ _;have o:Zbp y^k≠0:=Kq (by have:=Zft j e;omega) _;constructor
 .refine n.next (z':=Zaq x.length x y) (q:=u) l h j e o (λt=>?_) ?_ (Cu h e)
  .have:=Dn (a:=Zbp y^k) (c:=-1) (x:=x) (s:=u) (y:=y) (z:=Zaq x.length x y) (λt=>by rw [w t];omega) t;push_cast at this ⊢;grind
  .rw [<-hs];exact Sim.trans ⟨1,-1,O2,O2,λi=>by rw [Dt];omega⟩ (Qu g).symm
 .rw [<-hs];exact Zfy g
theorem Yai{a b:List Int}{n s K:Nat}(h:b.length<=a.length)(M:Tr a)(R:Sz n a)(S:Sz n b)(hs:a.length+b.length<=2^s)(H:s+1+n<=K)(I:Zty a.length b.length K) :
  ∀(f:Nat) (x y:List Int),Inv a b x y->Tr x->Tr y->(y=[]\/Ym y=1)->Pa x<=K*(a.length+b.length-2*x.length+2)->y.length<=f->eok f x y/\Pa (eu f x y)<=K*(a.length+b.length)
 | 0,x,y,g,w,D,N,o,Y=>by have l:=g.yl;refine⟨List.eq_nil_of_length_eq_zero O,Nat.le_trans o (Nat.mul_le_mul_left _ (by have:=g.xl;omega))⟩
 | f+1,x,y,g,w,D,N,o,Y=>by
  have G:=g.yl;have l:=g.xl;by_cases e:y=[]
  .subst e;refine⟨.inl rfl,?_⟩;rw [Zht];exact Nat.le_trans o (Nat.mul_le_mul_left _ O)
  .have Z:=List.length_pos_iff.2 e;have V:=g.bound h M w D e (N.resolve_left e) R S (s:=s) O;have j:Pa y<=K*(a.length+b.length-2*x.length+2):=Nat.le_trans V (Nat.mul_le_mul_right _ H);have W:=Zgn e G o j (I x.length l);have P:=Ix (q:=y) w;have Q:=Yai h M R S hs H I f y (Zz (Qp x y)) (Yc5 g h w D e) D (Xb P) (Zfy P) (Nat.le_trans j (Zvn O)) (by rw [Ya];have:=Oa x e;omega);refine⟨.inr ⟨W,Q.1⟩,?_⟩;rw [show eu (f+1) x y=eu f y (Zz (Qp x y)) by
     conv=>lhs;unfold eu
     rw [if_neg e]]
   exact Q.2
theorem Ya2{a b:List Int}{n s K:Nat}(j:b.length<=a.length)(N:Tr a)(R:Sz n a)(S:Sz n b)(hs:a.length+b.length<=2^s)(I:s+1+n<=K)(M:Zty a.length b.length K) :
  ∀(f:Nat) (x y:List Int),Inv a b x y->Tr x->Tr y->(y=[]\/Ym y=1)->Pa x<=K*(a.length+b.length-2*x.length+2)->y.length<=f->cok f x y/\∀p∈Mz f x y,Pa p<=K*(a.length+b.length)/\p.length<=a.length
 | 0,x,y,h,w,G,e,o,Y=>by
  have D:=h.yl;have P:=h.xl;have g:y=[]:=List.eq_nil_of_length_eq_zero O;refine⟨g,λp e=>?_⟩;have:p=x:=by unfold Mz at e;simpa using e
  rw [this];exact⟨Nat.le_trans o (Nat.mul_le_mul_left _ O),O⟩
 | f+1,x,y,h,w,G,e,o,Y=>by
  have H:=h.yl;have D:=h.xl;by_cases g:y=[]
  .subst g;refine⟨.inl rfl,λp e=>?_⟩;rw [Bo]at e;have:p=x:=by simpa using e
   rw [this];exact⟨Nat.le_trans o (Nat.mul_le_mul_left _ O),O⟩
  .have l0:=List.length_pos_iff.2 g;have V:=h.bound j N w G g (e.resolve_left g) R S (s:=s) O;have l:Pa y<=K*(a.length+b.length-2*x.length+2):=Nat.le_trans V (Nat.mul_le_mul_right _ I);have W:=Zgn g H o l (M x.length D);obtain⟨Z,i2⟩:=Yc4 h j w G g;have Q:=Ya2 j N R S hs I M f y (Nn x y) Z G (Zce w) i2 (Nat.le_trans l (Zvn O)) (by have:=Cu w g;omega);refine⟨.inr ⟨W,O,Q.1⟩,λp e=>?_⟩;unfold Mz at e;rw [if_neg g]at e;rcases List.mem_cons.1 e with rfl|e
   .exact⟨Nat.le_trans o (Nat.mul_le_mul_left _ O),O⟩
   .exact Q.2 p e
theorem Yof{n s:Nat}(j:b.length<a.length)(h:Tr a)(l:Tr b)(H:Sz n a)(I:Sz n b)(hs:a.length+b.length<=2^s)(N:s+1+n<=K)(Q:Zty a.length b.length K)(R:(a.length+1)*(n+1)<=65536)(Y:b.length<=f) :
  eok f a b/\Pa (eu f a b)<=K*(a.length+b.length):=by
 have V:=Pr H;have W:=Pr I;have la:0<a.length:=O;have P:n<=K*(a.length+b.length):=Nat.le_trans (by omega:n<=K*1) (Nat.mul_le_mul_left _ O);by_cases e:b=[]
 .subst e;cases f with
  | zero=>exact⟨rfl,by rw [Zht];omega⟩
  | succ f=>exact⟨.inl rfl,by rw [Zht];omega⟩
 .have Z:=List.length_pos_iff.2 e;obtain⟨g,rfl⟩:∃g,f=g+1:=⟨f-1,O⟩;have o:=Ix (q:=b) h;obtain⟨k,q,D⟩:=Zas a e;have w:=Kq (l.mem e) k;generalize cf b (b.length-1)^k=L at D w;have S:∀t:Rat,(L:Rat)*Zd a t=Zd q t*Zd b t+Zd (Qp a b) t:=λt=>by have:=Dn (a:=L) (c:=-1) (x:=a) (s:=q) (y:=b) (z:=Qp a b) (λt=>by rw [D t];omega) t;push_cast at this;grind
  have M:Inv a b b (Zz (Qp a b)):=Inv.first O h l e w S (Qu o).symm (by rw [Ya];exact Oa a e);have G:=Yai O h H I hs N Q g b (Zz (Qp a b)) M l (Xb o) (Zfy o) (Nat.le_trans (by omega:Pa b<=K*1) (Nat.mul_le_mul_left _ O)) (by rw [Ya];have:=Oa a e;omega);refine⟨.inr ⟨Zgn e j V W R,G.1⟩,?_⟩;rw [show eu (g+1) a b=eu g b (Zz (Qp a b)) by
    conv=>lhs;unfold eu
    rw [if_neg e]]
  exact G.2
theorem Yoy{n s:Nat}(H:b.length<a.length)(l:Tr a)(o:Tr b)(M:Sz n a)(N:Sz n b)(hs:a.length+b.length<=2^s)(Q:s+1+n<=K)(S:Zty a.length b.length K)(V:(a.length+1)*(n+1)<=65536)(hf:b.length<=f) :
  cok f a b/\∀p∈Mz f a b,Pa p<=K*(a.length+b.length)/\p.length<=a.length:=by
 have Y:=Pr M;have Z:=Pr N;have la:0<a.length:=O;have R:n<=K*(a.length+b.length):=Nat.le_trans (by omega:n<=K*1) (Nat.mul_le_mul_left _ O);by_cases e:b=[]
 .subst e;have j:∀p∈Mz f a [],Pa p<=K*(a.length+([]:List Int).length)/\p.length<=a.length:=λp h=>by
   rw [Bo]at h;have:p=a:=by simpa using h
   rw [this];exact⟨O,Nat.le_refl _⟩
  cases f with
  | zero=>exact⟨rfl,j⟩
  | succ f=>exact⟨.inl rfl,j⟩
 .have l0:=List.length_pos_iff.2 e;obtain⟨g,rfl⟩:∃g,f=g+1:=⟨f-1,O⟩;obtain⟨r1,r2,k,u,W⟩:=Zfp o e a.length a l O;have w:=Zhb (f:=a.length) l o e O O;have D:Tr (Zes (Zaq a.length a b)):=Qk _ _;have G:Zbp b^k≠0:=Kq (by have:=Zft o e;omega) _;have P:Inv a b b (Nn a b):=by
   refine Inv.first (z':=Zaq a.length a b) (q:=u) O l o e G (λt=>?_) ?_ (Cu l e)
   .have:=Dn (a:=Zbp b^k) (c:=-1) (x:=a) (s:=u) (y:=b) (z:=Zaq a.length a b) (λt=>by rw [W t];omega) t;push_cast at this ⊢;grind
   .rw [<-w];exact Sim.trans ⟨1,-1,O2,O2,λi=>by rw [Dt];omega⟩ (Qu D).symm
  have h:Nn a b=[]\/Ym (Nn a b)=1:=by rw [<-w];exact Zfy D
  have I:=Ya2 O l M N hs Q S g b (Nn a b) P o (Zce l) h (Nat.le_trans (by omega:Pa b<=K*1) (Nat.mul_le_mul_left _ O)) (by have:=Cu l e;omega);refine⟨.inr ⟨Zgn e H Y Z V,O,I.1⟩,λp h=>?_⟩;unfold Mz at h;rw [if_neg e]at h;rcases List.mem_cons.1 h with rfl|h
  .exact⟨O,Nat.le_refl _⟩
  .exact I.2 p h
def al:List Int->List Int->List Int
 | [],g=>g
 | a::f,[]=>a::f
 | a::f,b::g=>(a+b)::al f g
def Ad(c:Int)(f:List Int):List Int:=f.map (c*·)
def ddl(k:Nat):List Int->List Int
 | []=>[]
 | b::g=>(k:Int)*b::ddl (k+1) g
def dl(f:List Int):List Int:=ddl 1 f.tail
def xl:List Int->List Int
 | []=>[]
 | a::f=>0::a::f
def fc:Nat->Int
 | 0=>1
 | k+1=>((k:Int)+1)*fc k
def Gc:Nat->List Int->List Int->Int
 | k,a::f,b::g=>fc k*(a*b)+Gc (k+1) f g
 | _,_,_=>0
theorem Zlt(k:Nat)(f:List Int):Gc k f []=0:=by cases f<;>rfl
theorem Yky(f:List Int):al f []=f:=by cases f<;>rfl
theorem Ybp:∀f g:List Int,al f g=al g f
 | [],g=>(Yky g).symm
 | a::f,[]=>rfl
 | a::f,b::g=>by show(a+b)::al f g=(b+a)::al g f;rw [Ybp f g,Int.add_comm]
theorem Zvu:∀f g h:List Int,al (al f g) h=al f (al g h)
 | [],g,h=>rfl
 | a::f,[],h=>rfl
 | a::f,b::g,[]=>rfl
 | a::f,b::g,c::h=>by show(a+b+c)::al (al f g) h=(a+(b+c))::al f (al g h);rw [Zvu f g h,Int.add_assoc]
instance:Std.Commutative al:=⟨Ybp⟩
instance:Std.Associative al:=⟨Zvu⟩
theorem Yfm(c:Int):∀f g,Ad c (al f g)=al (Ad c f) (Ad c g)
 | [],g=>rfl
 | a::f,[]=>rfl
 | a::f,b::g=>by show c*(a+b)::Ad c (al f g)=(c*a+c*b)::al (Ad c f) (Ad c g);rw [Yfm c f g,Int.mul_add]
theorem Zyz(c d:Int):∀f,Ad (c+d) f=al (Ad c f) (Ad d f)
 | []=>rfl
 | a::f=>by show(c+d)*a::Ad (c+d) f=(c*a+d*a)::al (Ad c f) (Ad d f);rw [Zyz c d f,Int.add_mul]
theorem Zi9:∀f,Ad 1 f=f
 | []=>rfl
 | a::f=>by show 1*a::Ad 1 f=a::f;rw [Zi9 f,Int.one_mul]
theorem Yjh:∀k f g,ddl k (al f g)=al (ddl k f) (ddl k g)
 | k,[],g=>rfl
 | k,a::f,[]=>rfl
 | k,a::f,b::g=>by show(k:Int)*(a+b)::ddl (k+1) (al f g)=((k:Int)*a+(k:Int)*b)::al (ddl (k+1) f) (ddl (k+1) g);rw [Yjh (k+1) f g,Int.mul_add]
theorem Yar(c:Int):∀k f,ddl k (Ad c f)=Ad c (ddl k f)
 | k,[]=>rfl
 | k,a::f=>by show(k:Int)*(c*a)::ddl (k+1) (Ad c f)=c*((k:Int)*a)::Ad c (ddl (k+1) f);rw [Yar c (k+1) f,Int.mul_left_comm]
theorem Zu4:∀k f,ddl (k+1) f=al f (ddl k f)
 | k,[]=>rfl
 | k,a::f=>by show((k+1:Nat):Int)*a::ddl (k+1+1) f=(a+(k:Int)*a)::al f (ddl (k+1) f);rw [Zu4 (k+1) f];congr 1;push_cast;grind
def dl_al:∀f g,dl (al f g)=al (dl f) (dl g)
 | [],g=>rfl
 | a::f,[]=>(Yky _).symm
 | a::f,b::g=>Yjh 1 f g
def dl_scl(c:Int):∀f,dl (Ad c f)=Ad c (dl f)
 | []=>rfl
 | a::f=>Yar c 1 f
theorem dl_x:∀f,dl (xl f)=al f (xl (dl f))
 | []=>rfl
 | [a]=>by show(((1:Nat):Int)*a::[])=[a];rw [show((1:Nat):Int)=1 from rfl,Int.one_mul]
 | a::b::f=>by show((1:Nat):Int)*a::ddl (1+1) (b::f)=(a+0)::al (b::f) (ddl 1 (b::f));rw [Zu4 1 (b::f),show((1:Nat):Int)=1 from rfl,Int.one_mul,Int.add_zero]
def xl_al:∀f g,xl (al f g)=al (xl f) (xl g)
 | [],g=>rfl
 | a::f,[]=>rfl
 | a::f,b::g=>rfl
theorem xl_scl(c:Int):∀f,xl (Ad c f)=Ad c (xl f)
 | []=>rfl
 | a::f=>by show 0::c*a::Ad c f=c*0::c*a::Ad c f;rw [Int.mul_zero]
theorem Ee:∀k f g,Gc k f g=Gc k g f
 | k,[],g=>(Zlt k g).symm
 | k,a::f,[]=>rfl
 | k,a::f,b::g=>by show fc k*(a*b)+Gc (k+1) f g=fc k*(b*a)+Gc (k+1) g f;rw [Ee (k+1) f g,Int.mul_comm a b]
theorem Zlw:∀k f g h,Gc k (al f g) h=Gc k f h+Gc k g h
 | k,[],g,h=>by show Gc k g h=0+Gc k g h;rw [Int.zero_add]
 | k,a::f,[],h=>(Int.add_zero _).symm
 | k,a::f,b::g,[]=>rfl
 | k,a::f,b::g,c::h=>by show fc k*((a+b)*c)+Gc (k+1) (al f g) h=fc k*(a*c)+Gc (k+1) f h+(fc k*(b*c)+Gc (k+1) g h);rw [Zlw (k+1) f g h];grind
theorem Zlv(k:Nat)(h f g:List Int):Gc k h (al f g)=Gc k h f+Gc k h g:=by rw [Ee,Zlw,Ee k f,Ee k g]
theorem Zge(c:Int):∀k f g,Gc k (Ad c f) g=c*Gc k f g
 | k,[],g=>(Int.mul_zero c).symm
 | k,a::f,[]=>(Int.mul_zero c).symm
 | k,a::f,b::g=>by show fc k*(c*a*b)+Gc (k+1) (Ad c f) g=c*(fc k*(a*b)+Gc (k+1) f g);rw [Zge c (k+1) f g];grind
theorem Zqp(c:Int)(k:Nat)(f g:List Int):Gc k f (Ad c g)=c*Gc k f g:=by rw [Ee,Zge,Ee]
theorem Yip:∀k f g,Gc (k+1) f g=Gc k f (ddl (k+1) g)
 | k,[],g=>rfl
 | k,a::f,[]=>rfl
 | k,a::f,b::g=>by show((k:Int)+1)*fc k*(a*b)+Gc (k+1+1) f g=fc k*(a*(((k+1:Nat):Int)*b))+Gc (k+1) f (ddl (k+1+1) g);rw [Yip (k+1) f g];push_cast;grind
theorem fip_x:∀f g,Gc 0 (xl f) g=Gc 0 f (dl g)
 | [],g=>rfl
 | a::f,[]=>rfl
 | a::f,b::g=>by show fc 0*(0*b)+Gc 1 (a::f) g=Gc 0 (a::f) (ddl 1 g);rw [Int.zero_mul,Int.mul_zero,Int.zero_add];exact Yip 0 (a::f) g
theorem Yim(f g:List Int):Gc 0 f (xl g)=Gc 0 (dl f) g:=by rw [Ee,fip_x,Ee]
def Mq:List Int->Nat->List Int->List Int
 | [],_,_=>[]
 | c::q,0,g=>al (Ad c g) (xl (Mq q 0 g))
 | c::q,j+1,g=>al (xl (Mq q (j+1) g)) (Mq q j g)
def Hq:List Int->Nat->List Int->List Int
 | [],_,_=>[]
 | c::p,0,f=>al (Ad c f) (Hq p 0 (dl f))
 | c::p,k+1,f=>al (Hq p (k+1) (dl f)) (Hq p k f)
theorem Yap:∀q j g,dl (Mq q j g)=al (Mq q j (dl g)) (Ad ((j:Int)+1) (Mq q (j+1) g))
 | [],j,g=>rfl
 | c::q,0,g=>by
  show dl (al (Ad c g) (xl (Mq q 0 g)))=al (al (Ad c (dl g)) (xl (Mq q 0 (dl g)))) (Ad (((0:Nat):Int)+1) (al (xl (Mq q (0+1) g)) (Mq q 0 g)));rw [dl_al,dl_scl,dl_x,Yap q 0 g,xl_al];rw [show((0:Nat):Int)+1=1 from rfl,Zi9,Zi9]
  ac_rfl
 | c::q,j+1,g=>by
  show dl (al (xl (Mq q (j+1) g)) (Mq q j g))=al (al (xl (Mq q (j+1) (dl g))) (Mq q j (dl g))) (Ad (((j+1:Nat):Int)+1) (al (xl (Mq q (j+1+1) g)) (Mq q (j+1) g)));rw [dl_al,dl_x,Yap q (j+1) g,Yap q j g,xl_al,xl_scl,Yfm];rw [show Ad (((j+1:Nat):Int)+1) (Mq q (j+1) g)=al (Ad ((j:Int)+1) (Mq q (j+1) g)) (Mq q (j+1) g) by rw [Zyz,Zi9];rfl]
  ac_rfl
theorem Zjm:∀q j f g,Gc 0 f (Mq q j g)=Gc 0 (Hq q j f) g
 | [],j,f,g=>Zlt 0 f
 | c::q,0,f,g=>by show Gc 0 f (al (Ad c g) (xl (Mq q 0 g)))=Gc 0 (al (Ad c f) (Hq q 0 (dl f))) g;rw [Zlv,Zlw,Zqp,Zge,Yim,Zjm q 0 (dl f) g]
 | c::q,j+1,f,g=>by show Gc 0 f (al (xl (Mq q (j+1) g)) (Mq q j g))=Gc 0 (al (Hq q (j+1) (dl f)) (Hq q j f)) g;rw [Zlv,Zlw,Yim,Zjm q (j+1) (dl f) g,Zjm q j f g]
def wfa:Nat->Nat->Int
 | j,0=>1
 | j,k+1=>((j:Int)+1)*wfa (j+1) k
theorem Zol:∀k j,0<wfa j k
 | 0,j=>by show(0:Int)<1;decide
 | k+1,j=>Int.mul_pos O (Zol k (j+1))
theorem Zlu:∀(p q:List Int) (j:Nat) (f g:List Int) (K:Nat),p.length<=K->Gc 0 (Mq p 0 f) (Mq q j g)=Ye (λk=>wfa j k*Gc 0 (Hq q (j+k) f) (Hq p k g)) K
 | [],q,j,f,g,K,_=>by rw [Gd (λk n=>by show wfa j k*Gc 0 (Hq q (j+k) f) []=0;rw [Zlt,Int.mul_zero])];rfl
 | c::p,q,j,f,g,K,hK=>by
  obtain⟨e,rfl⟩:∃e,K=e+1:=⟨K-1,by simp at hK;omega⟩;have o:p.length<=e:=by simpa using hK
  have w:=Zlu p q j f (dl g) (e+1) O;have D:=Zlu p q (j+1) f g e o;show Gc 0 (al (Ad c f) (xl (Mq p 0 f))) (Mq q j g)=_;rw [Zlw,Zge,fip_x,Yap,Zlv,Zqp,w,D,Zjm];rw [Me,Me (λk=>wfa j k*Gc 0 (Hq q (j+k) f) (Hq (c::p) k g))];have h:Gc 0 (Hq q (j+0) f) (Hq (c::p) 0 g)=c*Gc 0 (Hq q j f) g+Gc 0 (Hq q j f) (Hq p 0 (dl g)):=by show Gc 0 (Hq q j f) (al (Ad c g) (Hq p 0 (dl g)))=_;rw [Zlv,Zqp]
  have l:Ye (λk=>wfa j (k+1)*Gc 0 (Hq q (j+(k+1)) f) (Hq (c::p) (k+1) g)) e=Ye (λk=>wfa j (k+1)*Gc 0 (Hq q (j+(k+1)) f) (Hq p (k+1) (dl g))) e+((j:Int)+1)*Ye (λk=>wfa (j+1) k*Gc 0 (Hq q (j+1+k) f) (Hq p k g)) e:=by rw [<-Mr,<-Ff];refine Yy λk n=>?_;show _*Gc 0 _ (al (Hq p (k+1) (dl g)) (Hq p k g))=_;rw [Zlv,show j+1+k=j+(k+1) by omega];show((j:Int)+1)*wfa (j+1) k*_=((j:Int)+1)*wfa (j+1) k*_+_;grind
  rw [h,l];show _=(1:Int)*_+_;show _*_+((1:Int)*_+_+_)=_;rw [show j+0=j from rfl];grind
theorem Zor(a:Int):0<=a*a:=by
 rcases Int.le_total 0 a with h|h
 .exact Int.mul_nonneg h h
 .have:=Int.mul_nonneg (show 0<=-a by omega) (show 0<=-a by omega);rwa [Int.neg_mul_neg]at this
theorem Zhs:∀k,1<=fc k
 | 0=>by show(1:Int)<=1;decide
 | k+1=>by have h:=Zhs k;show 1<=((k:Int)+1)*fc k;have e:=Int.mul_le_mul (show(1:Int)<=(k:Int)+1 by omega) h O2 O;omega
theorem Yiq(k:Nat)(f:List Int)(b:Int)(g:List Int):Gc k f (b::g)=fc k*(cf f 0*b)+Gc (k+1) f.tail g:=by
 cases f with
 | nil=>show(0:Int)=fc k*(0*b)+Gc (k+1) [] g;rw [Int.zero_mul,Int.mul_zero];rfl
 | cons a f=>rfl
theorem Yj9(f:List Int)(i:Nat):cf f.tail i=cf f (i+1):=by cases f<;>rfl
theorem Zqr:∀k (f e g:List Int),(∀i,cf f i=cf e i)->Gc k f g=Gc k e g
 | k,f,e,[],h=>by rw [Zlt,Zlt]
 | k,f,e,b::g,h=>by rw [Yiq,Yiq,h 0,Zqr (k+1) f.tail e.tail g λi=>by rw [Yj9,Yj9,h]]
theorem Zqq:∀k f,0<=Gc k f f
 | k,[]=>Int.le_refl _
 | k,a::f=>by show 0<=fc k*(a*a)+Gc (k+1) f f;have e:=Zqq (k+1) f;have g:=Int.mul_nonneg (show 0<=fc k by have:=Zhs k;omega) (Zor a);omega
theorem Yio:∀k f i,cf f i*cf f i<=Gc k f f
 | k,[],i=>by rw [Yl O7];exact Int.le_refl _
 | k,a::f,0=>by show a*a<=fc k*(a*a)+Gc (k+1) f f;have e:=Zqq (k+1) f;have g:=Int.mul_le_mul_of_nonneg_right (Zhs k) (Zor a);omega
 | k,a::f,i+1=>by show cf f i*cf f i<=fc k*(a*a)+Gc (k+1) f f;have e:=Yio (k+1) f i;have g:=Int.mul_nonneg (show 0<=fc k by have:=Zhs k;omega) (Zor a);omega
def fcs:Nat->Nat->Int
 | k,0=>0
 | k,n+1=>fc k+fcs (k+1) n
theorem Yiv:∀n k,0<=fcs k n
 | 0,k=>Int.le_refl _
 | n+1,k=>by have h:=Yiv n (k+1);have:=Zhs k;show 0<=fc k+fcs (k+1) n;omega
theorem Yin:∀n k (f:List Int) (A:Int),f.length<=n->(∀x∈f,x*x<=A)->0<=A->Gc k f f<=fcs k n*A
 | n,k,[],A,_,_,e=>Int.mul_nonneg (Yiv n k) e
 | 0,k,a::f,A,h,_,_=>by simp at h
 | n+1,k,a::f,A,h,hx,e=>by have j:=Yin n (k+1) f A (by simpa using h) (λx g=>hx x (List.mem_cons_of_mem _ g)) e;have l:=Int.mul_le_mul_of_nonneg_left (hx a (List.mem_cons_self ..)) (show 0<=fc k by have:=Zhs k;omega);show fc k*(a*a)+Gc (k+1) f f<=(fc k+fcs (k+1) n)*A;rw [Int.add_mul];omega
theorem Zx8:∀p k f,p.length<=k->Hq p k f=[]
 | [],k,f,_=>by cases k<;>rfl
 | c::p,0,f,h=>by simp at h
 | c::p,k+1,f,h=>by
  show al (Hq p (k+1) (dl f)) (Hq p k f)=[];have e:p.length<=k:=by simpa using h
  rw [Zx8 p (k+1) _ O,Zx8 p k _ e];rfl
theorem Yk7:∀p k f,p.length=k+1->Hq p k f=Ad (cf p k) f
 | [],k,f,h=>by simp at h
 | [c],0,f,h=>Yky _
 | c::d::p,0,f,h=>by simp at h
 | c::p,k+1,f,h=>by
  have e:p.length=k+1:=by simpa using h
  show al (Hq p (k+1) (dl f)) (Hq p k f)=Ad (cf p k) f;rw [Zx8 p (k+1) _ O,Yk7 p k f e];rfl
theorem Ykf:∀f g i,cf (al f g) i=cf f i+cf g i
 | [],g,i=>by rw [Yl (p:=[]) O7,Int.zero_add];rfl
 | a::f,[],i=>by rw [Yl (p:=[]) O7,Int.add_zero];rfl
 | a::f,b::g,0=>rfl
 | a::f,b::g,i+1=>Ykf f g i
def Ykc(c:Int)(f:List Int)(i:Nat):cf (Ad c f) i=c*cf f i:=Zc3 f (c*·) (Int.mul_zero c) i
theorem cf_xl0(f:List Int):cf (xl f) 0=0:=by cases f<;>rfl
theorem cf_xl(f:List Int)(i:Nat):cf (xl f) (i+1)=cf f i:=by cases f<;>rfl
theorem cf_Mq:∀p f i,cf (Mq p 0 f) i=(ps p*ps f).c i
 | [],f,i=>by rw [PS.mul_c,Gd (λk _=>by rw [Oh,Yl O7,Int.zero_mul])];exact Yl (by simp [Mq])
 | c::p,f,0=>by show cf (al (Ad c f) (xl (Mq p 0 f))) 0=_;rw [Ykf,Ykc,cf_xl0,PS.mul_c,Me,Int.add_zero];exact(Int.add_zero _).symm
 | c::p,f,i+1=>by show cf (al (Ad c f) (xl (Mq p 0 f))) (i+1)=_;rw [Ykf,Ykc,cf_xl,cf_Mq p f i,PS.mul_c,PS.mul_c,Me _ (i+1)];refine congrArg (c*cf f (i+1)+·) (Yy λk e=>?_);show cf p k*cf f (i-k)=cf p k*cf f (i+1-(k+1));rw [show i+1-(k+1)=i-k by omega]
theorem Yde{n L e:Nat}(hu:Tr u)(w:Tr v)(hs:Sz n s)(Q:s≠[])(hl:s.length<=L)(he:fcs 0 L<=2^e*2^e)(h:s=Qn u v):Sz (n+e) u:=by
 have D:v≠[]:=λe=>Q (by rw [h,e,Zbs]);obtain⟨m,N⟩:∃m,v.length=m+1:=⟨v.length-1,by have:=List.length_pos_iff.2 D;omega⟩;have g:cf v m≠0:=by
  rcases w with w|w
  .exact absurd w D
  .rwa [N]at w
 have o:∀i,cf (Mq v 0 u) i=cf s i:=λi=>by rw [cf_Mq,h,Be,Hg]
 have j:=Zlu v v 0 u u (m+1) O;rw [Zqr 0 _ s _ o,Ee,Zqr 0 _ s _ o,Yj,Nat.zero_add,Yk7 v m u N,Zge,Zqp]at j;have l:∀t,0<=Ye (λk=>wfa 0 k*Gc 0 (Hq v (0+k) u) (Hq v k u)) t:=λt=>by
  induction t with
  | zero=>exact Int.le_refl _
  | succ t ih=>
   rw [Yj,Nat.zero_add];have:=Int.mul_nonneg (show 0<=wfa 0 t by have:=Zol t 0;omega) (Zqq 0 (Hq v t u));omega
 have hr:=l m;have Z:1<=cf v m*cf v m:=by
  have h1:=Zor (cf v m);have h2:cf v m*cf v m≠0:=λe=>by rcases Int.mul_eq_zero.1 e with q|q<;>exact g q
  omega
 have hf:=Zqq 0 u;have h3:Gc 0 u u<=cf v m*(cf v m*Gc 0 u u):=by have:=Int.mul_le_mul_of_nonneg_right Z hf;rw [Int.mul_assoc]at this;omega
 have h4:Gc 0 u u<=wfa 0 m*(cf v m*(cf v m*Gc 0 u u)):=by have:=Int.mul_le_mul_of_nonneg_right (show 1<=wfa 0 m from Zol m 0) (show 0<=cf v m*(cf v m*Gc 0 u u) by omega);omega
 intro i;rw [Qg];have h5:=Yio 0 u i;have V:∀x∈s,x*x<=(2^n-1)*(2^n-1):=λx hx=>by
  have hb:x.natAbs<2^n:=(Qg n _).1 (hs.mem hx);have W:((2^n:Nat):Int)=2^n:=by push_cast;rfl
  have p1:x<=2^n-1:=O;have p2:-(2^n-1)<=x:=O;generalize (2:Int)^n-1=y at *;have:=Int.mul_nonneg (show 0<=y-x by omega) (show 0<=y+x by omega);grind
 have hp:(1:Int)<=2^n:=by exact_mod_cast Nat.pow_pos (n:=n) (show 0<2 by decide)
 have P:(1:Int)<=2^e:=by exact_mod_cast Nat.pow_pos (n:=e) (show 0<2 by decide)
 have h6:=Yin L 0 s _ hl V (Int.mul_nonneg O O);have h7:cf u i*cf u i<=(2^e*2^e)*((2^n-1)*(2^n-1)):=by have:=Int.mul_le_mul_of_nonneg_right he (show(0:Int)<=(2^n-1)*(2^n-1)from Int.mul_nonneg O O);omega
 rcases Nat.lt_or_ge (cf u i).natAbs (2^(n+e))with I|H
 .exact I
 .exfalso;have M:(2^n*2^e:Int)<=((cf u i).natAbs:Int):=by rw [<-Int.pow_add];exact_mod_cast H
  have S:((cf u i).natAbs:Int)*((cf u i).natAbs:Int)=cf u i*cf u i:=Int.natAbs_mul_self;have G:(2^n*2^e:Int)*(2^n*2^e)<=((cf u i).natAbs:Int)*((cf u i).natAbs:Int):=Int.mul_le_mul M M (Int.mul_nonneg O O) O;rw [S]at G;generalize (2:Int)^n=X at *;generalize (2:Int)^e=Y at *;have R:(Y*Y)*((X-1)*(X-1))<(Y*Y)*(X*X):=by have hy:=Int.mul_le_mul P P O2 O;refine Int.mul_lt_mul_of_pos_left ?_ O;grind
  grind
def kkR(R:Nat):Nat->Nat
 | 0=>0
 | d+1=>2*(R+1)*kkR R d+1
def De{n L R e:Nat}(w:Tr u)(D:Tr v)(hs:Sz n s)(g:s≠[])(o:Tr s)(l:s.length<=L)(G:2*L<=R+2)(j:fcs 0 L<=2^e*2^e)(h:s=Qn u v):Sz (n+e) u:=Yde w D hs g l j h
theorem num13{e g:Nat}(n:e<=13)(o:g+1=e)(j:K<=600):Zty e g K:=λl w=>by have h:∀l,l<=12->(l+1)*(600*(27-2*l)+1)<=65536:=O2;refine Nat.le_trans (Nat.mul_le_mul_left _ (Nat.succ_le_succ (Nat.mul_le_mul j O))) (h l O)
theorem chH{n:Nat}(F:Nat)(D:Tr xs)(G:xs≠[])(hs:Sz n xs)(hn:n<=350)(hl:xs.length<=13)(hb:(xs.length+2)*(xs.length+2)*(n+13)<=65536)(hF:xs.length<=F+1) :
  Ae F xs/\Sz (n+15) (sqf F xs)/\(sqf F xs).length<=xs.length/\∀p∈chn F xs,Pa p<=(n+26)*25/\p.length<=xs.length:=by
 have e:=Zv4 hs;have a3:=Pm D;have l:Tr (Xe xs):=Ov (Xb D);have Y:=Zan e O;have a0:=Nv (Xe xs);have o:Tr (Xd (Xe xs)):=Mp l;have m1:=Pr e;have m2:=Pr Y;have l0:=List.length_pos_iff.2 G;have I:gA (Xe xs) (Xd (Xe xs))=Zz (Xe xs):=if_neg O;have M:gB (Xe xs) (Xd (Xe xs))=Zz (Xd (Xe xs)):=if_neg O;have j:eok F (gA (Xe xs) (Xd (Xe xs))) (gB (Xe xs) (Xd (Xe xs))):=by
  rw [I,M];refine(Yof (n:=n+5) (s:=5) (K:=n+11) (by rw [Ya,Ya];omega) (Xb l) (Xb o) (Fs (e.mono O)) (Fs Y) ?_ O ?_ ?_ ?_).1
  .rw [Ya,Ya];omega
  .rw [Ya,Ya];exact num13 O O O
  .rw [Ya];exact Nat.le_trans (Nat.mul_le_mul (show(Xe xs).length+1<=14 by omega) (show n+5+1<=400 by omega)) O2
  .rw [Ya];omega
 obtain⟨f1,f2,f3,f4,f5,f6⟩:=Ol (F:=F) D G j;have H:=Zff (F:=F) l o;have g:=Zk2 D G;have V:fcs 0 13<=2^15*2^15:=O6;have w:=De (L:=13) (R:=24) f2 H e g l O O2 V f4;have N:=De (L:=13) (R:=24) H f2 e g l O O2 V (by rw [Be];exact f4);have P:=Oo f2 H f3 f5;rw [<-f4]at P;have lg:=List.length_pos_iff.2 f5;have lq:=List.length_pos_iff.2 f3;have mg:=Pr N;have S:(sqf F xs).length<=xs.length:=O;have Q:=Zan w O;have Z:=Nv (sqf F xs);have W:=Yoy (a:=sqf F xs) (b:=Zz (Xd (sqf F xs))) (n:=n+15+5) (s:=5) (K:=n+26) (f:=F) (by rw [Ya];omega) f2 (Xb (Mp f2)) (w.mono O) (Fs Q) (by rw [Ya];omega) O (by rw [Ya];exact num13 O O O) (Nat.le_trans (Nat.mul_le_mul (show(sqf F xs).length+1<=14 by omega) (show n+15+5+1<=500 by omega)) O2) (by rw [Ya];omega);refine⟨⟨⟨λi _=>Nat.le_trans (Zxh e O i) O,?_,j,?_,f1⟩,λi _=>Nat.le_trans (Zxh w O i) O,W.1⟩,w,S,λp hp=>?_⟩
 .intro h;have h3:(max (Xe xs).length (Xd (Xe xs)).length+2)*(max (Xe xs).length (Xd (Xe xs)).length+2)*(max (Pa (Xe xs)) (Pa (Xd (Xe xs)))+8)<=(xs.length+2)*(xs.length+2)*(n+13):=Nat.mul_le_mul (Nat.mul_le_mul O O) O;have:=h.2.2;omega
 .unfold Cy;rw [if_neg O];split
  .rfl
  .have:((Xe xs).length-(Mh F (Xe xs) (Xd (Xe xs))).length+1)*(Pa (Mh F (Xe xs) (Xd (Xe xs)))+1)<=14*500:=Nat.mul_le_mul O O;rw [if_neg O]
 .obtain⟨a1,a2⟩:=W.2 p hp;refine⟨Nat.le_trans a1 (Nat.mul_le_mul_left _ ?_),O⟩;rw [Ya];omega
theorem chG{n:Nat}(F:Nat)(j:Tr xs)(e:xs≠[])(hs:Sz n xs)(h:n<=350)(l:xs.length<=11)(g:xs.length<=F+1) :
  Ae F xs/\Sz (n+15) (sqf F xs)/\(sqf F xs).length<=xs.length/\∀p∈chn F xs,Pa p<=(n+26)*25/\p.length<=xs.length:=
 chH F j e hs h O (Nat.le_trans (Nat.mul_le_mul (Nat.mul_le_mul (show _<=13 by omega) (show _<=13 by omega)) (show _<=363 by omega)) O2) g
theorem Dv.ed{g:List Int}(h:Dv g a):Ed g a:=by obtain⟨k,s,e,h⟩:=h;refine⟨k,s,e,λx=>?_⟩;have:=Dn (a:=k) (c:=0) (x:=a) (s:=s) (y:=g) (z:=[]) (λt=>by rw [h t];omega) x;push_cast at this;grind
theorem Zl8(w:Tr xs)(j:xs≠[])(l:Ae F xs)(s t:Rat) :
  ∃h:Rat,0<h/\∀u v,s<=u->u<=v->v<=t->v-u<=h->vat ((chn F xs).map Zd) u-vat ((chn F xs).map Zd) v=crs (Zd (sqf F xs)) u v:=by
 have g:=l.1.2.2.1;obtain⟨f1,f2,f3,f4,f5,f6⟩:=Ol (F:=F) w j g;have e:=Mp f2;by_cases D:Xd (sqf F xs)=[]
 .refine Zkb (κ:=1) f2 (Xb e) f3 l.2.2 O2 (λx=>?_) λq o a b=>?_
  .rw [<-Kw,D];show(0:Rat)=1*0;grind
  .exact Zfj w j g o a (b.sim (Qu e))
 .have n:0<Ym (Xd (sqf F xs)):=by have G:=Bt e D;have H:=Nb (Xd (sqf F xs));omega
  refine Zkb (κ:=(Ym (Xd (sqf F xs)):Rat)) f2 (Xb e) f3 l.2.2 (by exact_mod_cast n) (λx=>?_) λq o a b=>?_
  .rw [<-Kw,<-Zk];exact Om x _ _ λi=>by rw [Qi,Int.mul_comm,Gg]
  .exact Zfj w j g o a (b.sim (Qu e))
theorem Yn1{g:List Int}(H:∀x:Rat,Zd p x=Zd s x*Zd g x)(hg:Tr g)(g0:g≠[])(Q:Ed g (ld p))(D:Irr q)(S:Ed q p):Ed q s:=by
 refine Classical.byContradiction λG=>?_;have l:=D.1;have o:=D.2.1;have R:¬Ed q (ld q):=λh=>by have h8:Ed q (Xd q):=h.congr λx=>(Kw q x).symm;have hl:=Nv q;have:=(h8.len l (Mp l) (λe=>by rw [e]at hl;simp at hl;omega)).2;omega
 obtain⟨c1,m1,k1,e1⟩:=S;obtain⟨j,m,k2,e2⟩:=Q;have W:∀k,Ed (Fb q k) g:=λk=>by
  induction k with
  | zero=>exact⟨1,g,O2,λx=>by rw [show Fb q 0=[1]from rfl,Pj];push_cast;grind⟩
  | succ k ih=>
   cases k with
   | zero=>
    have P:Ed q g:=(Zaz (f:=s) (h:=g) (m:=m1) D k1 (λx=>by rw [<-H x];exact e1 x)).resolve_left G;exact P.congr_l λx=>by rw [Fw,show Fb q 0=[1]from rfl,Pj];push_cast;grind
   | succ k=>
    obtain⟨c,u,kc,eu⟩:=ih;have hd:∀x:Rat,(c:Rat)*Zd (ld g) x=Zd (ld u) x*Zd (Fb q (k+1)) x+Zd u x*(((k:Rat)+1)*(Zd (Fb q k) x*Zd (ld q) x)):=λx=>by have:=Ca (p:=g.map λa=>c*a) (q:=lmul u (Fb q (k+1))) (λy=>by rw [Zk,Zx];exact eu y) x;rwa [Ak,Cr,Zo9]at this
    have hp:∀x:Rat,Zd (ld p) x=Zd (ld s) x*Zd g x+Zd s x*Zd (ld g) x:=λx=>by have:=Ca (p:=p) (q:=lmul s g) (λy=>by rw [Zx];exact H y) x;rwa [Cr]at this
    have hz:∀x:Rat,Zd (Ma ((lmul (lmul s u) (ld q)).map λa=>(j*((k:Int)+1))*a) ((lmul (Ma ((lmul s (ld u)).map λa=>j*a) ((lmul (Ma m ((ld s).map λa=>(-j)*a)) u).map λa=>(-1)*a)) q))) x=0:=λx=>by
     refine Ea (v:=Fb q k) (λe=>?_) (λx=>?_) x
     .rw [Zab (Zat l o k).1]at e;have:=(Zat l o k).2;rw [e]at this;simp at this
     .rw [Xh,Zk,Zx,Zx,Zx,Xh,Zk,Zx,Zk,Zx,Xh,Zk];have M:=e2 x;have Y:=hp x;have Z:=hd x;have I:=eu x;rw [Fw]at Z I;push_cast;have b1:(j:Rat)*Zd s x*(c*Zd (ld g) x)=(Zd m x-j*Zd (ld s) x)*(c*Zd g x):=by
       have:(j:Rat)*Zd s x*(c*Zd (ld g) x)=c*(j*(Zd (ld p) x-Zd (ld s) x*Zd g x)):=by rw [Y];grind
       rw [this];have:(c:Rat)*(j*(Zd (ld p) x-Zd (ld s) x*Zd g x))=c*(j*Zd (ld p) x)-c*j*Zd (ld s) x*Zd g x:=O4;rw [this,M];grind
      rw [Z,I]at b1;grind
    have P:=Zaz (f:=lmul s u) (h:=ld q) (k:=j*((k:Int)+1)) (m:=Ma ((lmul (Ma m ((ld s).map λa=>(-j)*a)) u)) ((lmul s (ld u)).map λa=>(-j)*a)) D (Int.mul_ne_zero k2 O) (λx=>by have:=hz x;rw [Xh,Zk,Zx,Zx,Zx,Xh,Zk,Zx,Zk,Zx,Xh,Zk]at this;rw [Zx,Xh,Zx,Xh,Zk,Zk,Zx];push_cast at this ⊢;grind)
    have h8:=Zaz (f:=s) (h:=u) (k:=1) (m:=[]) D O2;have h7:Ed q u:=by obtain⟨n,w,V,N⟩:=P.resolve_right R;exact(Zaz (f:=s) (h:=u) (k:=n) (m:=w) D V (λx=>by have:=N x;rwa [Zx]at this)).resolve_left G
    obtain⟨n,w,V,N⟩:=h7;refine⟨n*c,w,Int.mul_ne_zero V kc,λx=>?_⟩;have I:=eu x;have a5:=N x;rw [Fw q (k+1)];push_cast;have:(n:Rat)*c*Zd g x=n*(c*Zd g x):=O4;rw [this,I];have:(n:Rat)*(Zd u x*Zd (Fb q (k+1)) x)=(n*Zd u x)*Zd (Fb q (k+1)) x:=O4;rw [this,a5];grind
 obtain⟨M,Y⟩:=Zat l o g.length;have:=((W g.length).len M hg g0).2;omega
theorem Ynt(g:d≠0):Irr [-r,d]:=by have e:Tr [-r,d]:= .inr g;refine⟨e,O7,λq j h=>?_⟩;have:=(h.len j e O7).2;simp at this ⊢;omega
theorem Zjd(r d:Int)(x:Rat):Zd [-r,d] x=(d:Rat)*x-r:=by show((-r:Int):Rat)+x*((d:Rat)+x*0)=_;push_cast;grind
theorem Ymq(G:Tr p)(j:d≠0)(h:Zd p ((r:Rat)/d)=0):Ed [-r,d] p:=by
 have n:(d:Rat)≠0:=by exact_mod_cast j
 have w:Tr [-r,d]:= .inr j;obtain⟨k,s,hs⟩:=Zas p (q:=[-r,d]) O7;have g:=Kq (w.mem O7) k;generalize cf [-r,d] ([-r,d].length-1)^k=L at hs g;have l:∀x,(L:Rat)*Zd p x=Zd s x*Zd [-r,d] x+Zd (Qp p [-r,d]) x:=λx=>by have:=Dn (a:=L) (c:=-1) (x:=p) (s:=s) (y:=[-r,d]) (z:=Qp p [-r,d]) (λt=>by rw [hs t];omega) x;push_cast at this;grind
 have o:=Oa p (q:=[-r,d]) O7;have D:∀x,Zd (Qp p [-r,d]) x=0:=λx=>by
  have e:=l ((r:Rat)/d);rw [h,Zjd]at e
  match hr:Qp p [-r,d],o with
  | [],_=>rfl
  | [c],_=>
   rw [hr,Pj]at e;rw [Pj];have:(d:Rat)*(r/d)=r:=O4;rw [this]at e;grind
 exact⟨L,s,g,λx=>by rw [l x,D x];grind⟩
theorem Ed.root(g:d≠0)(h:Ed [-r,d] p):Zd p ((r:Rat)/d)=0:=by
 obtain⟨k,s,l,h⟩:=h;have j:(d:Rat)≠0:=by exact_mod_cast g
 have n:(k:Rat)≠0:=by exact_mod_cast l
 have e:=h ((r:Rat)/d);rw [Zjd]at e;have:(d:Rat)*(r/d)=r:=O4;rw [this]at e;grind
theorem Yeu(j:Tr xs)(n:xs≠[])(g:eok F (gA (Xe xs) (Xd (Xe xs))) (gB (Xe xs) (Xd (Xe xs))))(l:d≠0)(h:Zd xs ((r:Rat)/d)=0):Zd (sqf F xs) ((r:Rat)/d)=0:=by
 obtain⟨f1,f2,f3,f4,f5,f6⟩:=Ol (F:=F) j n g;have hs:Tr (Xe xs):=Ov (Xb j);have e:Tr (Xd (Xe xs)):=Mp hs;have o:Ed [-r,d] (Xe xs):=(Ymq j l h).sim ((Qu j).symm.trans (Hb _).symm);have w:∀x:Rat,Zd (Xe xs) x=Zd (sqf F xs) x*Zd (Mh F (Xe xs) (Xd (Xe xs))) x:=λx=>by
  have:Zd (Xe xs) x=Zd (Qn (sqf F xs) (Mh F (Xe xs) (Xd (Xe xs)))) x:=by rw [<-f4]
  rw [this,Yi]
 have D:Ed (Mh F (Xe xs) (Xd (Xe xs))) (ld (Xe xs)):=((Zdl hs e g).2.ed).congr λx=>Kw _ x;exact(Yn1 w (Zff hs e) f5 D (Ynt l) o).root l
def Away(s t:Rat)(f:Rat->Rat):Prop:=∃δ:Rat,0<δ/\∀x,s<=x->x<=t->δ<=f x\/f x<=-δ
theorem Away.mul{s:Rat}{f g h:Rat->Rat}(I:Away s t f)(M:Away s t g)(e:∀x,h x=f x*g x):Away s t h:=by
 obtain⟨a,n,o⟩:=I;obtain⟨b,w,D⟩:=M;refine⟨a*b,Rat.mul_pos n w,λx j l=>?_⟩;rw [e x];rcases o x j l with G|G<;>rcases D x j l with H|H
 .left;have:=Rat.mul_nonneg (a:=f x-a) (b:=g x) O4 O4;have:=Rat.mul_nonneg (a:=a) (b:=g x-b) O4 O4;grind
 .right;have:=Rat.mul_nonneg (a:=f x-a) (b:=- g x) O4 O4;have:=Rat.mul_nonneg (a:=a) (b:=- g x-b) O4 O4;grind
 .right;have:=Rat.mul_nonneg (a:=- f x-a) (b:=g x) O4 O4;have:=Rat.mul_nonneg (a:=a) (b:=g x-b) O4 O4;grind
 .left;have:=Rat.mul_nonneg (a:=- f x-a) (b:=- g x) O4 O4;have:=Rat.mul_nonneg (a:=a) (b:=- g x-b) O4 O4;grind
theorem Away.lin{s:Rat}(j:0<d)(h:(r:Rat)<d*s\/(d:Rat)*t<r):Away s t (Zd [-r,d]):=by
 have l:(0:Rat)<(d:Rat):=by exact_mod_cast j
 rcases h with h|h
 .refine⟨d*s-r,O4,λx e g=> .inl ?_⟩;rw [Zjd];have:=Rat.mul_nonneg (a:=(d:Rat)) (b:=x-s) O4 O4;grind
 .refine⟨r-d*t,O4,λx e g=> .inr ?_⟩;rw [Zjd];have:=Rat.mul_nonneg (a:=(d:Rat)) (b:=t-x) O4 O4;grind
theorem Away.sq(s t:Rat):Away s t (Zd [1,0,1]):=⟨1,O2,λx _ _=>by
 left;show(1:Rat)<=((1:Int):Rat)+x*(((0:Int):Rat)+x*(((1:Int):Rat)+x*0));have:0<=x*x:=by
  rcases(show 0<=x\/x<0 by grind)with h|h
  .exact Rat.mul_nonneg h h
  .have:=Rat.mul_nonneg (a:=-x) (b:=-x) O4 O4;grind
 push_cast;grind⟩
theorem Away.one(s t:Rat):Away s t (Zd [1]):=⟨1,O2,λx _ _=>by left;rw [Pj];exact Rat.le_refl⟩
def cntP(P:Int->Prop)[DecidablePred P](m:Int):Nat->Int
 | 0=>0
 | n+1=>cntP P m n+(if P (m+n+1)then 1 else 0)
def eB(K C:Nat):Nat->Nat
 | 0=>0
 | n+1=>C+K*eB K C n
def eL(K C:Nat):Nat->Nat
 | 0=>0
 | n+1=>K*eL K C n+eB K C n
def eM(K C:Nat):Nat->Nat
 | 0=>0
 | n+1=>eL K C n+K*eM K C n
theorem Gw{a b:Nat}(h:a<=b):(a:Rat)<=(b:Rat):=by exact_mod_cast h
theorem Ykd{C:Nat}(h:c.natAbs<=C):-(C:Rat)<=(c:Rat)/\(c:Rat)<=(C:Rat):=by
 have e:((-(C:Int):Int):Rat)<=(c:Rat):=by exact_mod_cast (show -(C:Int)<=c by omega)
 have g:(c:Rat)<=(((C:Nat):Int):Rat):=by exact_mod_cast (show c<=(C:Int) by omega)
 push_cast at e g;constructor<;>grind
def Zrh{C:Nat}(h:∀i,(cf (c::p) i).natAbs<=C):c.natAbs<=C/\∀i,(cf p i).natAbs<=C:=⟨h 0,λi=>h (i+1)⟩
theorem Zo6{K C:Nat} : ∀(n:Nat) (p:List Int),p.length<=n->(∀i,(cf p i).natAbs<=C)->∀x:Rat,-(K:Rat)<=x->x<=(K:Rat)->-(eB K C n:Rat)<=Zd p x/\Zd p x<=(eB K C n:Rat)
 | n,[],_,_,x,_,_=>by have h:(0:Rat)<=(eB K C n:Rat):=Gw (Nat.zero_le _);show -(eB K C n:Rat)<=0/\(0:Rat)<=(eB K C n:Rat);constructor<;>grind
 | 0,c::p,hl,_,_,_,_=>absurd hl O7
 | n+1,c::p,hl,hc,x,h1,h2=>by
  obtain⟨g,j⟩:=Zrh hc;obtain⟨l,o⟩:=Zo6 n p (by simpa using hl) j x h1 h2;obtain⟨D,G⟩:=Ykd g;have w:(0:Rat)<=(K:Rat):=Gw (Nat.zero_le _);obtain⟨f1,f2⟩:=Zb3 h1 h2 l o w;have e:((eB K C (n+1):Nat):Rat)=(C:Rat)+(K:Rat)*(eB K C n:Rat):=by show((C+K*eB K C n:Nat):Rat)=_;push_cast;rfl
  rw [e,show Zd (c::p) x=(c:Rat)+x*Zd p x from rfl];constructor<;>grind
theorem Zo5{K C:Nat} : ∀(n:Nat) (p:List Int),p.length<=n->(∀i,(cf p i).natAbs<=C)->Lip (-(K:Rat)) (K:Rat) (eL K C n:Rat) (Zd p)
 | n,[],_,_,x,y,_,l,_=>by have h:(0:Rat)<=(eL K C n:Rat):=Gw (Nat.zero_le _);have:=Rat.mul_nonneg (a:=(eL K C n:Rat)) (b:=y-x) h O4;show(0:Rat)-0<=_/\(0:Rat)-0<=_;constructor<;>grind
 | 0,c::p,hl,_,_,_,_,_,_=>absurd hl O7
 | n+1,c::p,hl,hc,x,y,h1,l,h2=>by
  obtain⟨w,j⟩:=Zrh hc;obtain⟨D,G⟩:=Zo5 n p (by simpa using hl) j x y h1 l h2;obtain⟨H,I⟩:=Zo6 n p (by simpa using hl) j y O4 h2;have o:(0:Rat)<=(K:Rat):=Gw (Nat.zero_le _);obtain⟨f1,f2⟩:=Zb3 (q:=x) (g:=Zd p x-Zd p y) (e:=(eL K C n:Rat)*(y-x)) h1 O4 O4 O4 o;have M:=Rat.mul_nonneg (a:=(eB K C n:Rat)-Zd p y) (b:=y-x) O4 O4;have N:=Rat.mul_nonneg (a:=(eB K C n:Rat)+Zd p y) (b:=y-x) O4 O4;have e:((eL K C (n+1):Nat):Rat)=(K:Rat)*(eL K C n:Rat)+(eB K C n:Rat):=by show((K*eL K C n+eB K C n:Nat):Rat)=_;push_cast;rfl
  rw [e,show Zd (c::p) x=(c:Rat)+x*Zd p x from rfl,show Zd (c::p) y=(c:Rat)+y*Zd p y from rfl];constructor<;>grind
theorem Yf1{K C:Nat} : ∀(n:Nat) (p:List Int),p.length<=n->(∀i,(cf p i).natAbs<=C)->Tay (-(K:Rat)) (K:Rat) (eM K C n:Rat) p
 | n,[],_,_,x,y,_,j,_=>by have h:(0:Rat)<=(eM K C n:Rat):=Gw (Nat.zero_le _);have G:=Rat.mul_nonneg (a:=y-x) (b:=y-x) O4 O4;have:=Rat.mul_nonneg h G;show -((eM K C n:Rat)*(y-x)*(y-x))<=(0:Rat)-0-(y-x)*0/\(0:Rat)-0-(y-x)*0<=(eM K C n:Rat)*(y-x)*(y-x);constructor<;>grind
 | 0,c::p,hl,_,_,_,_,_,_=>absurd hl O7
 | n+1,c::p,hl,hc,x,y,hs,j,ht=>by
  obtain⟨I,l⟩:=Zrh hc;obtain⟨w,D⟩:=Yf1 n p (by simpa using hl) l x y hs j ht;obtain⟨M,N⟩:=Zo5 n p (by simpa using hl) l x y hs j ht;have H:(0:Rat)<=(K:Rat):=Gw (Nat.zero_le _);have o:0<=y-x:=O4;obtain⟨f1,f2⟩:=Zb3 (q:=x) (Q:=(K:Rat)) (g:=Zd p y-Zd p x-(y-x)*Zd (ld p) x) (e:=(eM K C n:Rat)*(y-x)*(y-x)) hs O4 w D H;have P:=Rat.mul_nonneg (a:=y-x) (b:=(eL K C n:Rat)*(y-x)-(Zd p y-Zd p x)) o O4;have R:=Rat.mul_nonneg (a:=y-x) (b:=(eL K C n:Rat)*(y-x)+(Zd p y-Zd p x)) o O4;have e:((eM K C (n+1):Nat):Rat)=(eL K C n:Rat)+(K:Rat)*(eM K C n:Rat):=by show((eL K C n+K*eM K C n:Nat):Rat)=_;push_cast;rfl
  rw [e,Zfs,show Zd (c::p) y=(c:Rat)+y*Zd p y from rfl,show Zd (c::p) x=(c:Rat)+x*Zd p x from rfl];constructor<;>grind
theorem Zxn{A:Nat}(D:Tr a)(hb:Tr b)(la:2<=a.length)(lb:b.length+1=a.length)(hA:0<A)(na:∀i,(cf a i).natAbs<=A)(nb:∀i,(cf b i).natAbs<=A)(hc:∀q,Tr q->Ed q a->Ed q b->q.length<=1) :
  ∃(U V:List Int) (c:Int),c≠0/\U.length+2=a.length/\V.length+1=a.length/\(∀i,(cf U i).natAbs<=(2*(2*a.length-3)*A)^(2*a.length-4))/\(∀i,(cf V i).natAbs<=(2*(2*a.length-3)*A)^(2*a.length-4))/\
   ∀x,(c:Rat)=Zd U x*Zd a x+Zd V x*Zd b x:=by
 obtain⟨U,V,lU,lV,l,G,H,hz⟩:=Zh9 (a:=a) (b:=b) (p:=a.length-2) (q:=a.length-1) (lo:=1) hA na nb O O O;have n:¬(tzl U=[]/\tzl V=[]):=λ⟨h1,h2⟩=>by
  rcases l with⟨i,hi⟩|⟨i,hi⟩
  .exact hi ((Lz U).1 h1 i)
  .exact hi ((Lz V).1 h2 i)
 clear l;rw [show a.length-2+(a.length-1)=2*a.length-3 by omega]at G H;rw [show 2*a.length-3-1=2*a.length-4 by omega]at G H;have j:a≠[]:=λe=>by rw [e]at la;simp at la
 have W:∀i,cf (Ma (lmul U a) (lmul V b)) i=(ps U*ps a).c i+(ps V*ps b).c i:=λi=>by rw [Mb,Ek,Ek,PS.mul_c,PS.mul_c];rfl
 have S:∀t,Zd (Ma (lmul U a) (lmul V b)) t=Zd U t*Zd a t+Zd V t*Zd b t:=λt=>by rw [Xh,Zx,Zx]
 generalize Ma (lmul U a) (lmul V b)=R at W S;have hR:∀t,Zd R t=(cf R 0:Rat):=λt=>by
  rw [<-Pj (cf R 0) t];refine Om t _ _ λi=>?_
  match i with
  | 0=>rfl
  | i+1=>rw [W,hz (i+1) O,Yl O7]
 refine⟨U,V,cf R 0,λh0=>?_,O,O,G,H,λx=>by rw [<-S,hR]⟩;have o:∀t,Zd U t*Zd a t+Zd V t*Zd b t=0:=λt=>by rw [<-S,hR,h0];rfl
 obtain⟨g,P,Q,h,Y,g3,I⟩:=Zmg _ a b D hb (Nat.le_refl _);have hl:=hc g h Y g3;have hg:=(Y.len h D j).1;have w:tzl V=[]:=by
  refine Classical.byContradiction λw=>?_
  match g,hg,hl,h,I with
  | [c],_,_,h,I=>
   have N:c≠0:=h.mem O7;have hd:Ed a (tzl V):=⟨c,Ma (lmul P V) ((lmul Q U).map λz=>(-1)*z),N,λx=>by have Z:=I x;rw [Pj]at Z;rw [Ny,Xh,Zk,Zx,Zx,Z];have:=o x;have e:Zd V x*Zd b x=- (Zd U x*Zd a x):=O4;have:(Zd P x*Zd a x+Zd Q x*Zd b x)*Zd V x=Zd P x*Zd V x*Zd a x+Zd Q x*(Zd V x*Zd b x):=O4;rw [this,e];push_cast;grind⟩
   have:=(hd.len D (Qc V) w).2;have:=Mx V;omega
  | c::d::r,_,h9,_,_=>simp at h9
 have M:tzl U=[]:=by
  refine Classical.byContradiction λM=>?_;have:∀t,Zd a t=0:=Ea (v:=U) M λt=>by have:=o t;rw [Aj w]at this;grind
  exact D.mem j (Zo8 this _)
 exact n ⟨M,w⟩
def Zyv(K A n e:Nat):Bool:=
 let X:=(2*(2*n-3)*A)^(2*n-4);let W:=eB K X (n-1)
 Nat.ble (2*(2*W+1)*(2*eL K A n)) (2^e) && Nat.ble (2*(2*W+1)*eM K A n) (2^e)
theorem big_or  {A n e:Nat} (hK:0<K) (hA:0<A) (ha:Tr a) (hb:Tr b) (hn:a.length=n) (h2:2<=n) (lb:b.length+1=a.length) (na:∀i,(cf a i).natAbs<=A) (nb:∀i,(cf b i).natAbs<=A) (hc:∀q,Tr q->Ed q a->Ed q b->q.length<=1)
  (x:Rat) (G:-(K:Rat)<=x) (H:x<=(K:Rat)):Big (1/((2*eB K ((2*(2*n-3)*A)^(2*n-4)) (n-1)+1:Nat):Rat)) x (Zd a)\/Big (1/((2*eB K ((2*(2*n-3)*A)^(2*n-4)) (n-1)+1:Nat):Rat)) x (Zd b):=by
 obtain⟨U,V,c,c0,lU,lV,w,D,l⟩:=Zxn ha hb O lb hA na nb hc;rw [hn]at w D;generalize (2*(2*n-3)*A)^(2*n-4)=X at *;obtain⟨u1,u2⟩:=Zo6 (n-1) U O w x G H;obtain⟨v1,v2⟩:=Zo6 (n-1) V O D x G H;generalize eB K X (n-1)=W at *;have M:(0:Rat)<=(W:Rat):=Gw (Nat.zero_le _);have I:(0:Rat)<((2*W+1:Nat):Rat):=by
   have:(((0:Nat)):Rat)<((2*W+1:Nat):Rat):=by exact_mod_cast Nat.succ_pos _
   exact this
 have g:((2*W+1:Nat):Rat)=2*(W:Rat)+1:=by push_cast;rfl
 generalize N:1/((2*W+1:Nat):Rat)=ε;have o:ε*(2*(W:Rat)+1)=1:=by rw [<-N,g];rw [g]at I;grind
 have a0:0<=ε:=by rw [<-N];have:=Rat.inv_pos.2 I;rw [Rat.div_def];grind
 by_cases P:Big ε x (Zd a)
 .exact .inl P
 .by_cases Q:Big ε x (Zd b)
  .exact .inr Q
  .exfalso;obtain⟨R,S⟩:=Zdo P;obtain⟨Y,Z⟩:=Zdo Q;obtain⟨q1,q2⟩:=Zb3 u1 u2 R S M;obtain⟨r1,r2⟩:=Zb3 v1 v2 Y Z M;have h4:=l x;have j:(c:Rat)<=-1\/1<=(c:Rat):=by
    rcases Int.lt_or_gt_of_ne c0 with h|h
    .left;have:((c:Int):Rat)<=((-1:Int):Rat):=by exact_mod_cast (show c<=-1 by omega)
     rwa [show(((-1:Int)):Rat)=-1 from rfl]at this
    .right;have:1<=c:=O;exact_mod_cast this
   have a3:0<ε:=by
    rcases(show ε=0\/0<ε by grind)with h|h
    .rw [h]at o;grind
    .exact h
   rcases j with j|j<;>grind
theorem two_pow_pos(e:Nat):(0:Rat)<((2^e:Nat):Rat):=by have:0<2^e:=Nat.pow_pos O2;exact_mod_cast this
theorem Ypd  {A n e:Nat} (hx:Tr xs) (h0:xs≠[]) (hC:Ae F xs) (hK:0<K) (hA:0<A) (hn:(sqf F xs).length=n) (h2:2<=n) (na:∀i,(cf (sqf F xs) i).natAbs<=A) (nb:∀i,(cf (Xd (sqf F xs)) i).natAbs<=A) (hs:Zyv K A n e=true)
  {u v:Rat} (h1:-(K:Rat)<=u) (Z:u<=v) (h3:v<=(K:Rat)) (hh:v-u<=1/((2^e:Nat):Rat)) :
  vat ((chn F xs).map Zd) u-vat ((chn F xs).map Zd) v=crs (Zd (sqf F xs)) u v:=by
 have I:=hC.1.2.2.1;obtain⟨f1,f2,f3,f4,f5,f6⟩:=Ol (F:=F) hx h0 I;have g:=Mp f2;have H:=Nv (sqf F xs);have hd:Xd (sqf F xs)≠[]:=λe=>by rw [e]at H;simp at H;omega
 have Y:1<=Ym (Xd (sqf F xs)):=by have h1:=Bt g hd;have h2:=Nb (Xd (sqf F xs));omega
 have a2:(1:Rat)<=(Ym (Xd (sqf F xs)):Rat):=by exact_mod_cast Y
 have N:∀i,(cf (Zz (Xd (sqf F xs))) i).natAbs<=A:=λi=>by have h5:=Gg (Xd (sqf F xs)) i;have h6:=nb i;rw [<-h5,Int.natAbs_mul]at h6;have:(cf (Zz (Xd (sqf F xs))) i).natAbs*1<=(cf (Zz (Xd (sqf F xs))) i).natAbs*(Ym (Xd (sqf F xs))).natAbs:=Nat.mul_le_mul_left _ O;omega
 have o:∀q,Tr q->Ed q (sqf F xs)->Ed q (Zz (Xd (sqf F xs)))->q.length<=1:=λq hq a b=>Zfj hx h0 I hq a (b.sim (Qu g));have V:(Zz (Xd (sqf F xs))).length+1=(sqf F xs).length:=by rw [Ya];omega
 have j:=big_or (e:=e) hK hA f2 (Xb g) hn h2 V na N o;unfold Zyv at hs;simp only [Bool.and_eq_true,Nat.ble_eq]at hs;obtain⟨s1,s2⟩:=hs;generalize (2*(2*n-3)*A)^(2*n-4)=X at *;generalize eB K X (n-1)=W at *;have hD:(0:Rat)<((2*W+1:Nat):Rat):=by
   have:(((0:Nat)):Rat)<((2*W+1:Nat):Rat):=by exact_mod_cast Nat.succ_pos _
   exact this
 have hP:=two_pow_pos e;have a0:=Gw s1;have a1:=Gw s2;have c1:((2*(2*W+1)*(2*eL K A n):Nat):Rat)=2*((2*W+1:Nat):Rat)*(2*(eL K A n:Rat)):=by push_cast;rfl
 have c2:((2*(2*W+1)*eM K A n:Nat):Rat)=2*((2*W+1:Nat):Rat)*(eM K A n:Rat):=by push_cast;rfl
 rw [c1]at a0;rw [c2]at a1;have hi:=Rat.inv_pos.2 hD;have S:=Rat.inv_pos.2 hP;have w:((2*W+1:Nat):Rat)*((2*W+1:Nat):Rat)⁻¹=1:=O4;have G:((2^e:Nat):Rat)*((2^e:Nat):Rat)⁻¹=1:=O4;rw [Rat.div_def,Rat.one_mul]at hh;simp only [Rat.div_def,Rat.one_mul]at j;generalize ((2*W+1:Nat):Rat)=D at *;generalize ((2^e:Nat):Rat)=P at *;have l:(0:Rat)<=(eL K A n:Rat):=Gw (Nat.zero_le _);have R:(0:Rat)<=(eM K A n:Rat):=Gw (Nat.zero_le _);refine Zh7 (s:=-(K:Rat)) (t:=(K:Rat)) (κ:=(Ym (Xd (sqf F xs)):Rat)) (ε:=D⁻¹) (L:=(eL K A n:Rat)) (L':=(eL K A n:Rat)) (M:=(eM K A n:Rat)) (h:=P⁻¹) f2 (Xb g) hC.2.2 O4 (λx=>?_) hi j l (Zo5 n _ O na) l (Zo5 n _ O N) R (Yf1 n _ O na) S ?_ ?_ h1 Z h3 hh
 .rw [<-Kw,<-Zk];exact Om x _ _ λi=>by rw [Qi,Int.mul_comm,Gg]
 .-- P⁻¹ * (2 L) ≤ D⁻¹ / 2
  have t1:=Rat.mul_nonneg (a:=P⁻¹*D⁻¹) (b:=P-2*D*(2*(eL K A n:Rat))) (by have:=Rat.mul_pos S hi;grind) O4;have Q:P⁻¹*D⁻¹*(P-2*D*(2*(eL K A n:Rat)))=D⁻¹*(P*P⁻¹)-2*P⁻¹*(D*D⁻¹)*(2*(eL K A n:Rat)):=O4;rw [Q,w,G]at t1;grind
 .have t1:=Rat.mul_nonneg (a:=P⁻¹*D⁻¹) (b:=P-2*D*(eM K A n:Rat)) (by have:=Rat.mul_pos S hi;grind) O4;have Q:P⁻¹*D⁻¹*(P-2*D*(eM K A n:Rat))=D⁻¹*(P*P⁻¹)-2*P⁻¹*(D*D⁻¹)*(eM K A n:Rat):=O4;rw [Q,w,G]at t1;have t2:=Rat.mul_nonneg (a:=(Ym (Xd (sqf F xs)):Rat)-1) (b:=D⁻¹) O4 O4;grind
theorem Zl9(V:Tr xs)(N:xs≠[])(R:Ae F xs){s:Rat}(w:s<=t):vat ((chn F xs).map Zd) t<=vat ((chn F xs).map Zd) s:=by
 obtain⟨h,P,G⟩:=Zl8 V N R s t;have I:∀f u v,0<=crs f u v:=λf u v=>by unfold crs;split<;>decide
 have D:∀n:Nat,∀y,s<=y->y<=t->y-s<=(n:Rat)*h->vat ((chn F xs).map Zd) y<=vat ((chn F xs).map Zd) s:=λn=>by
  induction n with
  | zero=>
    intro y e g j;have:y=s:=by simp at j;grind
    rw [this];exact Int.le_refl _
  | succ n M=>
   intro y e g j;have H:((n+1:Nat):Rat)*h=(n:Rat)*h+h:=by push_cast;grind
   rcases(show y-s<=(n:Rat)*h\/(n:Rat)*h<y-s by grind)with l|l
   .exact M y e g l
   .have Q:(0:Rat)<=(n:Rat)*h:=Rat.mul_nonneg (by exact_mod_cast Nat.zero_le n) O4;rcases(show s<=y-h\/y-h<s by grind)with o|o
    .have a:=M (y-h) o O4 O4;have b:=G (y-h) y o O4 g O4;have c:=I (Zd (sqf F xs)) (y-h) y;omega
    .have b:=G s y O4 e g O4;have c:=I (Zd (sqf F xs)) s y;omega
 have e:∃n:Nat,t-s<=(n:Rat)*h:=by
  have g:0<h⁻¹:=Rat.inv_pos.2 P;refine⟨((t-s)*h⁻¹).ceil.toNat,?_⟩;have j:=@Rat.le_ceil ((t-s)*h⁻¹);have H:((((t-s)*h⁻¹).ceil:Int):Rat)<=((((t-s)*h⁻¹).ceil.toNat:Nat):Rat):=by have:((t-s)*h⁻¹).ceil<=((((t-s)*h⁻¹).ceil.toNat:Nat):Int):=Int.self_le_toNat _;exact_mod_cast this
  have l:=Rat.mul_le_mul_of_nonneg_right (Rat.le_trans j H) (show 0<=h by grind);have Q:(t-s)*h⁻¹*h=t-s:=O4;grind
 obtain⟨n,S⟩:=e;exact D n t w O4 S
def qv(z:R2):Rat:=(z.1:Rat)/(z.2:Rat)
theorem Zvb{x y X Y g:Nat}(j:g=Nat.gcd x y)(R:0<y)(S:0<Y)(h:x*Y=X*y):y/g∣Y/\x/g<=X:=by
 have l:0<g:=by rw [j];exact Nat.gcd_pos_of_pos_right _ R
 have Q:Nat.Coprime (x/g) (y/g):=by rw [j];exact Nat.coprime_div_gcd_div_gcd (by rw [<-j];exact l)
 have D:x/g*g=x:=Nat.div_mul_cancel (by rw [j];exact Nat.gcd_dvd_left _ _);have n:y/g*g=y:=Nat.div_mul_cancel (by rw [j];exact Nat.gcd_dvd_right _ _);have o:x/g*Y=X*(y/g):=by refine Nat.eq_of_mul_eq_mul_right l ?_;have M:x/g*Y*g=x/g*g*Y:=O4;have N:X*(y/g)*g=X*(y/g*g):=O4;rw [M,N,D,n,h]
 have H:y/g∣Y:=Q.symm.dvd_of_dvd_mul_left (by rw [o];exact Nat.dvd_mul_left _ _);refine⟨H,?_⟩;obtain⟨k,I⟩:=H;have w:0<k:=Nat.pos_of_ne_zero λe=>by rw [e,Nat.mul_zero]at I;omega
 have G:0<y/g:=Nat.pos_of_ne_zero λe=>by rw [e,Nat.zero_mul]at n;omega
 rw [I]at o;have P:x/g*k=X:=by refine Nat.eq_of_mul_eq_mul_right G ?_;have:x/g*k*(y/g)=x/g*(y/g*k):=O4;rw [this,o]
 rw [<-P];exact Nat.le_mul_of_pos_right _ w
theorem Zp4{x y X Y:Int}(P:0<y)(R:0<Y)(h:x*Y=X*y)(M:bl X.natAbs<=B)(e:bl Y.natAbs<=B)(Q:B<=65536) :
  ¬Ll x y/\Ge x y∣Y/\0<Ge x y/\bl (Gy x y).natAbs<=B/\bl (Ge x y).natAbs<=B/\Gy x y*y=x*Ge x y:=by
 have S:Le x y=(Nat.gcd x.natAbs y.natAbs:Int):=by rw [Ynu O];rfl
 have N:x.natAbs*Y.natAbs=X.natAbs*y.natAbs:=by rw [<-Int.natAbs_mul,<-Int.natAbs_mul,h]
 obtain⟨n,H⟩:=Zvb (g:=Nat.gcd x.natAbs y.natAbs) rfl (by omega:0<y.natAbs) (by omega:0<Y.natAbs) N;have o:(y/Le x y).natAbs=y.natAbs/Nat.gcd x.natAbs y.natAbs:=by rw [Int.natAbs_ediv_of_dvd (Zld x y),Zcr]
 have I:(x/Le x y).natAbs=x.natAbs/Nat.gcd x.natAbs y.natAbs:=by rw [Int.natAbs_ediv_of_dvd (Zt7 x y),Zcr]
 have D:bl (y/Le x y).natAbs<=B:=Nat.le_trans (Og (by rw [o];exact Nat.le_of_dvd O n)) e;have G:bl (x/Le x y).natAbs<=B:=Nat.le_trans (Og (by rw [I];exact H)) M;have j:¬Ll x y:=λh=>by unfold Ll at h;omega
 obtain⟨w,l,-⟩:=Zah j;refine⟨j,?_,Zpx j P,by rw [w];exact G,by rw [l];exact D,?_⟩
 .rw [l];refine Int.natAbs_dvd_natAbs.1 ?_;rw [o];exact n
 .rw [w,l];exact Yhz x y
structure En (K Q:Nat) (d:Nat) (z:R2):Prop where
 pos:0<z.2
 dv:z.2∣((Q*2^d:Nat):Int)
 lo:-(K:Rat)<=qv z
 hi:qv z<=(K:Rat)
theorem En.up{Q d:Nat}{z:R2}(h:En K Q d z):En K Q (d+1) z:=by
 obtain⟨e,g,j,l⟩:=h;refine⟨e,?_,j,l⟩;have:((Q*2^(d+1):Nat):Int)=((Q*2^d:Nat):Int)*2:=by rw [Nat.pow_succ];push_cast;grind
 rw [this];exact Int.dvd_trans g (Int.dvd_mul_right _ _)
theorem canc{N p s Y X D:Int}(l:p≠0)(h:N*p=s*D)(j:s*Y=X*p):N*Y=X*D:=by refine Int.eq_of_mul_eq_mul_right l ?_;have e:N*Y*p=(N*p)*Y:=O4;have g:X*D*p=(X*p)*D:=O4;rw [e,g,h,<-j];grind
theorem Gf{z:Int}(h:0<z):(0:Rat)<(z:Rat):=by exact_mod_cast h
def Zc7{n:Nat}(h:n<2^m):bl n<=m:=(Qg m n).2 h
theorem mid_en{Q d:Nat}{a b:R2}(ha:En K Q d a)(hb:En K Q d b)(hQ:0<Q)(a5:Q*2^(d+1)<2^B)(a6:2*K*(Q*2^d)<2^B)(hB:B<=65536) :
  Zec a b/\En K Q (d+1) (Pq a b)/\qv (Pq a b)=(qv a+qv b)/2/\bl (Pq a b).1.natAbs<=B/\bl (Pq a b).2.natAbs<=B:=by
 obtain⟨pa,⟨g,da⟩,la,ua⟩:=ha;obtain⟨pb,⟨h,db⟩,lb,ub⟩:=hb;generalize S:((Q*2^d:Nat):Int)=Y at *;have a0:0<Q*2^d:=Nat.mul_pos hQ (Nat.pow_pos O2);have o:0<Y:=by rw [<-S];exact_mod_cast a0
 have a8:=Gf pa;have a9:=Gf pb;have rY:=Gf o;have N:0<a.2*b.2:=Int.mul_pos pa pb;have j:(a.1*b.2+b.1*a.2)*Y=(a.1*g+b.1*h)*(a.2*b.2):=by have V:(a.1*g+b.1*h)*(a.2*b.2)=a.1*b.2*(a.2*g)+b.1*a.2*(b.2*h):=O4;rw [V,<-da,<-db];grind
 have a2:(a.1:Rat)*g=qv a*Y:=by
  unfold qv;have:(Y:Rat)=(a.2:Rat)*g:=by rw [da];push_cast;rfl
  rw [this];grind
 have a3:(b.1:Rat)*h=qv b*Y:=by
  unfold qv;have:(Y:Rat)=(b.2:Rat)*h:=by rw [db];push_cast;rfl
  rw [this];grind
 have hX:((a.1*g+b.1*h:Int):Rat)=(qv a+qv b)*Y:=by push_cast;rw [a2,a3];grind
 have a7:(a.1*g+b.1*h).natAbs<=2*K*(Q*2^d):=by
  have l:((2*K*(Q*2^d):Nat):Rat)=2*(K:Rat)*(Y:Rat):=by rw [<-S];push_cast;grind
  have t1:=Rat.mul_nonneg (a:=2*(K:Rat)-(qv a+qv b)) (b:=(Y:Rat)) O4 O4;have t2:=Rat.mul_nonneg (a:=2*(K:Rat)+(qv a+qv b)) (b:=(Y:Rat)) O4 O4;have u1:((a.1*g+b.1*h:Int):Rat)<=(((2*K*(Q*2^d):Nat):Int):Rat):=by rw [hX];push_cast at l ⊢;grind
  have u2:((-((2*K*(Q*2^d):Nat):Int):Int):Rat)<=((a.1*g+b.1*h:Int):Rat):=by rw [hX];push_cast at l ⊢;grind
  have v1:a.1*g+b.1*h<=((2*K*(Q*2^d):Nat):Int):=by exact_mod_cast u1
  have v2:-((2*K*(Q*2^d):Nat):Int)<=a.1*g+b.1*h:=by exact_mod_cast u2
  omega
 have w:Y.natAbs=Q*2^d:=by rw [<-S];rfl
 have Z:Q*2^(d+1)=2*(Q*2^d):=by rw [Nat.pow_succ];grind
 have a1:bl Y.natAbs<=B:=Zc7 (by rw [w];omega);have D:bl (a.1*g+b.1*h).natAbs<=B:=Zc7 O;obtain⟨f1,f2,f3,f4,f5,f6⟩:=Zp4 N o j D a1 hB;have a4:=canc (Int.ne_of_gt N) f6 j;have G:bl (2*Y).natAbs<=B:=Zc7 (by rw [Int.natAbs_mul,w];show 2*(Q*2^d)<_;omega);have P:Gy (a.1*b.2+b.1*a.2) (a.2*b.2)*1*(2*Y)=(a.1*g+b.1*h)*(Ge (a.1*b.2+b.1*a.2) (a.2*b.2)*2):=by rw [Int.mul_one];have V:Gy (a.1*b.2+b.1*a.2) (a.2*b.2)*(2*Y)=2*(Gy (a.1*b.2+b.1*a.2) (a.2*b.2)*Y):=O4;rw [V,a4];grind
 have M:0<Ge (a.1*b.2+b.1*a.2) (a.2*b.2)*2:=O;obtain⟨g1,g2,W,g4,g5,g6⟩:=Zp4 M (by omega:0<2*Y) P D G hB;have R:=canc (Int.ne_of_gt M) g6 P;have H:(Pq a b).1=Gy (Gy (a.1*b.2+b.1*a.2) (a.2*b.2)*1) (Ge (a.1*b.2+b.1*a.2) (a.2*b.2)*2):=rfl;have I:(Pq a b).2=Ge (Gy (a.1*b.2+b.1*a.2) (a.2*b.2)*1) (Ge (a.1*b.2+b.1*a.2) (a.2*b.2)*2):=rfl;rw [<-H,<-I]at R;rw [<-I]at g2 W g5;rw [<-H]at g4;have hq:qv (Pq a b)=(qv a+qv b)/2:=by
  have h1:(((Pq a b).1:Int):Rat)*(2*(Y:Rat))=((a.1*g+b.1*h:Int):Rat)*(((Pq a b).2:Int):Rat):=by
   have:(((Pq a b).1*(2*Y):Int):Rat)=(((a.1*g+b.1*h)*(Pq a b).2:Int):Rat):=by rw [R]
   push_cast at this ⊢;grind
  rw [hX]at h1;have rd:=Gf W;unfold qv at *;generalize (((Pq a b).1:Int):Rat)=n at *;generalize (((Pq a b).2:Int):Rat)=m at *;generalize (a.1:Rat)/(a.2:Rat)=p at *;generalize (b.1:Rat)/(b.2:Rat)=q at *;generalize (Y:Rat)=y at *;grind
 refine⟨⟨f1,g1⟩,⟨W,?_,by rw [hq];grind,by rw [hq];grind⟩,hq,g4,g5⟩;have e:((Q*2^(d+1):Nat):Int)=2*Y:=by rw [Z,<-S];push_cast;rfl
 rw [e];exact g2
end Go.Sky

