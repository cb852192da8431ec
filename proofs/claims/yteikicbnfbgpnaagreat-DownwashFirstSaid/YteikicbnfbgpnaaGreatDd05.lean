/- Rules, arithmetic and contracts: part 6. No conditions but those that each theorem names. -/
import Derived.Test.YteikicbnfbgpnaaGreatDd04
set_option linter.all false
namespace Go.Sky
variable{p q a b s u xs x y v z:List Int}{c k d r:Int}{f m F i K B:Nat}{t κ:Rat}
theorem Yat(t:Int):∀p:List Int,Zf p (t:Rat)=((ev1 p t:Int):Rat)
 | []=>rfl
 | c::p=>by have h:=Yat t p;rw [show Zf (c::p) (t:Rat)=(c:Rat)+(t:Rat)*Zf p (t:Rat)from rfl,show ev1 (c::p) t=c+t*ev1 p t from rfl,h];push_cast;rfl
theorem Zpn(h:∀x:Rat,Zf p x=0)(i:Nat):cf p i=0:=by
 by_cases j:cf p i=0
 .exact j
 .exfalso;have:=Zs6 p.length p ((List.range p.length).map λn:Nat=>(n:Int)) rfl ⟨i,j⟩ (by
   refine List.Pairwise.map _ (λa b g=>?_) List.nodup_range;intro e;exact g (by exact_mod_cast e)) (λt o=>by
   have l:=Yat t p;rw [h]at l;exact_mod_cast l.symm)
  simp at this
theorem Nj(h:∀x:Rat,Zf p x=Zf q x)(i:Nat):cf p i=cf q i:=by have e:=Zpn (p:=Mt p (q.map λa=>(-1)*a)) (λx=>by rw [Xi,Zl,h x];push_cast;grind) i;rw [Lk,Qu]at e;omega
def Lg(p:List Int)(x:Rat):Zf (tzl p) x=Zf p x:=Nw x _ _ λi=>Mv p i
theorem Yo(p q:List Int)(x:Rat):Zf (Qn p q) x=Zf p x*Zf q x:=by rw [<-Yc];exact Nw x _ _ λi=>by rw [Hh,Ek,PS.mul_c];rfl
theorem Pu(c:Int)(x:Rat):Zf [c] x=(c:Rat):=by show(c:Rat)+x*0=c;grind
def ld:List Int->List Int
 | []=>[]
 | _::p=>Mt p (0::ld p)
theorem Zf4(c:Int)(p:List Int)(x:Rat):Zf (ld (c::p)) x=Zf p x+x*Zf (ld p) x:=by rw [show ld (c::p)=Mt p (0::ld p)from rfl,Xi];show Zf p x+(((0:Int):Rat)+x*Zf (ld p) x)=_;push_cast;grind
theorem Zg6:∀(p:List Int) (i:Nat),cf (ld p) i=cf p (i+1)*((i:Int)+1)
 | [],i=>by rw [Zb6,show ld []=[]from rfl,Zb6,cN]
 | c::p,0=>by rw [show ld (c::p)=Mt p (0::ld p)from rfl,Lk];show cf p 0+0=cf p 0*_;simp
 | c::p,i+1=>by have h:=Zg6 p i;rw [show ld (c::p)=Mt p (0::ld p)from rfl,Lk];show cf p (i+1)+cf (ld p) i=cf p (i+1)*_;rw [h];push_cast;grind
theorem Kv(p:List Int)(x:Rat):Zf (Yx p) x=Zf (ld p) x:=Nw x _ _ λi=>by rw [Zg5,Zg6]
theorem Ce(h:∀x,Zf p x=Zf q x)(x:Rat):Zf (ld p) x=Zf (ld q) x:=Nw x _ _ λi=>by rw [Zg6,Zg6,Nj h]
theorem Ym1(p q:List Int)(x:Rat):Zf (ld (Mt p q)) x=Zf (ld p) x+Zf (ld q) x:=by rw [<-Xi];exact Nw x _ _ λi=>by rw [Zg6,Lk,Lk,Zg6,Zg6];grind
theorem Aw(c:Int)(p:List Int)(x:Rat):Zf (ld (p.map λa=>c*a)) x=(c:Rat)*Zf (ld p) x:=by rw [<-Zl];exact Nw x _ _ λi=>by rw [Zg6,Qu,Qu,Zg6];grind
theorem Be(x:Rat):∀p q:List Int,Zf (ld (lmul p q)) x=Zf (ld p) x*Zf q x+Zf p x*Zf (ld q) x
 | [],q=>by show(0:Rat)=0*Zf q x+0*Zf (ld q) x;grind
 | c::p,q=>by have h:=Be x p q;rw [show lmul (c::p) q=Mt (q.map λa=>c*a) (0::lmul p q)from rfl,Ym1,Aw,Zf4,Zf4,h,Yc,show Zf (c::p) x=(c:Rat)+x*Zf p x from rfl];grind
def Ed(g a:List Int):Prop:=∃(k:Int) (s:List Int),k≠0/\∀x:Rat,(k:Rat)*Zf a x=Zf s x*Zf g x
theorem Ed.refl(a:List Int):Ed a a:=⟨1,[1],O3,λx=>by rw [Pu]⟩
theorem Ed.nil(g:List Int):Ed g []:=⟨1,[],O3,λx=>by show(((1:Int)):Rat)*0=0*Zf g x;grind⟩
theorem Ed.trans{c:List Int} : Ed a b->Ed b c->Ed a c:=λ⟨k,s,j,h⟩ ⟨m,u,l,e⟩=>
 ⟨k*m,lmul u s,bK j l,λx=>by have n:=h x;have g:=e x;rw [Yc];push_cast;have:(k:Rat)*m*Zf c x=k*(m*Zf c x):=O4;rw [this,g];grind⟩
theorem Ed.congr{g:List Int}(h:Ed g a)(e:∀x,Zf a x=Zf b x):Ed g b:=by obtain⟨k,s,j,h⟩:=h;exact⟨k,s,j,λx=>by rw [<-e x];exact h x⟩
theorem Ed.congr_l{g j:List Int}(h:Ed g a)(e:∀x,Zf g x=Zf j x):Ed j a:=by obtain⟨k,s,l,h⟩:=h;exact⟨k,s,l,λx=>by rw [<-e x];exact h x⟩
theorem Ed.sim{g:List Int}(h:Ed g a)(e:Sim a b):Ed g b:=by
 obtain⟨k,s,o,h⟩:=h;obtain⟨m,n,D,w,e⟩:=e;refine⟨k*n,s.map λc=>m*c,bK o w,λx=>?_⟩;have j:Zf (a.map λc=>m*c) x=Zf (b.map λc=>n*c) x:=Nw x _ _ λi=>by rw [Qu,Qu,e]
 rw [Zl,Zl]at j;rw [Zl];have:=h x;push_cast;have l:(k:Rat)*n*Zf b x=k*(n*Zf b x):=O4;rw [l,<-j];grind
theorem Ed.lin{g c:List Int}(w:Ed g a)(D:Ed g b)(s:List Int)(L:Int)(o:L≠0)(h:∀x,(L:Rat)*Zf c x=Zf s x*Zf a x+Zf b x):Ed g c:=by obtain⟨k,u,G,j⟩:=w;obtain⟨m,v,H,l⟩:=D;refine⟨L*(k*m),Mt ((lmul s u).map λc=>m*c) (v.map λc=>k*c),bK o (bK G H),λx=>?_⟩;have j:=j x;have l:=l x;have h:=h x;rw [Xi,Zl,Zl,Yc];push_cast;have e:(L:Rat)*(k*m)*Zf c x=k*m*(L*Zf c x):=O4;rw [e,h];have n:(k:Rat)*m*(Zf s x*Zf a x+Zf b x)=m*Zf s x*(k*Zf a x)+k*(m*Zf b x):=O4;rw [n,j,l];grind
theorem Zxj{g:List Int}(P:k≠0)(N:Tr g)(M:Tr a)(I:a≠[])(h:∀x:Rat,(k:Rat)*Zf a x=Zf s x*Zf g x):g≠[]/\tzl s≠[]/\(tzl s).length+g.length<=a.length+1:=by
 have o:∀i,k*cf a i=(ps (tzl s)*ps g).c i:=λi=>by have j:=Nj (p:=a.map λc=>k*c) (q:=lmul (tzl s) g) (λx=>by rw [Zl,Yc,Lg];exact h x) i;rw [Qu,Ek]at j;rw [j,PS.mul_c];rfl
 have H:∀i,k*cf a i=0->cf a i=0:=λi hi=>(eJ.1 hi).resolve_left P;have l:=M.mem I;have j:tzl s≠[]:=λe=>l (H _ (by rw [o,e,Lu (λt=>Yg (bG _))]));have n:g≠[]:=λe=>l (H _ (by rw [o,e,PS.mul_comm',Lu (λt=>Yg (bG _))]));refine⟨n,j,?_⟩;have Q:=aE.2 j;have R:=aE.2 n;have D:=Ah (p:=tzl s) (q:=g) (a:=(tzl s).length-1) (b:=g.length-1) (λi hi=>Yg O) (λi hi=>Yg O);rw [<-o]at D;have w:=bK ((Qg s).mem j) (N.mem n);rcases bA ((tzl s).length-1+(g.length-1)) a.length with G|G
 .omega
 .rw [Yg G,dO]at D;exact absurd D.symm w
theorem Ed.len{g:List Int}(h:Ed g a)(o:Tr g)(n:Tr a)(l:a≠[]):g≠[]/\g.length<=a.length:=by obtain⟨k,s,w,h⟩:=h;obtain⟨e,j,D⟩:=Zxj w o n l h;have:=aE.2 j;exact⟨e,O⟩
theorem Ed.same{g:List Int}(h:Ed g a)(G:Tr g)(w:Tr a)(o:a≠[])(M:g.length=a.length):Ed a g:=by
 obtain⟨k,s,H,h⟩:=h;obtain⟨I,j,n⟩:=Zxj H G w o h;have e:=aE.2 j
 match hs:tzl s,e,n with
 | [c],_,_=>
  have D:c≠0:=by have:=(Qg s).mem j;rw [hs]at this;exact this
  refine⟨c,[k],D,λx=>?_⟩;have l:=h x;rw [<-Lg s,hs,Pu]at l;rw [Pu];exact l.symm
 | c::d::r,_,h9=>simp at h9;omega
theorem Zmy:∀(n:Nat) (a b:List Int),Tr a->Tr b->b.length<=n->∃g A B:List Int,Tr g/\Ed g a/\Ed g b/\∀x,Zf g x=Zf A x*Zf a x+Zf B x*Zf b x
 | n,a,[],j,l,_=>⟨a,[1],[],j,Ed.refl a,Ed.nil a,λx=>by rw [Pu];show _=_+0*(0:Rat);push_cast;grind⟩
 | 0,a,c::r,_,_,hl=>absurd hl O5
 | n+1,a,c::b',j,l,hl=>by
  have h:(c::b')≠[]:=O5;generalize c::b'=b at *;obtain⟨k,s,hs⟩:=Cf a h;have w:=Nn (l.mem h) k;generalize cf b (b.length-1)^k=L at hs w;have M:=Pd a h;obtain⟨g,A,B,G,o,H,I⟩:=Zmy n b (Xv a b) l (Ki j) O;have D:∀x,(L:Rat)*Zf a x=Zf s x*Zf b x+Zf (Xv a b) x:=λx=>by have:=Dr (a:=L) (c:=-1) (x:=a) (s:=s) (y:=b) (z:=Xv a b) (λt=>by rw [hs t];omega) x;push_cast at this;grind
  refine⟨g,B.map λc=>L*c,Mt A ((lmul B s).map λc=>(-1)*c),G,o.lin H s L w D,o,λx=>?_⟩;rw [Zl,Xi,Zl,Yc,I x];have:=D x;have e:Zf (Xv a b) x=L*Zf a x-Zf s x*Zf b x:=O4;rw [e];push_cast;grind
def Irr(q:List Int):Prop:=Tr q/\2<=q.length/\∀d,Tr d->Ed d q->d.length<=1\/d.length=q.length
theorem Zd5(h:2<=q.length):q≠[]:=λe=>by rw [e]at h;simp at h
theorem Yil:∀(n:Nat) (q:List Int),q.length<=n->Tr q->2<=q.length->∃p,Irr p/\Ed p q
 | 0,q,G,_,j=>O
 | n+1,q,G,o,j=>by
  by_cases h:Irr q
  .exact⟨q,h,Ed.refl q⟩
  .have:∃d,Tr d/\Ed d q/\¬(d.length<=1\/d.length=q.length):=by refine bN λD=>h ⟨o,j,λd e g=>bN λw=>D ⟨d,e,g,w⟩⟩
   obtain⟨d,e,g,M⟩:=this;have H:=(g.len e o (Zd5 j)).2;obtain⟨p,I,l⟩:=Yil n d O e O;exact⟨p,I,l.trans g⟩
theorem Za5{f h m:List Int}(S:Irr q)(R:k≠0)(e:∀x:Rat,(k:Rat)*(Zf f x*Zf h x)=Zf m x*Zf q x):Ed q f\/Ed q h:=by
 obtain⟨j,n,G⟩:=S;obtain⟨g,A,B,l,o,I,w⟩:=Zmy _ q (tzl f) j (Qg f) (aH _);have Q:=(o.len l j (Zd5 n)).1;rcases G g l o with D|D
 .right
  match g,Q,D,l,w with
  | [c],_,_,l,w=>
   have P:c≠0:=l.mem O5;refine⟨c*k,Mt ((lmul A h).map λc=>k*c) (lmul B m),bK P R,λx=>?_⟩;have H:=w x;have N:=e x;rw [Pu,Lg]at H;rw [Xi,Zl,Yc,Yc];push_cast;rw [H];have:(Zf A x*Zf q x+Zf B x*Zf f x)*k*Zf h x=k*Zf A x*Zf q x*Zf h x+Zf B x*(k*(Zf f x*Zf h x)):=O4;rw [this,N];grind
  | c::d::r,_,h9,_,_=>simp at h9
 .left;have M:=o.same l j (Zd5 n) D;exact(M.trans I).congr λx=>Lg f x
def Fe(q:List Int):Nat->List Int
 | 0=>[1]
 | n+1=>Qn q (Fe q n)
theorem Zaz{q:List Int}(j:Tr q)(g:2<=q.length):∀n,Tr (Fe q n)/\n+1<=(Fe q n).length
 | 0=>⟨.inr (show cf [1] 0≠0 by decide),aH _⟩
 | n+1=>by obtain⟨l,h⟩:=Zaz j g n;refine⟨Qi _ _,?_⟩;show n+1+1<=(Qn q (Fe q n)).length;rw [Ov j l (Zd5 g) (λe=>by rw [e]at h;simp at h)];omega
def Eb(q:List Int)(n:Nat)(x:Rat):Zf (Fe q (n+1)) x=Zf q x*Zf (Fe q n) x:=Yo _ _ _
theorem Zpr(q:List Int):∀(n:Nat) (x:Rat),Zf (ld (Fe q (n+1))) x=((n:Rat)+1)*(Zf (Fe q n) x*Zf (ld q) x)
 | n,x=>by
  have e:Zf (ld (Fe q (n+1))) x=Zf (ld (lmul q (Fe q n))) x:=Ce (λy=>by rw [Eb,Yc]) x;rw [e,Be]
  match n with
  | 0=>
   rw [show Zf (ld (Fe q 0)) x=0 from by rw [show Fe q 0=[1]from rfl,Zf4];show(0:Rat)+x*0=0;grind];simp;grind
  | n+1=>
   rw [Zpr q n x,Eb];push_cast;grind
theorem Yfh{g u:List Int}{c:Int}{k:Nat}(N:∀x:Rat,Zf p x=Zf s x*Zf g x)(M:∀d,Tr d->Ed d p->Ed d (ld p)->Ed d g)(hq:Irr q)(h1:Ed q s)(h2:Ed q (ld s))(hk:Ed (Fe q k) g):Ed (Fe q (k+1)) g:=by
 obtain⟨o,D,P⟩:=hq;obtain⟨n,j,k1,R⟩:=h1;obtain⟨G,s2,k2,e2⟩:=h2;have Z:∀x:Rat,(n:Rat)*Zf (ld s) x=Zf (ld j) x*Zf q x+Zf j x*Zf (ld q) x:=λx=>by have:=Ce (p:=s.map λa=>n*a) (q:=lmul j q) (λy=>by rw [Zl,Yc];exact R y) x;rwa [Aw,Be]at this
 have h3:Ed q j:=by
  rcases Za5 (f:=j) (h:=ld q) (m:=Mt (s2.map λa=>n*a) ((ld j).map λa=>(-G)*a)) ⟨o,D,P⟩ k2 (λx=>by have Q:=Z x;have V:=e2 x;rw [Xi,Zl,Zl];push_cast;have:(G:Rat)*(Zf j x*Zf (ld q) x)=n*(G*Zf (ld s) x)-G*(Zf (ld j) x*Zf q x):=O4;rw [this,V];grind)with h9|h9
  .exact h9
  .exfalso;have h8:Ed q (Yx q):=h9.congr λx=>(Kv q x).symm;have S:=Od q;have:=(h8.len o (Ni o) (λe=>by rw [e]at S;simp at S;omega)).2;omega
 obtain⟨w,l,k3,e3⟩:=h3;obtain⟨c,u,kc,eu⟩:=hk;have I:∀x:Rat,((n*w*c:Int):Rat)*Zf p x=Zf (lmul l u) x*Zf (Fe q (k+1+1)) x:=λx=>by rw [N x,Yc,Eb,Eb];push_cast;have Q:=R x;have W:=e3 x;have Y:=eu x;have:(n:Rat)*w*c*(Zf s x*Zf g x)=w*(n*Zf s x)*(c*Zf g x):=O4;rw [this,Q,Y];have:(w:Rat)*(Zf j x*Zf q x)*(Zf u x*Zf (Fe q k) x)=(w*Zf j x)*Zf q x*(Zf u x*Zf (Fe q k) x):=O4;rw [this,W];grind
 have H:n*w*c≠0:=bK (bK k1 k3) kc;generalize n*w*c=C at I H;have hD:∀x:Rat,(C:Rat)*Zf (ld p) x=Zf (ld (lmul l u)) x*Zf (Fe q (k+1+1)) x+Zf (lmul l u) x*((((k+1:Nat):Rat)+1)*(Zf (Fe q (k+1)) x*Zf (ld q) x)):=λx=>by have:=Ce (p:=p.map λa=>C*a) (q:=lmul (lmul l u) (Fe q (k+1+1))) (λy=>by rw [Zl,Yc];exact I y) x;rwa [Aw,Be,Zpr]at this
 refine M _ (Zaz o D _).1 ⟨C,lmul (lmul l u) q,H,λx=>?_⟩ ⟨C,Mt (lmul (ld (lmul l u)) q) ((lmul (lmul l u) (ld q)).map λa=>((k+2:Nat):Int)*a),H,λx=>?_⟩
 .rw [I x,Yc _ (lmul l u),Eb q (k+1)];grind
 .rw [hD x,Xi,Zl,Yc _ (ld (lmul l u)),Yc _ (lmul l u),Eb q (k+1)];push_cast;grind
theorem Yfj{g:List Int}(l:∀x:Rat,Zf p x=Zf s x*Zf g x)(I:Tr g)(D:g≠[])(j:∀d,Tr d->Ed d p->Ed d (ld p)->Ed d g)(M:Tr q)(G:Ed q s)(H:Ed q (ld s)):q.length<=1:=by
 refine bN λh=>?_;obtain⟨r,n,e⟩:=Yil _ q (aH _) M O;have o:∀k,Ed (Fe r k) g:=λk=>by
  induction k with
  | zero=>exact⟨1,g,O3,λx=>by rw [show Fe r 0=[1]from rfl,Pu];push_cast;grind⟩
  | succ k N=>exact Yfh (u:=[]) (c:=0) l j n (e.trans G) (e.trans H) N
 obtain⟨w,P⟩:=Zaz n.1 n.2.1 g.length;have:=((o g.length).len w I D).2;omega
theorem Yod{d:List Int}(o:Tr b)(g:b≠[])(h:Ed d a)(j:Ed d b):Ed d (Xv a b):=by
  obtain⟨k,s,hs⟩:=Cf a g;have n:=Nn (o.mem g) k;generalize cf b (b.length-1)^k=L at hs n;have w:∀x,(L:Rat)*Zf a x=Zf s x*Zf b x+Zf (Xv a b) x:=λx=>by have:=Dr (a:=L) (c:=-1) (x:=a) (s:=s) (y:=b) (z:=Xv a b) (λt=>by rw [hs t];omega) x;push_cast at this;grind
  have l:Ed d (a.map λc=>L*c):=by obtain⟨k,u,D,e⟩:=h;exact⟨k,u.map λc=>L*c,D,λx=>by rw [Zl,Zl];have:=e x;grind⟩
  exact j.lin l (s.map λc=>(-1)*c) 1 O3 λx=>by rw [Zl,Zl];push_cast;have:=w x;grind
theorem Zun{d:List Int} : ∀(f:Nat) {a b:List Int},Tr a->Tr b->Ed d a->Ed d b->Ed d (eu f a b)
  | 0,a,b,_,_,e,_=>e
  | f+1,a,b,l,j,e,h=>by
    by_cases g:b=[]
    . rw [g,Di];exact e
    . rw [show eu (f + 1) a b = eu f b (Zx (Xv a b)) by
          conv=>lhs;unfold eu
          rw [aD g]]
      have t1:=Ki (q:=b) l;exact Zun f j (Yv t1) h ((Yod j g e h).sim (Qf t1).symm)
theorem Zlf{d:List Int}(e:Tr p)(g:Tr q)(h:Ed d p)(j:Ed d q):Ed d (Na F p q):=by
  have l:=h.sim (Qf e).symm;have n:=j.sim (Qf g).symm;unfold Na;refine Ed.sim ?_ (Hd _).symm;refine Zun F (Zil e g) (Zik e g) ?_ ?_
  . unfold gA;split<;>assumption
  . unfold gB;split<;>assumption
theorem Zfu(j:Tr xs)(l:xs≠[])(e:eok F (gA (Yz xs) (Yx (Yz xs))) (gB (Yz xs) (Yx (Yz xs))))(w:Tr q)(n:Ed q (sqf F xs))(o:Ed q (Yx (sqf F xs))):q.length<=1:=by
  obtain⟨f1,f2,f3,f4,f5,f6⟩:=Ou (F:=F) j l e;have hs:Tr (Yz xs):=Oy (Yv j);have h:Tr (Yx (Yz xs)):=Ni hs;refine Yfj (p:=Yz xs) (s:=sqf F xs) (g:=Na F (Yz xs) (Yx (Yz xs))) (λx=>?_) (Zdq hs h) f5 (λd _ a b=>?_) w n (o.congr λx=>Kv _ x)
  . have:Zf (Yz xs) x=Zf (Qn (sqf F xs) (Na F (Yz xs) (Yx (Yz xs)))) x:=by rw [<-f4]
    rw [this,Yo]
  . exact Zlf hs h a (b.congr λx=>(Kv _ x).symm)
theorem Zbd:∀(l:List Int) (n z:Int),(l.foldl Nc (n,z)).1=n+(l.foldl Nc (0,z)).1
 | [],n,z=>O5
 | x::l,n,z=>by
  simp only [gQ];by_cases h:x=0
  .have e:∀n,Nc (n,z) x=(n,z):=λn=>by unfold Nc;rw [aF h]
   rw [e,e];exact Zbd l n z
  .by_cases g:x=-z
   .have e:∀n,Nc (n,z) x=(n+1,x):=λn=>by unfold Nc;rw [aD h,aF (by dsimp only;exact g)]
    rw [e,e,Zbd l (n+1) x,Zbd l (0+1) x];omega
   .have e:∀n,Nc (n,z) x=(n,x):=λn=>by unfold Nc;rw [aD h,aD (by dsimp only;exact g)]
    rw [e,e];exact Zbd l n x
theorem Ypf{x y:Int}(l:List Int)(n:y≠0):chg (x::y::l)=chg (y::l)+(if x=-y then 1 else 0):=by
 unfold chg;simp only [gQ];have g:Nc (0,0) y=(0,y):=by unfold Nc;rw [aD n,aD O9]
 rw [g];by_cases j:x=0
 .have e:Nc (0,0) x=(0,0):=by unfold Nc;rw [aF j]
  rw [e,g,aD O];omega
 .have e:Nc (0,0) x=(0,x):=by unfold Nc;rw [aD j,aD O9]
  rw [e];have o:Nc (0,x) y=(if x=-y then 1 else 0,y):=by
   unfold Nc;rw [aD n];by_cases h:x=-y
   .rw [aF O9,aF h];rfl
   .rw [aD O9,aD h]
  rw [o,Zbd];omega
def crs(f:Rat->Rat)(u v:Rat):Int:=if f u≠0/\f u*f v<=0 then 1 else 0
theorem Zjk(s t:Rat):∀p:List Int,∃M:Rat,0<M/\∀x y,s<=x->x<=y->y<=t->
  -(M*(y-x)*(y-x))<=Zf p y-Zf p x-(y-x)*Zf (ld p) x/\Zf p y-Zf p x-(y-x)*Zf (ld p) x<=M*(y-x)*(y-x)
 | []=>⟨1,O3,λx y Y Z h3=>by have:=aJ (a:=y-x) (b:=y-x) O4 O4;show -(1*(y-x)*(y-x))<=(0:Rat)-0-(y-x)*0/\(0:Rat)-0-(y-x)*0<=1*(y-x)*(y-x);constructor<;>grind⟩
 | c::p=>by obtain⟨M,N,P⟩:=Zjk s t p;obtain⟨L,l1,I⟩:=Bd s t p;obtain⟨K,G,H⟩:=Yob s t;refine⟨L+K*M,by have:=bD G N;grind,λx y hs h l=>?_⟩;obtain⟨n,o⟩:=P x y hs h l;obtain⟨R,S⟩:=I x y hs h l;obtain⟨w,D⟩:=H x hs O4;have j:0<=y-x:=O4;obtain⟨f1,f2⟩:=Zca (q:=x) (Q:=K) (g:=Zf p y-Zf p x-(y-x)*Zf (ld p) x) (e:=M*(y-x)*(y-x)) w D n o O4;have V:=aJ (a:=y-x) (b:=L*(y-x)-(Zf p y-Zf p x)) j O4;have W:=aJ (a:=y-x) (b:=L*(y-x)+(Zf p y-Zf p x)) j O4;rw [Zf4,show Zf (c::p) y=(c:Rat)+y*Zf p y from rfl,show Zf (c::p) x=(c:Rat)+x*Zf p x from rfl];constructor<;>grind
theorem Ybg(G:Tr a)(hb:Tr b)(h0:a≠[])(hc:∀q,Tr q->Ed q a->Ed q b->q.length<=1)(s t:Rat):∃ε:Rat,0<ε/\∀x,s<=x->x<=t->Big ε x (Zf a)\/Big ε x (Zf b):=by
 obtain⟨g,A,B,e,o,g3,j⟩:=Zmy _ a b G hb (aH _);have hl:=hc g e o g3;have hg:=(o.len e G h0).1
 match g,hg,hl,e,j with
 | [c],_,_,e,j=>
  have n:c≠0:=e.mem O5;obtain⟨P,p1,p2⟩:=Zta s t A;obtain⟨Q,q1,q2⟩:=Zta s t B;obtain⟨ε,Z,e2,e3⟩:=Gb (show(0:Rat)<1 by decide) (show 0<(P+Q)+(P+Q) by grind) (show(0:Rat)<1 by decide);refine⟨ε,Z,λx hs H=>?_⟩;by_cases w:Big ε x (Zf a)
  .exact .inl w
  .by_cases D:Big ε x (Zf b)
   .exact .inr D
   .exfalso;obtain⟨I,M⟩:=Zd4 w;obtain⟨N,R⟩:=Zd4 D;obtain⟨S,V⟩:=p2 x hs H;obtain⟨W,Y⟩:=q2 x hs H;obtain⟨u1,u2⟩:=Zca S V I M O4;obtain⟨v1,v2⟩:=Zca W Y N R O4;have h4:=j x;rw [Pu]at h4;have l:(c:Rat)<=-1\/1<=(c:Rat):=by
     rcases nR n with h|h
     .left;have:((c:Int):Rat)<=((-1:Int):Rat):=by exact_mod_cast (show c<=-1 by omega)
      rwa [show(((-1:Int)):Rat)=-1 from rfl]at this
     .right;have:1<=c:=O;exact_mod_cast this
    rcases l with l|l<;>grind
 | c::d::r,_,h9,_,_=>simp at h9
theorem Big.near{ε x y:Rat}{f:Rat->Rat}(h:Big ε x f)(e:f x-f y<=ε/2)(g:f y-f x<=ε/2):Big (ε/2) y f:=by unfold Big at *;grind
theorem Zir(x:Rat):Ea x=-1↔x<0:=by
 unfold Ea;by_cases h:x<0
 .rw [aF h];simp [h]
 .rw [aD h];by_cases e:x=0
  .rw [aF e];simp [h]
  .rw [aD e];simp [h]
theorem Yf9(x:Rat):Ea (-x)=- Ea x:=by
 unfold Ea;by_cases h:x<0
 .rw [aF h,aD O4,aD O4];rfl
 .rw [aD h];by_cases e:x=0
  .rw [aF e,aD O4,aF O4];rfl
  .rw [aD e,aF O4]
theorem Znm{f g:Rat->Rat}(r:List (Rat->Rat)){x:Rat}(h:Ea (g x)≠0):vat (f::g::r) x=vat (g::r) x+(if Ea (f x)=- Ea (g x)then 1 else 0):=by unfold vat;simp only [cK];exact Ypf _ h
def Tay(s t M:Rat)(p:List Int):Prop:=∀x y,s<=x->x<=y->y<=t->-(M*(y-x)*(y-x))<=Zf p y-Zf p x-(y-x)*Zf (ld p) x/\Zf p y-Zf p x-(y-x)*Zf (ld p) x<=M*(y-x)*(y-x)
theorem Zio {s:Rat}   (ha:Tr a) (hb:Tr b) (a2:cok f a b)  (hκ:0<κ) (Z:∀x,Zf (ld a) x=κ*Zf b x)
  {ε L L' M h:Rat} (e1:0<ε) (e2:∀x,s<=x->x<=t->Big ε x (Zf a)\/Big ε x (Zf b)) (l1:0<=L) (l2:Lip s t L (Zf a)) (b0:0<=L') (P:Lip s t L' (Zf b)) (m1:0<=M) (m2:Tay s t M a)
  (h5:0<h) (h3:h*(L+L')<=ε/2) (h7:h*M<=κ*ε/2) {u v:Rat} (hs:s<=u) (j:u<=v) (ht:v<=t) (hh:v-u<=h) :
  vat ((Nu f a b).map Zf) u-vat ((Nu f a b).map Zf) v=crs (Zf a) u v:=by
 have S:∀w,u<=w->w<=v->L*(w-u)<=ε/2/\L'*(w-u)<=ε/2:=λw l o=>by have p1:=aJ (a:=L) (b:=h-(w-u)) O4 O4;have p2:=aJ (a:=L') (b:=h-(w-u)) O4 O4;have p3:=aJ (a:=L) (b:=h) O4 O4;have p4:=aJ (a:=L') (b:=h) O4 O4;constructor<;>grind
 by_cases G:Big ε u (Zf a)
 .have hB:∀w,u<=w->w<=v->Big (ε/2) w (Zf a):=λw l o=>by obtain⟨x1,x2⟩:=l2 u w hs l O4;have:=S w l o;exact G.near O4 O4
  rw [Zfz ha hb a2 j (show 0<ε/2 by grind) hB];have hv:=hB v j O4;have:crs (Zf a) u v=0:=by
   unfold crs;refine aD λ⟨_,R⟩=>?_;obtain⟨x1,x2⟩:=l2 u v hs j ht;have a7:=S v j O4;unfold Big at G hv;rcases G with hp|hp
   .have:0<Zf a v:=O4;have:=bD (show 0<Zf a u by grind) this;grind
   .have:0 < - Zf a v:=O4;have:=bD (show 0 < - Zf a u by grind) this;grind
  omega
 .have n:Big ε u (Zf b):=(e2 u hs O4).resolve_left G;have hB:∀w,u<=w->w<=v->Big (ε/2) w (Zf b):=λw l o=>by obtain⟨x1,x2⟩:=P u w hs l O4;have:=S w l o;exact n.near O4 O4
  have a3:b≠[]:=λe=>by rw [e]at n;unfold Big at n;have:Zf [] u=0:=rfl;rw [this]at n;grind
  obtain⟨g,hg,hd,a9,W,a5⟩:=Zg2 a2 a3;have hT:=Zfz hb (Zck ha) W j (show 0<ε/2 by grind) hB;obtain⟨r,hr,_,_,_⟩:=Zn7 (s:=u) (t:=v) g b (Ns a b) hb (Zck ha) W;rw [a5,hr];rw [hr]at hT;simp only [cK]at hT ⊢;have a6:∃σ:Rat,(σ=1\/σ=-1)/\ε<σ*Zf b u/\∀w,u<=w->w<=v->0<σ*Zf b w:=by
   unfold Big at n;rcases n with hp|hp
   .refine⟨1,.inl rfl,O4,λw l o=>?_⟩;obtain⟨x1,x2⟩:=P u w hs l O4;have:=S w l o;grind
   .refine⟨-1,.inr rfl,O4,λw l o=>?_⟩;obtain⟨x1,x2⟩:=P u w hs l O4;have:=S w l o;grind
  obtain⟨σ,hσ,a8,V⟩:=a6;have D:u<v->σ*Zf a u<σ*Zf a v:=λH=>by
   obtain⟨y1,y2⟩:=m2 u v hs j ht;rw [Z u]at y1 y2;have hd:0<v-u:=O4;have z1:M*(v-u)<=κ*ε/2:=by have:=aJ (a:=M) (b:=h-(v-u)) O4 O4;grind
   have z2:0<κ*(σ*Zf b u)-M*(v-u):=by have:=bD hκ (show 0<σ*Zf b u-ε by grind);have:=bD hκ e1;grind
   have z3:=bD hd z2;rcases hσ with rfl|rfl<;>grind
  have a1:∀w,u<=w->w<=v->Ea (Zf b w)≠0:=λw l o=>by
   have:=V w l o;rcases hσ with rfl|rfl
   .rw [Ar O4];decide
   .rw [Au O4];decide
  rw [Znm _ (a1 u O4 j),Znm _ (a1 v j O4),hT];have I:∀w,u<=w->w<=v->(Ea (Zf a w)=- Ea (Zf b w)↔σ*Zf a w<0):=λw l o=>by
   have:=V w l o;rcases hσ with rfl|rfl
   .rw [Ar (x:=Zf b w) O4,Zir];constructor<;>intro<;>grind
   .rw [Au (x:=Zf b w) O4,show(-(-1:Int))=- -1 from rfl];have R:=Zir (-(Zf a w));rw [Yf9]at R;constructor
    .intro h8;have:=R.1 O;grind
    .intro h8;have:=R.2 O4;omega
  rw [show(if Ea (Zf a u)=- Ea (Zf b u)then(1:Int)else 0)=if σ*Zf a u<0 then 1 else 0 from by simp only [I u O4 j]];rw [show(if Ea (Zf a v)=- Ea (Zf b v)then(1:Int)else 0)=if σ*Zf a v<0 then 1 else 0 from by simp only [I v j O4]];have Y:crs (Zf a) u v=if σ*Zf a u<0/\¬σ*Zf a v<0 then 1 else 0:=by
   unfold crs;have a4:Zf a u*Zf a v=(σ*Zf a u)*(σ*Zf a v):=by rcases hσ with rfl|rfl<;>grind
   have hz:Zf a u≠0↔σ*Zf a u≠0:=by rcases hσ with rfl|rfl<;>constructor<;>intro R h8<;>exact R O4
   have a0:(Zf a u≠0/\Zf a u*Zf a v<=0)↔(σ*Zf a u<0/\¬σ*Zf a v<0):=by
    rw [a4,hz];generalize hp:σ*Zf a u=p at *;generalize hq:σ*Zf a v=q at *;constructor
    .intro ⟨n1,n2⟩;rcases(show u<v\/u=v by grind)with H|N
     .have:=D H;rcases(show p<0\/0<p by grind)with Q|Q
      .refine⟨Q,λn4=>?_⟩;have:=bD (show 0 < -p by grind) (show 0 < -q by grind);grind
      .have:=bD Q (show 0<q by grind);grind
     .exfalso;have:q=p:=by rw [<-hp,<-hq,N]
      rw [this]at n2;rcases(show p<0\/0<p by grind)with Q|Q
      .have:=bD (show 0 < -p by grind) (show 0 < -p by grind);grind
      .have:=bD Q Q;grind
    .intro ⟨n1,n2⟩;refine⟨O4,?_⟩;have:=aJ (show 0<=-p by grind) (show 0<=q by grind);grind
   simp only [a0]
  rw [Y];by_cases k1:σ*Zf a u<0<;>by_cases k2:σ*Zf a v<0
  .simp [k1,k2]
  .simp [k1,k2];omega
  .exfalso;rcases(show u<v\/u=v by grind)with H|N
   .have:=D H;grind
   .rw [N]at k1;exact k1 k2
  .simp [k1,k2]
theorem Zkn{s:Rat}(D:Tr a)(G:Tr b)(N:a≠[])(g:cok f a b)(H:0<κ)(e:∀x,Zf (ld a) x=κ*Zf b x)(S:∀q,Tr q->Ed q a->Ed q b->q.length<=1) :
  ∃h:Rat,0<h/\∀u v,s<=u->u<=v->v<=t->v-u<=h->vat ((Nu f a b).map Zf) u-vat ((Nu f a b).map Zf) v=crs (Zf a) u v:=by
 obtain⟨ε,o,I⟩:=Ybg D G N S s t;obtain⟨L,l1,Z⟩:=Bd s t a;obtain⟨n,Y,l⟩:=Bd s t b;obtain⟨M,m1,m2⟩:=Zjk s t a;obtain⟨P,Q,h3,h4⟩:=Gb (show(0:Rat)<1 by decide) (show 0<L+n by grind) (show 0<ε/2 by grind);obtain⟨h,w,h6,R⟩:=Gb Q m1 (show 0<κ*ε/2 by have:=bD H o;grind);refine⟨h,w,λu v hs j W V=>Zio D G g H e o I O4 Z O4 l O4 m2 w ?_ R hs j W V⟩;have:=aJ (a:=L+n) (b:=P-h) O4 O4;grind
theorem Yip:∀(n m:Nat) (f:Nat->Nat),(∀k,k<n->f k<m)->(∀a b,a<n->b<n->f a=f b->a=b)->n<=m
 | 0,_,_,_,_=>bG _
 | n+1,m,f,g,hi=>by
  have j:=g n O;have:=Yip n (m-1) (λk=>if f n<f k then f k-1 else f k) (λk G=>by
   have l:=g k O;have h:f k≠f n:=λe=>by have:=hi k n O O e;omega
   split<;>omega) (λa b w D e=>by
   have h:f a≠f n:=λe=>by have:=hi a n O O e;omega
   have o:f b≠f n:=λe=>by have:=hi b n O O e;omega
   refine hi a b O O ?_;split at e<;>split at e<;>omega)
  omega
theorem php{n:Nat}{f:Nat->Nat}(h:m<n)(w:∀k,k<n->f k<m):∃a b,a<n/\b<n/\a≠b/\f a=f b:=by refine bN λj=>?_;have:=Yip n m f w λa b l o e=>bN λg=>j ⟨a,b,l,o,g,e⟩;omega
def enc(B:Nat)(d:Nat->Nat):Nat->Nat
 | 0=>0
 | n+1=>enc B d n+d n*B^n
theorem Zq6{B:Nat}{d:Nat->Nat} : ∀n,(∀i,i<n->d i<B)->enc B d n<B^n
 | 0,_=>by simp [enc]
 | n+1,h=>by have j:=Zq6 n λi hi=>h i O;have e:=h n O;have g:(d n+1)*B^n<=B*B^n:=aK _ e;rw [bH,lX]at g;rw [bX,aO (B^n) B];show enc B d n+d n*B^n<_;omega
theorem Yay{B:Nat}{d e:Nat->Nat} : ∀n,(∀i,i<n->d i<B)->(∀i,i<n->e i<B)->enc B d n=enc B e n->∀i,i<n->d i=e i
 | 0,_,_,_,i,hi=>absurd hi (bT i)
 | n+1,g,j,h,i,hi=>by
  have D:=Zq6 n λi hi=>g i O;have G:=Zq6 n λi hi=>j i O;have h:enc B d n+d n*B^n=enc B e n+e n*B^n:=h;have w:0<B^n:=O;have o:d n=e n:=by
   have H:(enc B d n+d n*B^n)/B^n=d n:=by rw [mV _ _ w,cP D,bZ]
   have I:(enc B e n+e n*B^n)/B^n=e n:=by rw [mV _ _ w,cP G,bZ]
   rw [<-H,<-I,h]
  rcases bA i n with l|l
  .exact Yay n (λi hi=>g i O) (λi hi=>j i O) (by rw [o]at h;omega) i l
  .rw [show i=n by omega];exact o
def dig(B k j:Nat):Nat:=k/B^j%B
theorem Zq7(B k:Nat):∀n,enc B (dig B k) n=k%B^n
 | 0=>by simp [enc,mZ]
 | n+1=>by show enc B (dig B k) n+dig B k n*B^n=_;rw [Zq7 B k n,bX,nA];unfold dig;rw [aO]
theorem Zkm{f:Nat->Int}{C:Int} : ∀n,(∀i,i<n->-C<=f i/\f i<=C)->-((n:Int)*C)<=Yf f n/\Yf f n<=(n:Int)*C
 | 0,_=>by simp [Hr]
 | n+1,h=>by
  have g:=Zkm n λi hi=>h i O;have j:=h n O;have e:((n+1:Nat):Int)*C=(n:Int)*C+C:=by push_cast;grind
  rw [Yi,e];omega
theorem Znw(f g:Nat->Int):∀n,Yf (λi=>f i-g i) n=Yf f n-Yf g n
 | 0=>by simp [Hr]
 | n+1=>by rw [Yi,Yi,Yi,Znw f g n];omega
theorem siegel{N M A:Nat}(a0:M<N)(hA:0<A)(c:Nat->Nat->Int)(hc:∀i j,i<M->j<N->(c i j).natAbs<=A) :
  ∃x:Nat->Int,(∃j,j<N/\x j≠0)/\(∀j,j<N->(x j).natAbs<=(2*N*A)^M)/\∀i,i<M->Yf (λj=>c i j*x j) N=0:=by
 generalize hX:(2*N*A)^M=X;generalize Z:N*(A*X)=W;let d:=λk j=>dig (X+1) k j;have H:∀k j,d k j<=X:=λk j=>oA (bO _ (jO X));let y:=λk i=>Yf (λj=>c i j*(d k j:Int)) N;have R:∀k i,i<M->-(W:Int)<=y k i/\y k i<=(W:Int):=λk i hi=>by
  have g:=Zkm (f:=λj=>c i j*(d k j:Int)) (C:=((A*X:Nat):Int)) N λj P=>by
   have h:=hc i j hi P;have w:(c i j*(d k j:Int)).natAbs<=A*X:=by rw [cH,dD];exact aR h (H k j)
   omega
  have l:((N:Int)*((A*X:Nat):Int))=(W:Int):=by rw [<-Z];push_cast;rfl
  rw [l]at g;exact g
 let e:=λk=>enc (2*W+1) (λi=>(y k i+(W:Int)).toNat) M;have I:∀k i,i<M->(y k i+(W:Int)).toNat<2*W+1:=λk i hi=>by have:=R k i hi;omega
 have Q:(2*W+1)^M<(X+1)^N:=by
  have g:2*W+1<=(2*N*A)*(X+1):=by
   have:0<N*A:=fW O hA;have o:2*N*A*(X+1)=2*W+2*(N*A):=by rw [<-Z];grind
   omega
  have h:=fK g M;rw [Nat.mul_pow,hX]at h;have w:(X+1)^(M+1)<=(X+1)^N:=dH O O;rw [bX]at w;have l:0<(X+1)^M:=cE O;have h5:X*(X+1)^M<(X+1)^M*(X+1):=by rw [aO];exact jI O l
  omega
 obtain⟨a,b,ha,hb,G,hf⟩:=php (f:=e) Q (λk _=>Zq6 M (I k));have S:=Yay M (I a) (I b) hf;refine⟨λj=>(d a j:Int)-(d b j:Int),?_,λj _=>?_,λi hi=>?_⟩
 .refine bN λh9=>G ?_;have h8:∀j,j<N->d a j=d b j:=λj P=>bN λD=>h9 ⟨j,P,λY=>D (by have Y:(d a j:Int)-(d b j:Int)=0:=Y;omega)⟩;have o:=Zq7 (X+1) a N;have V:=Zq7 (X+1) b N;rw [aW ha]at o;rw [aW hb]at V;have e3:∀n,n<=N->enc (X+1) (dig (X+1) a) n=enc (X+1) (dig (X+1) b) n:=λn=>by
   induction n with
   | zero=>intro _;rfl
   | succ n ih=>
    intro hn;have D:dig (X+1) a n=dig (X+1) b n:=h8 n O;show enc _ _ n+dig (X+1) a n*_=enc _ _ n+dig (X+1) b n*_;rw [ih O,D]
  rw [<-o,<-V];exact e3 N (aH _)
 .have g:=H a j;have h:=H b j;dsimp only;omega
 .have g:Yf (λj=>c i j*((d a j:Int)-(d b j:Int))) N=y a i-y b i:=by rw [<-Znw];exact Xa λj _=>O4
  rw [g];have h:=S i hi;have w:=R a i hi;have l:=R b i hi;omega
theorem Zim(f:Nat->Int)(p:Nat):∀q,Yf f (p+q)=Yf f p+Yf (λk=>f (p+k)) q
 | 0=>by simp [Hr]
 | q+1=>by rw [<-fR,Yi,Yi,Zim f p q];omega
def sft(a:List Int)(t k:Nat):Int:=if k<=t then cf a (t-k)else 0
theorem Zmk{U:List Int}{p:Nat}(h:U.length=p)(t:Nat):(ps U*ps a).c t=Yf (λk=>sft a t k*cf U k) p:=by rw [<-Zvp,<-h];refine Xa λk _=>?_;unfold sft;split<;>grind
theorem Zee{U:List Int}{p t:Nat}(h:U.length<=p)(j:p+a.length<=t+1):(ps U*ps a).c t=0:=by
 rw [PS.mul_c];refine Gf λk g=>?_;rw [Ol,Ol];rcases bA k U.length with e|e
 .rw [Yg (p:=a) O,dO]
 .rw [Yg e,cN]
theorem Ziq{p q lo A:Nat}(D:0<A)(G:∀i,(cf a i).natAbs<=A)(H:∀i,(cf b i).natAbs<=A)(P:0<p+q)(Q:p+a.length<=p+q+lo)(R:q+b.length<=p+q+lo) :
  ∃U V:List Int,U.length=p/\V.length=q/\((∃i,cf U i≠0)\/∃i,cf V i≠0)/\(∀i,(cf U i).natAbs<=(2*(p+q)*A)^(p+q-1))/\(∀i,(cf V i).natAbs<=(2*(p+q)*A)^(p+q-1))/\
   ∀t,lo<=t->(ps U*ps a).c t+(ps V*ps b).c t=0:=by
 obtain⟨x,⟨j,S,e⟩,w,I⟩:=siegel (N:=p+q) (M:=p+q-1) (A:=A) O D (λi j=>if j<p then sft a (lo+i) j else sft b (lo+i) (j-p)) (λi j _ _=>by
  split<;>unfold sft<;>split
  .exact G _
  .simp
  .exact H _
  .simp)
 have l:∀i,cf (mk p x) i=if i<p then x i else 0:=λi=>Nq _ _ _
 have n:∀i,cf (mk q λk=>x (p+k)) i=if i<q then x (p+i)else 0:=λi=>Nq _ _ _
 refine⟨mk p x,mk q λk=>x (p+k),Yu _ _,Yu _ _,?_,λi=>?_,λi=>?_,λt W=>?_⟩
 .rcases bA j p with h|h
  .exact .inl ⟨j,by rw [l,aF h];exact e⟩
  .exact .inr ⟨j-p,by rw [n,aF O,show p+(j-p)=j by omega];exact e⟩
 .rw [l];split
  .exact w i O
  .exact bG _
 .rw [n];split
  .exact w _ O
  .exact bG _
 .rcases bA (t-lo) (p+q-1)with h|h
  .have o:=I (t-lo) h;rw [show lo+(t-lo)=t by omega,Zim]at o;rw [Zmk (Yu _ _),Zmk (Yu _ _),<-o];congr 1
   .exact Xa λk g=>by rw [aF g,l,aF g]
   .exact Xa λk g=>by rw [aD O,n,aF g,show p+k-p=k by omega]
  .rw [Zee (oF (Yu _ _)) O,Zee (oF (Yu _ _)) O];rfl
theorem Ybh{U:List Int}{p t X A:Nat}(h:U.length=p)(j:∀i,(cf U i).natAbs<=X)(l:∀i,(cf a i).natAbs<=A):((ps U*ps a).c t).natAbs<=p*(X*A):=by
 rw [Zmk h];have e:=Zkm (f:=λk=>sft a t k*cf U k) (C:=((X*A:Nat):Int)) p λk _=>by
  have:(sft a t k*cf U k).natAbs<=X*A:=by
   rw [cH,aO];refine aR (j k) ?_;unfold sft;split
   .exact l _
   .simp
  omega
 have g:((p:Int)*((X*A:Nat):Int))=((p*(X*A):Nat):Int):=by push_cast;rfl
 rw [g]at e;omega
theorem Zf6{w:List Int}{n:Nat}(h:∀x,Zf w x=Zf q x*Zf y x)(H:Tr y)(l:y≠[])(G:∀i,n<=i->cf w i=0):tzl q=[]\/(tzl q).length+y.length<=n+1:=by
 by_cases g:tzl q=[]
 .exact .inl g
 .right;have D:∀i,cf w i=(ps (tzl q)*ps y).c i:=λi=>by rw [Nj (p:=w) (q:=lmul (tzl q) y) (λx=>by rw [Yc,Lg];exact h x) i,Ek,PS.mul_c];rfl
  have I:=aE.2 g;have M:=aE.2 l;have j:=Ah (p:=tzl q) (q:=y) (a:=(tzl q).length-1) (b:=y.length-1) (λi hi=>Yg O) (λi hi=>Yg O);rw [<-D]at j;have e:=bK ((Qg q).mem g) (H.mem l);rcases bA ((tzl q).length-1+(y.length-1)) n with o|o
  .omega
  .rw [G _ o]at j;exact absurd j.symm e
theorem Ee{f:List Int}(j:tzl v≠[])(h:∀x,Zf v x*Zf f x=0)(x:Rat):Zf f x=0:=by
 by_cases e:tzl f=[]
 .rw [<-Lg,e];rfl
 .exfalso;rcases Zf6 (w:=[]) (q:=v) (y:=tzl f) (n:=0) (λx=>by rw [Lg,h x];rfl) (Qg f) e (λi _=>Zb6 i)with g|g
  .exact j g
  .have:=aE.2 e;have:=aE.2 j;omega
structure Inv (a b x y:List Int):Prop where
 ex:∃(α β γ:Int) (u' v' u v:List Int),α≠0/\β≠0/\γ≠0/\
  (∀t:Rat,(α:Rat)*Zf x t=Zf u' t*Zf a t+Zf v' t*Zf b t)/\(∀t:Rat,(β:Rat)*Zf y t=Zf u t*Zf a t+Zf v t*Zf b t)/\
  (∀t:Rat,Zf u' t*Zf v t-Zf u t*Zf v' t=(γ:Rat))/\(tzl v).length<=a.length-x.length+1/\(tzl v').length<=a.length-x.length+1
 xl:x.length<=b.length
 yl:y.length<x.length
theorem Zzm{L:Int}(g:Tr y)(e:y≠[])(j:z.length<=x.length)(h:∀t:Rat,(L:Rat)*Zf x t=Zf q t*Zf y t+(c:Rat)*Zf z t):tzl q=[]\/(tzl q).length+y.length<=x.length+1:=
 Zf6 (w:=Mt (x.map λa=>L*a) (z.map λa=>(-c)*a)) (n:=x.length) (λt=>by rw [Xi,Zl,Zl];have:=h t;push_cast;grind) g e λi hi=>by rw [Lk,Qu,Qu,Yg hi,Yg (p:=z) O];omega
theorem Zac{n:Nat}(h:(tzl p).length<=m)(j:(tzl q).length<=n)(i:Nat)(hi:m+n<=i+1):cf (lmul p q) i=0:=by have g:cf (lmul p q) i=cf (lmul (tzl p) (tzl q)) i:=Nj (λx=>by rw [Yc,Yc,Lg,Lg]) i;rw [g,Ek];have e:=Zee (U:=tzl p) (a:=tzl q) (p:=m) (t:=i) h O;rw [PS.mul_c]at e;exact e
def Zo5{n:Nat}(h:∀i,n<=i->cf p i=0):(tzl p).length<=n:=Zbm h
theorem Ybv{n:Nat}(h:(tzl p).length<=n)(hi:n<=i):cf p i=0:=by rw [<-Mv];exact Yg O
theorem Inv.next{z':List Int}{L:Int}(W:Inv a b x y)(Z:b.length<=a.length)(hx:Tr x)(hy:Tr y)(V:y≠[])(Y:L≠0)(h:∀t:Rat,(L:Rat)*Zf x t=Zf q t*Zf y t+Zf z' t)(hz:Sim z' z)(l:z.length<y.length):Inv a b y z:=by
 obtain⟨⟨α,β,γ,u',I,u,v,hα,o,hγ,R,D,S,l1,l2⟩,xl,yl⟩:=W;obtain⟨m,n,hm,hn,hs⟩:=hz;have j:∀t:Rat,(m:Rat)*Zf z' t=(n:Rat)*Zf z t:=λt=>by
  have:=Nw t (z'.map λa=>m*a) (z.map λa=>n*a) λi=>by rw [Qu,Qu,hs]
  rwa [Zl,Zl]at this
 have G:∀t:Rat,((L*m:Int):Rat)*Zf x t=Zf (q.map λa=>m*a) t*Zf y t+(n:Rat)*Zf z t:=λt=>by rw [Zl];push_cast;have:=h t;have:=j t;grind
 have e:=Zzm hy V O G;have g:(tzl (q.map λa=>m*a)).length<=x.length-y.length+1:=by
  rcases e with H|H
  .rw [H];simp
  .omega
 generalize hQ:(q.map λa=>m*a)=Q at *;have w:∀t:Rat,((n*(α*β):Int):Rat)*Zf z t=Zf (Mt (u'.map λc=>(L*m*β)*c) ((lmul Q u).map λc=>(-α)*c)) t*Zf a t+Zf (Mt (I.map λc=>(L*m*β)*c) ((lmul Q v).map λc=>(-α)*c)) t*Zf b t:=λt=>by rw [Xi,Xi,Zl,Zl,Zl,Zl,Yc,Yc];have M:=G t;have N:=R t;have P:=D t;push_cast at M ⊢;have:(n:Rat)*(α*β)*Zf z t=α*β*(n*Zf z t):=O4;rw [this,show(n:Rat)*Zf z t=L*m*Zf x t-Zf Q t*Zf y t by grind];have:(α:Rat)*β*(L*m*Zf x t-Zf Q t*Zf y t)=L*m*β*(α*Zf x t)-α*Zf Q t*(β*Zf y t):=O4;rw [this,N,P];grind
 refine⟨⟨β,n*(α*β),-(L*m*β*γ),u,v,_,_,o,bK hn (bK hα o),?_,D,w,λt=>?_,?_,?_⟩,O,l⟩
 .have:=bK (bK (bK Y hm) o) hγ;omega
 .rw [Xi,Xi,Zl,Zl,Zl,Zl,Yc,Yc];have:=S t;push_cast;grind
 .refine Zo5 λi hi=>?_;rw [Lk,Qu,Qu,Ybv (p:=I) l2 O,Zac g l1 i O];omega
 .omega
theorem Inv.first{z':List Int}{L:Int}(H:b.length<=a.length)(S:Tr a)(I:Tr b)(D:b≠[])(G:L≠0)(h:∀t:Rat,(L:Rat)*Zf a t=Zf q t*Zf b t+Zf z' t)(P:Sim z' z)(l:z.length<b.length):Inv a b b z:=by
 obtain⟨m,n,M,N,hs⟩:=P;have j:∀t:Rat,(m:Rat)*Zf z' t=(n:Rat)*Zf z t:=λt=>by
  have:=Nw t (z'.map λa=>m*a) (z.map λa=>n*a) λi=>by rw [Qu,Qu,hs]
  rwa [Zl,Zl]at this
 have o:∀t:Rat,((L*m:Int):Rat)*Zf a t=Zf (q.map λa=>m*a) t*Zf b t+(n:Rat)*Zf z t:=λt=>by rw [Zl];push_cast;have:=h t;have:=j t;grind
 have e:=Zzm I D O o;have g:(tzl (q.map λa=>m*a)).length<=a.length-b.length+1:=by
  rcases e with w|w
  .rw [w];simp
  .omega
 generalize R:(q.map λa=>m*a)=Q at *;refine⟨⟨1,n,-(L*m),[],[1],[L*m],Q.map λc=>(-1)*c,O3,N,?_,λt=>?_,λt=>?_,λt=>?_,?_,?_⟩,aH _,l⟩
 .have:=bK G M;omega
 .rw [Pu];show _=(0:Rat)*_+_;grind
 .rw [Pu,Zl];have:=o t;push_cast at this ⊢;grind
 .rw [Pu,Pu];show(0:Rat)*_-_=_;push_cast;grind
 .refine Zo5 λi hi=>?_;rw [Qu,Ybv g O];omega
 .refine aB (Mp _) ?_;simp
def Zhk{n:Nat}(h:Sz n a)(i:Nat):(cf a i).natAbs<=2^n:=dZ ((Qm n _).1 (h i))
theorem Av(h:tzl p=[])(x:Rat):Zf p x=0:=by rw [<-Lg,h];rfl
def tzl_ne(h:cf p i≠0):tzl p≠[]:=λe=>h ((Kg p).1 e i)
def nn_eq{x a b:Nat}(e:x<=b)(g:b<=a):b-x+1+(a-x+1)=a+b-2*x+2:=O
theorem Inv.bound{n s:Nat}(hI:Inv a b x y)(a6:b.length<=a.length)(ha:Tr a)(hx:Tr x)(hy:Tr y)(h0:y≠[])(hp:Ys y=1)(na:Sz n a)(nb:Sz n b)(hs:a.length+b.length-2*x.length+2<=2^s) :
  Xm y<=(s+1+n)*(a.length+b.length-2*x.length+2):=by
 obtain⟨⟨α,β,γ,u',P,u,v,hα,hβ,hγ,e1,Q,e3,l1,l2⟩,xl,yl⟩:=hI;have b3:=aE.2 h0;have b2:x≠[]:=λe=>by rw [e]at yl;simp at yl
 have M:a≠[]:=λe=>by
  have g:a.length=0:=by rw [e];rfl
  omega
 obtain⟨U,V,lU,lV,a9,bU,bV,hz⟩:=Ziq (a:=a) (b:=b) (p:=b.length-x.length+1) (q:=a.length-x.length+1) (lo:=x.length-1) (A:=2^n) (cE O3) (Zhk na) (Zhk nb) O O O;have hv:a.length+1<=(tzl v).length+x.length:=by
  refine bN λg=>?_;have a8:∀i,cf (Mt (a.map λc=>γ*c) ((lmul y P).map λc=>β*c)) i=cf (lmul (tzl v) (x.map λc=>α*c)) i:=λi=>Nj (λt=>by
   rw [Xi,Zl,Zl,Yc,Yc,Zl,Lg];have Z:=e1 t;have H:=Q t;have a3:=e3 t;have:Zf v t*(α*Zf x t)=(Zf u' t*Zf v t-Zf u t*Zf P t)*Zf a t+(Zf u t*Zf a t+Zf v t*Zf b t)*Zf P t:=by rw [Z];grind
   rw [this,a3,<-H];grind) i
  have l:=a8 (a.length-1);rw [Lk,Qu,Qu,Zac (m:=y.length) (n:=a.length-x.length+1) (Mp _) l2 _ O,Ek]at l;have S:=Zee (U:=tzl v) (a:=x.map λc=>α*c) (p:=(tzl v).length) (t:=a.length-1) (aH _) (by rw [aP];omega);rw [PS.mul_c]at S;have h3:Yf (λk=>cf (tzl v) k*cf (x.map λc=>α*c) (a.length-1-k)) (a.length-1+1)=0:=S;rw [h3]at l;have:=bK hγ (ha.mem M);omega
 have h:tzl v≠[]:=λe=>by rw [e]at hv;simp at hv;omega
 have cR:∀i,cf (Mt (lmul U a) (lmul V b)) i=(ps U*ps a).c i+(ps V*ps b).c i:=λi=>by rw [Lk,Ek,Ek,PS.mul_c,PS.mul_c];rfl
 generalize hR:Mt (lmul U a) (lmul V b)=R at cR;have rR:∀t,Zf R t=Zf U t*Zf a t+Zf V t*Zf b t:=λt=>by rw [<-hR,Xi,Yc,Yc]
 have lR:(tzl R).length<=x.length-1:=Zo5 λi hi=>by rw [cR];exact hz i hi
 have hf:tzl (Mt (lmul U v) ((lmul u V).map λc=>(-1)*c))=[]:=by
  rcases Zf6 (w:=Mt (lmul R v) ((lmul y V).map λc=>(-β)*c)) (q:=Mt (lmul U v) ((lmul u V).map λc=>(-1)*c)) (y:=a) (n:=a.length-1) (λt=>by
   rw [Xi,Zl,Yc,Yc,Xi,Zl,Yc,Yc,rR];have H:=Q t;push_cast;have:(-(β:Rat))*(Zf y t*Zf V t)=- (β*Zf y t)*Zf V t:=O4;rw [this,H];grind) ha M (λi hi=>by
   rw [Lk,Qu,Zac lR l1 i O,Zac (m:=y.length) (n:=a.length-x.length+1) (Mp _) (aB (Mp _) (oF lV)) i O];omega)with g|g
  .exact g
  .refine bN λh8=>?_;have:=aE.2 h8;omega
 have G:∀t,Zf U t*Zf v t=Zf u t*Zf V t:=λt=>by have:=Av hf t;rw [Xi,Zl,Yc,Yc]at this;push_cast at this;grind
 have a4:∀t,Zf R t*Zf v t=β*Zf y t*Zf V t:=λt=>by rw [rR,Q t];have:=G t;grind
 have Y:∀t,(γ:Rat)*Zf V t=Zf v t*Zf (Mt (lmul u' V) ((lmul P U).map λc=>(-1)*c)) t:=λt=>by rw [Xi,Zl,Yc,Yc,<-e3 t];have:=G t;push_cast;grind
 generalize Mt (lmul u' V) ((lmul P U).map λc=>(-1)*c)=w at Y;have hV:tzl V≠[]:=λe=>by
  rcases a9 with⟨i,hi⟩|⟨i,hi⟩
  .refine hi (Nj (p:=U) (q:=[]) (λt=>?_) i▸Zb6 i);exact Ee (v:=v) (f:=U) h (λt=>by have:=G t;rw [Av e]at this;grind) t
  .exact tzl_ne hi e
 have b1:∃c:Int,c≠0/\∀t,Zf w t=(c:Rat):=by
  have j:tzl w≠[]:=λe=>hV ((Kg V).2 λi=>by have:=Nj (p:=V.map λc=>γ*c) (q:=[]) (λt=>by rw [Zl,Y t,Av e];show _=(0:Rat);grind) i;rw [Qu,Zb6]at this;exact(eJ.1 this).resolve_left hγ)
  rcases Zf6 (w:=V.map λc=>γ*c) (q:=w) (y:=tzl v) (n:=a.length-x.length+1) (λt=>by rw [Zl,Lg,Y t];grind) (Qg v) h (λi hi=>by rw [Qu,Yg O];omega)with g|g
  .exact absurd g j
  .have h8:=aE.2 j;have h7:(tzl w).length=1:=O
   match W:tzl w,h7 with
   | [c],_=>
    refine⟨c,?_,λt=>by rw [<-Lg,W,Pu]⟩;have:=(Qg w).mem j;rw [W]at this;exact this
 obtain⟨c,a7,W⟩:=b1;have o:Sim R y:=by
  refine⟨γ,β*c,hγ,bK hβ a7,λi=>?_⟩;have:=Nj (p:=R.map λd=>γ*d) (q:=y.map λd=>(β*c)*d) (λt=>by
   rw [Zl,Zl];push_cast;have l:Zf (Mt (R.map λd=>γ*d) (y.map λd=>(-(β*c))*d)) t=0:=Ee (v:=v) h (λt=>by rw [Xi,Zl,Zl];push_cast;have Z:=a4 t;have H:=Y t;rw [W]at H;have:Zf v t*(γ*Zf R t + -(β*c:Rat)*Zf y t)=γ*(Zf R t*Zf v t)-β*Zf y t*(Zf v t*c):=O4;rw [this,Z,<-H];grind) t
   rw [Xi,Zl,Zl]at l;push_cast at l;grind) i
  rwa [Qu,Qu]at this
 have b0:Sz ((s+1+n)*(a.length+b.length-2*x.length+2)) R:=λi=>by
  rw [cR];have c1:=Ybh (t:=i) lU bU (Zhk na);have c2:=Ybh (t:=i) lV bV (Zhk nb);have a0:b.length-x.length+1+(a.length-x.length+1)=a.length+b.length-2*x.length+2:=nn_eq xl a6;rw [<-a0]at hs ⊢;generalize hN:b.length-x.length+1+(a.length-x.length+1)=N at *;generalize I:(2*N*2^n)^(N-1)=X at *;have c3:((ps U*ps a).c i+(ps V*ps b).c i).natAbs<=N*(X*2^n):=by rw [<-hN,bH];have:=lY ((ps U*ps a).c i) ((ps V*ps b).c i);omega
  refine(Qm _ _).2 (aZ c3 ?_);have a5:0<X:=by rw [<-I];exact cE (fW O (cE O3))
  have c4:N*(X*2^n)<(2*N*2^n)^N:=by
   have e:(2*N*2^n)^N=X*(2*N*2^n):=by rw [<-I,<-bX,Nat.succ_eq_add_one,show N-1+1=N by omega]
   rw [e];have:0<N*(X*2^n):=fW O (fW a5 (cE O3));have Q:X*(2*N*2^n)=2*(N*(X*2^n)):=O4;omega
  have c5:2*N*2^n<=2^(s+1+n):=by rw [bW,bX];exact aK _ O
  have c6:=fK c5 N;rw [<-jY]at c6;exact dC c4 c6
 have l:tzl R≠[]:=λe=>by obtain⟨m,k,hm,hk,e9⟩:=o;have:=e9 (y.length-1);rw [(Kg R).1 e,dO]at this;exact bK hk (hy.mem h0) this.symm
 have D:Sim (tzl R) y:=by obtain⟨m,k,hm,hk,e9⟩:=o;exact⟨m,k,hm,hk,λi=>by rw [Mv];exact e9 i⟩
 have S:=(Qf (Qg R)).trans D;have h3:∀i,(cf y i).natAbs=(cf (Zx (tzl R)) i).natAbs:=λi=>by
  rcases Zkp (Yv (Qg R)) hy (λe=>l (aC (by rw [<-Zw,e];rfl))) (Kj (Qg R) l) hp S with g|g
  .rw [g]
  .rw [g i,dW]
 exact Qq λi=>by rw [h3];exact Ho b0.tzl i
def Ztw(g e K:Nat):Prop:=∀l,l<=e->(l+1)*(K*(g+e-2*l+2)+1)<=65536
def Zvg{e g l:Nat}(h:l<=m):K*(e+g-2*m+2)<=K*(e+g-2*l+2):=aX _ O
theorem Zgz{C:Nat}(e:y≠[])(n:y.length<x.length)(g:Xm x<=C)(j:Xm y<=C)(h:(x.length+1)*(C+1)<=65536):Bl x y=0:=by have o:=aE.2 e;unfold Bl;rw [aD O,aD O];have l:(x.length-y.length+1)*(Xm y+1)<=x.length*(C+1):=aR O O;rw [bH,lX]at h;rw [aD O]
theorem Ydw(n:Inv a b x y)(g:b.length<=a.length)(j:Tr x)(l:Tr y)(e:y≠[]):Inv a b y (Zx (Xv x y)):=by
 obtain⟨k,s,hs⟩:=Cf x e;have h:=Nn (l.mem e) k;generalize cf y (y.length-1)^k=L at hs h;have o:∀t:Rat,(L:Rat)*Zf x t=Zf s t*Zf y t+Zf (Xv x y) t:=λt=>by have:=Dr (a:=L) (c:=-1) (x:=x) (s:=s) (y:=y) (z:=Xv x y) (λt=>by rw [hs t];omega) t;push_cast at this;grind
 exact n.next g j l e h o (Qf (Ki j)).symm (by rw [Zw];exact Pd x e)
theorem Zga(h:Tr p):Zx p=[]\/Ys (Zx p)=1:=by
 by_cases e:p=[]
 .left;rw [e];rfl
 .right;exact Kj h e
theorem Bh(g:Tr x)(e:y≠[]):(Ns x y).length<y.length:=by rw [Bg g];exact Pd x e
theorem Ydv(n:Inv a b x y)(l:b.length<=a.length)(h:Tr x)(j:Tr y)(e:y≠[]):Inv a b y (Ns x y)/\(Ns x y=[]\/Ys (Ns x y)=1):=by
 have G:=aE.2 e;have D:=n.yl;obtain⟨r1,r2,k,u,w⟩:=Zbs j e x.length x h O;have hs:=Zds (f:=x.length) h j e O O;have g:Tr (Zfa (Gm x.length x y)):=Qe _ _;have o:Fd y^k≠0:=Nn (by have:=Zf5 j e;omega) _;constructor
 .refine n.next (z':=Gm x.length x y) (q:=u) l h j e o (λt=>?_) ?_ (Bh h e)
  .have:=Dr (a:=Fd y^k) (c:=-1) (x:=x) (s:=u) (y:=y) (z:=Gm x.length x y) (λt=>by rw [w t];omega) t;push_cast at this ⊢;grind
  .rw [<-hs];exact Sim.trans ⟨1,-1,O3,O3,λi=>by rw [Du];omega⟩ (Qf g).symm
 .rw [<-hs];exact Zga g
theorem Yaw{a b:List Int}{n s K:Nat}(h:b.length<=a.length)(M:Tr a)(R:Sz n a)(S:Sz n b)(hs:a.length+b.length<=2^s)(H:s+1+n<=K)(I:Ztw a.length b.length K) :
  ∀(f:Nat) (x y:List Int),Inv a b x y->Tr x->Tr y->(y=[]\/Ys y=1)->Xm x<=K*(a.length+b.length-2*x.length+2)->y.length<=f->eok f x y/\Xm (eu f x y)<=K*(a.length+b.length)
 | 0,x,y,g,w,D,N,o,Y=>by have l:=g.yl;refine⟨aC O,aB o (aX _ (by have:=g.xl;omega))⟩
 | f+1,x,y,g,w,D,N,o,Y=>by
  have G:=g.yl;have l:=g.xl;by_cases e:y=[]
  .subst e;refine⟨.inl rfl,?_⟩;rw [Di];exact aB o (aX _ O)
  .have Z:=aE.2 e;have V:=g.bound h M w D e (N.resolve_left e) R S (s:=s) O;have j:Xm y<=K*(a.length+b.length-2*x.length+2):=aB V (aK _ H);have W:=Zgz e G o j (I x.length l);have P:=Ki (q:=y) w;have Q:=Yaw h M R S hs H I f y (Zx (Xv x y)) (Ydw g h w D e) D (Yv P) (Zga P) (aB j (Zvg O)) (by rw [Zw];have:=Pd x e;omega);refine⟨.inr ⟨W,Q.1⟩,?_⟩;rw [show eu (f+1) x y=eu f y (Zx (Xv x y)) by
     conv=>lhs;unfold eu
     rw [aD e]]
   exact Q.2
theorem Ybj{a b:List Int}{n s K:Nat}(j:b.length<=a.length)(N:Tr a)(R:Sz n a)(S:Sz n b)(hs:a.length+b.length<=2^s)(I:s+1+n<=K)(M:Ztw a.length b.length K) :
  ∀(f:Nat) (x y:List Int),Inv a b x y->Tr x->Tr y->(y=[]\/Ys y=1)->Xm x<=K*(a.length+b.length-2*x.length+2)->y.length<=f->cok f x y/\∀p∈Nu f x y,Xm p<=K*(a.length+b.length)/\p.length<=a.length
 | 0,x,y,h,w,G,e,o,Y=>by
  have D:=h.yl;have P:=h.xl;have g:y=[]:=aC O;refine⟨g,λp e=>?_⟩;have:p=x:=by unfold Nu at e;simpa using e
  rw [this];exact⟨aB o (aX _ O),O⟩
 | f+1,x,y,h,w,G,e,o,Y=>by
  have H:=h.yl;have D:=h.xl;by_cases g:y=[]
  .subst g;refine⟨.inl rfl,λp e=>?_⟩;rw [Ew]at e;have:p=x:=by simpa using e
   rw [this];exact⟨aB o (aX _ O),O⟩
  .have l0:=aE.2 g;have V:=h.bound j N w G g (e.resolve_left g) R S (s:=s) O;have l:Xm y<=K*(a.length+b.length-2*x.length+2):=aB V (aK _ I);have W:=Zgz g H o l (M x.length D);obtain⟨Z,i2⟩:=Ydv h j w G g;have Q:=Ybj j N R S hs I M f y (Ns x y) Z G (Zck w) i2 (aB l (Zvg O)) (by have:=Bh w g;omega);refine⟨.inr ⟨W,O,Q.1⟩,λp e=>?_⟩;unfold Nu at e;rw [aD g]at e;rcases bQ.1 e with rfl|e
   .exact⟨aB o (aX _ O),O⟩
   .exact Q.2 p e
theorem Yax{n s:Nat}(j:b.length<a.length)(h:Tr a)(l:Tr b)(H:Sz n a)(I:Sz n b)(hs:a.length+b.length<=2^s)(N:s+1+n<=K)(Q:Ztw a.length b.length K)(R:(a.length+1)*(n+1)<=65536)(Y:b.length<=f) :
  eok f a b/\Xm (eu f a b)<=K*(a.length+b.length):=by
 have V:=Qq H;have W:=Qq I;have la:0<a.length:=O;have P:n<=K*(a.length+b.length):=aB (by omega:n<=K*1) (aX _ O);by_cases e:b=[]
 .subst e;cases f with
  | zero=>exact⟨rfl,by rw [Di];omega⟩
  | succ f=>exact⟨.inl rfl,by rw [Di];omega⟩
 .have Z:=aE.2 e;obtain⟨g,rfl⟩:∃g,f=g+1:=⟨f-1,O⟩;have o:=Ki (q:=b) h;obtain⟨k,q,D⟩:=Cf a e;have w:=Nn (l.mem e) k;generalize cf b (b.length-1)^k=L at D w;have S:∀t:Rat,(L:Rat)*Zf a t=Zf q t*Zf b t+Zf (Xv a b) t:=λt=>by have:=Dr (a:=L) (c:=-1) (x:=a) (s:=q) (y:=b) (z:=Xv a b) (λt=>by rw [D t];omega) t;push_cast at this;grind
  have M:Inv a b b (Zx (Xv a b)):=Inv.first O h l e w S (Qf o).symm (by rw [Zw];exact Pd a e);have G:=Yaw O h H I hs N Q g b (Zx (Xv a b)) M l (Yv o) (Zga o) (aB (by omega:Xm b<=K*1) (aX _ O)) (by rw [Zw];have:=Pd a e;omega);refine⟨.inr ⟨Zgz e j V W R,G.1⟩,?_⟩;rw [show eu (g+1) a b=eu g b (Zx (Xv a b)) by
    conv=>lhs;unfold eu
    rw [aD e]]
  exact G.2
theorem Yoz{n s:Nat}(H:b.length<a.length)(l:Tr a)(o:Tr b)(M:Sz n a)(N:Sz n b)(hs:a.length+b.length<=2^s)(Q:s+1+n<=K)(S:Ztw a.length b.length K)(V:(a.length+1)*(n+1)<=65536)(hf:b.length<=f) :
  cok f a b/\∀p∈Nu f a b,Xm p<=K*(a.length+b.length)/\p.length<=a.length:=by
 have Y:=Qq M;have Z:=Qq N;have la:0<a.length:=O;have R:n<=K*(a.length+b.length):=aB (by omega:n<=K*1) (aX _ O);by_cases e:b=[]
 .subst e;have j:∀p∈Nu f a [],Xm p<=K*(a.length+([]:List Int).length)/\p.length<=a.length:=λp h=>by
   rw [Ew]at h;have:p=a:=by simpa using h
   rw [this];exact⟨O,aH _⟩
  cases f with
  | zero=>exact⟨rfl,j⟩
  | succ f=>exact⟨.inl rfl,j⟩
 .have l0:=aE.2 e;obtain⟨g,rfl⟩:∃g,f=g+1:=⟨f-1,O⟩;obtain⟨r1,r2,k,u,W⟩:=Zbs o e a.length a l O;have w:=Zds (f:=a.length) l o e O O;have D:Tr (Zfa (Gm a.length a b)):=Qe _ _;have G:Fd b^k≠0:=Nn (by have:=Zf5 o e;omega) _;have P:Inv a b b (Ns a b):=by
   refine Inv.first (z':=Gm a.length a b) (q:=u) O l o e G (λt=>?_) ?_ (Bh l e)
   .have:=Dr (a:=Fd b^k) (c:=-1) (x:=a) (s:=u) (y:=b) (z:=Gm a.length a b) (λt=>by rw [W t];omega) t;push_cast at this ⊢;grind
   .rw [<-w];exact Sim.trans ⟨1,-1,O3,O3,λi=>by rw [Du];omega⟩ (Qf D).symm
  have h:Ns a b=[]\/Ys (Ns a b)=1:=by rw [<-w];exact Zga D
  have I:=Ybj O l M N hs Q S g b (Ns a b) P o (Zck l) h (aB (by omega:Xm b<=K*1) (aX _ O)) (by have:=Bh l e;omega);refine⟨.inr ⟨Zgz e H Y Z V,O,I.1⟩,λp h=>?_⟩;unfold Nu at h;rw [aD e]at h;rcases bQ.1 h with rfl|h
  .exact⟨O,aH _⟩
  .exact I.2 p h
def al:List Int->List Int->List Int
 | [],g=>g
 | a::f,[]=>a::f
 | a::f,b::g=>(a+b)::al f g
def Am(c:Int)(f:List Int):List Int:=f.map (c*·)
def ddl(k:Nat):List Int->List Int
 | []=>[]
 | b::g=>(k:Int)*b::ddl (k+1) g
def dl(f:List Int):List Int:=ddl 1 f.tail
def xl:List Int->List Int
 | []=>[]
 | a::f=>0::a::f
def fc:Nat->Int
 | 0=>1
 | k+1=>((k:Int)+1)*fc k
def Ge:Nat->List Int->List Int->Int
 | k,a::f,b::g=>fc k*(a*b)+Ge (k+1) f g
 | _,_,_=>0
theorem Zl9(k:Nat)(f:List Int):Ge k f []=0:=by cases f<;>rfl
theorem Yld(f:List Int):al f []=f:=by cases f<;>rfl
theorem Ycc:∀f g:List Int,al f g=al g f
 | [],g=>(Yld g).symm
 | a::f,[]=>rfl
 | a::f,b::g=>by show(a+b)::al f g=(b+a)::al g f;rw [Ycc f g,jL]
theorem Zvn:∀f g h:List Int,al (al f g) h=al f (al g h)
 | [],g,h=>rfl
 | a::f,[],h=>rfl
 | a::f,b::g,[]=>rfl
 | a::f,b::g,c::h=>by show(a+b+c)::al (al f g) h=(a+(b+c))::al f (al g h);rw [Zvn f g h,Int.add_assoc]
instance:Std.Commutative al:=⟨Ycc⟩
instance:Std.Associative al:=⟨Zvn⟩
theorem Yf5(c:Int):∀f g,Am c (al f g)=al (Am c f) (Am c g)
 | [],g=>rfl
 | a::f,[]=>rfl
 | a::f,b::g=>by show c*(a+b)::Am c (al f g)=(c*a+c*b)::al (Am c f) (Am c g);rw [Yf5 c f g,kP]
theorem Zy0(c d:Int):∀f,Am (c+d) f=al (Am c f) (Am d f)
 | []=>rfl
 | a::f=>by show(c+d)*a::Am (c+d) f=(c*a+d*a)::al (Am c f) (Am d f);rw [Zy0 c d f,lZ]
theorem Zji:∀f,Am 1 f=f
 | []=>rfl
 | a::f=>by show 1*a::Am 1 f=a::f;rw [Zji f,eQ]
theorem Yjw:∀k f g,ddl k (al f g)=al (ddl k f) (ddl k g)
 | k,[],g=>rfl
 | k,a::f,[]=>rfl
 | k,a::f,b::g=>by show(k:Int)*(a+b)::ddl (k+1) (al f g)=((k:Int)*a+(k:Int)*b)::al (ddl (k+1) f) (ddl (k+1) g);rw [Yjw (k+1) f g,kP]
theorem Ya7(c:Int):∀k f,ddl k (Am c f)=Am c (ddl k f)
 | k,[]=>rfl
 | k,a::f=>by show(k:Int)*(c*a)::ddl (k+1) (Am c f)=c*((k:Int)*a)::Am c (ddl (k+1) f);rw [Ya7 c (k+1) f,mC]
theorem Zu1:∀k f,ddl (k+1) f=al f (ddl k f)
 | k,[]=>rfl
 | k,a::f=>by show((k+1:Nat):Int)*a::ddl (k+1+1) f=(a+(k:Int)*a)::al f (ddl (k+1) f);rw [Zu1 (k+1) f];congr 1;push_cast;grind
def dl_al:∀f g,dl (al f g)=al (dl f) (dl g)
 | [],g=>rfl
 | a::f,[]=>(Yld _).symm
 | a::f,b::g=>Yjw 1 f g
def dl_scl(c:Int):∀f,dl (Am c f)=Am c (dl f)
 | []=>rfl
 | a::f=>Ya7 c 1 f
theorem dl_x:∀f,dl (xl f)=al f (xl (dl f))
 | []=>rfl
 | [a]=>by show(((1:Nat):Int)*a::[])=[a];rw [show((1:Nat):Int)=1 from rfl,eQ]
 | a::b::f=>by show((1:Nat):Int)*a::ddl (1+1) (b::f)=(a+0)::al (b::f) (ddl 1 (b::f));rw [Zu1 1 (b::f),show((1:Nat):Int)=1 from rfl,eQ,fC]
def xl_al:∀f g,xl (al f g)=al (xl f) (xl g)
 | [],g=>rfl
 | a::f,[]=>rfl
 | a::f,b::g=>rfl
theorem xl_scl(c:Int):∀f,xl (Am c f)=Am c (xl f)
 | []=>rfl
 | a::f=>by show 0::c*a::Am c f=c*0::c*a::Am c f;rw [dO]
theorem Eg:∀k f g,Ge k f g=Ge k g f
 | k,[],g=>(Zl9 k g).symm
 | k,a::f,[]=>rfl
 | k,a::f,b::g=>by show fc k*(a*b)+Ge (k+1) f g=fc k*(b*a)+Ge (k+1) g f;rw [Eg (k+1) f g,cQ a b]
theorem Zmc:∀k f g h,Ge k (al f g) h=Ge k f h+Ge k g h
 | k,[],g,h=>by show Ge k g h=0+Ge k g h;rw [kB]
 | k,a::f,[],h=>(fC _).symm
 | k,a::f,b::g,[]=>rfl
 | k,a::f,b::g,c::h=>by show fc k*((a+b)*c)+Ge (k+1) (al f g) h=fc k*(a*c)+Ge (k+1) f h+(fc k*(b*c)+Ge (k+1) g h);rw [Zmc (k+1) f g h];grind
theorem Zmb(k:Nat)(h f g:List Int):Ge k h (al f g)=Ge k h f+Ge k h g:=by rw [Eg,Zmc,Eg k f,Eg k g]
theorem Zgq(c:Int):∀k f g,Ge k (Am c f) g=c*Ge k f g
 | k,[],g=>(dO c).symm
 | k,a::f,[]=>(dO c).symm
 | k,a::f,b::g=>by show fc k*(c*a*b)+Ge (k+1) (Am c f) g=c*(fc k*(a*b)+Ge (k+1) f g);rw [Zgq c (k+1) f g];grind
theorem Zqw(c:Int)(k:Nat)(f g:List Int):Ge k f (Am c g)=c*Ge k f g:=by rw [Eg,Zgq,Eg]
theorem Yi7:∀k f g,Ge (k+1) f g=Ge k f (ddl (k+1) g)
 | k,[],g=>rfl
 | k,a::f,[]=>rfl
 | k,a::f,b::g=>by show((k:Int)+1)*fc k*(a*b)+Ge (k+1+1) f g=fc k*(a*(((k+1:Nat):Int)*b))+Ge (k+1) f (ddl (k+1+1) g);rw [Yi7 (k+1) f g];push_cast;grind
theorem fip_x:∀f g,Ge 0 (xl f) g=Ge 0 f (dl g)
 | [],g=>rfl
 | a::f,[]=>rfl
 | a::f,b::g=>by show fc 0*(0*b)+Ge 1 (a::f) g=Ge 0 (a::f) (ddl 1 g);rw [cN,dO,kB];exact Yi7 0 (a::f) g
theorem Yi4(f g:List Int):Ge 0 f (xl g)=Ge 0 (dl f) g:=by rw [Eg,fip_x,Eg]
def Mq:List Int->Nat->List Int->List Int
 | [],_,_=>[]
 | c::q,0,g=>al (Am c g) (xl (Mq q 0 g))
 | c::q,j+1,g=>al (xl (Mq q (j+1) g)) (Mq q j g)
def Hq:List Int->Nat->List Int->List Int
 | [],_,_=>[]
 | c::p,0,f=>al (Am c f) (Hq p 0 (dl f))
 | c::p,k+1,f=>al (Hq p (k+1) (dl f)) (Hq p k f)
theorem Ya5:∀q j g,dl (Mq q j g)=al (Mq q j (dl g)) (Am ((j:Int)+1) (Mq q (j+1) g))
 | [],j,g=>rfl
 | c::q,0,g=>by
  show dl (al (Am c g) (xl (Mq q 0 g)))=al (al (Am c (dl g)) (xl (Mq q 0 (dl g)))) (Am (((0:Nat):Int)+1) (al (xl (Mq q (0+1) g)) (Mq q 0 g)));rw [dl_al,dl_scl,dl_x,Ya5 q 0 g,xl_al];rw [show((0:Nat):Int)+1=1 from rfl,Zji,Zji]
  ac_rfl
 | c::q,j+1,g=>by
  show dl (al (xl (Mq q (j+1) g)) (Mq q j g))=al (al (xl (Mq q (j+1) (dl g))) (Mq q j (dl g))) (Am (((j+1:Nat):Int)+1) (al (xl (Mq q (j+1+1) g)) (Mq q (j+1) g)));rw [dl_al,dl_x,Ya5 q (j+1) g,Ya5 q j g,xl_al,xl_scl,Yf5];rw [show Am (((j+1:Nat):Int)+1) (Mq q (j+1) g)=al (Am ((j:Int)+1) (Mq q (j+1) g)) (Mq q (j+1) g) by rw [Zy0,Zji];rfl]
  ac_rfl
theorem Zjx:∀q j f g,Ge 0 f (Mq q j g)=Ge 0 (Hq q j f) g
 | [],j,f,g=>Zl9 0 f
 | c::q,0,f,g=>by show Ge 0 f (al (Am c g) (xl (Mq q 0 g)))=Ge 0 (al (Am c f) (Hq q 0 (dl f))) g;rw [Zmb,Zmc,Zqw,Zgq,Yi4,Zjx q 0 (dl f) g]
 | c::q,j+1,f,g=>by show Ge 0 f (al (xl (Mq q (j+1) g)) (Mq q j g))=Ge 0 (al (Hq q (j+1) (dl f)) (Hq q j f)) g;rw [Zmb,Zmc,Yi4,Zjx q (j+1) (dl f) g,Zjx q j f g]
def wfa:Nat->Nat->Int
 | j,0=>1
 | j,k+1=>((j:Int)+1)*wfa (j+1) k
theorem Zo3:∀k j,0<wfa j k
 | 0,j=>by show(0:Int)<1;decide
 | k+1,j=>iA O (Zo3 k (j+1))
theorem Zma:∀(p q:List Int) (j:Nat) (f g:List Int) (K:Nat),p.length<=K->Ge 0 (Mq p 0 f) (Mq q j g)=Yf (λk=>wfa j k*Ge 0 (Hq q (j+k) f) (Hq p k g)) K
 | [],q,j,f,g,K,_=>by rw [Gf (λk n=>by show wfa j k*Ge 0 (Hq q (j+k) f) []=0;rw [Zl9,dO])];rfl
 | c::p,q,j,f,g,K,hK=>by
  obtain⟨e,rfl⟩:∃e,K=e+1:=⟨K-1,by simp at hK;omega⟩;have o:p.length<=e:=by simpa using hK
  have w:=Zma p q j f (dl g) (e+1) O;have D:=Zma p q (j+1) f g e o;show Ge 0 (al (Am c f) (xl (Mq p 0 f))) (Mq q j g)=_;rw [Zmc,Zgq,fip_x,Ya5,Zmb,Zqw,w,D,Zjx];rw [Mr,Mr (λk=>wfa j k*Ge 0 (Hq q (j+k) f) (Hq (c::p) k g))];have h:Ge 0 (Hq q (j+0) f) (Hq (c::p) 0 g)=c*Ge 0 (Hq q j f) g+Ge 0 (Hq q j f) (Hq p 0 (dl g)):=by show Ge 0 (Hq q j f) (al (Am c g) (Hq p 0 (dl g)))=_;rw [Zmb,Zqw]
  have l:Yf (λk=>wfa j (k+1)*Ge 0 (Hq q (j+(k+1)) f) (Hq (c::p) (k+1) g)) e=Yf (λk=>wfa j (k+1)*Ge 0 (Hq q (j+(k+1)) f) (Hq p (k+1) (dl g))) e+((j:Int)+1)*Yf (λk=>wfa (j+1) k*Ge 0 (Hq q (j+1+k) f) (Hq p k g)) e:=by rw [<-Nr,<-Fk];refine Xa λk n=>?_;show _*Ge 0 _ (al (Hq p (k+1) (dl g)) (Hq p k g))=_;rw [Zmb,show j+1+k=j+(k+1) by omega];show((j:Int)+1)*wfa (j+1) k*_=((j:Int)+1)*wfa (j+1) k*_+_;grind
  rw [h,l];show _=(1:Int)*_+_;show _*_+((1:Int)*_+_+_)=_;rw [show j+0=j from rfl];grind
theorem Zpa(a:Int):0<=a*a:=by
 rcases Int.le_total 0 a with h|h
 .exact eK h h
 .have:=eK (show 0<=-a by omega) (show 0<=-a by omega);rwa [Int.neg_mul_neg]at this
theorem Zh6:∀k,1<=fc k
 | 0=>by show(1:Int)<=1;decide
 | k+1=>by have h:=Zh6 k;show 1<=((k:Int)+1)*fc k;have e:=kG (show(1:Int)<=(k:Int)+1 by omega) h O3 O;omega
theorem Yi8(k:Nat)(f:List Int)(b:Int)(g:List Int):Ge k f (b::g)=fc k*(cf f 0*b)+Ge (k+1) f.tail g:=by
 cases f with
 | nil=>show(0:Int)=fc k*(0*b)+Ge (k+1) [] g;rw [cN,dO];rfl
 | cons a f=>rfl
theorem Yks(f:List Int)(i:Nat):cf f.tail i=cf f (i+1):=by cases f<;>rfl
theorem Zqy:∀k (f e g:List Int),(∀i,cf f i=cf e i)->Ge k f g=Ge k e g
 | k,f,e,[],h=>by rw [Zl9,Zl9]
 | k,f,e,b::g,h=>by rw [Yi8,Yi8,h 0,Zqy (k+1) f.tail e.tail g λi=>by rw [Yks,Yks,h]]
theorem Zqx:∀k f,0<=Ge k f f
 | k,[]=>fA _
 | k,a::f=>by show 0<=fc k*(a*a)+Ge (k+1) f f;have e:=Zqx (k+1) f;have g:=eK (show 0<=fc k by have:=Zh6 k;omega) (Zpa a);omega
theorem Yi6:∀k f i,cf f i*cf f i<=Ge k f f
 | k,[],i=>by rw [Yg O5];exact fA _
 | k,a::f,0=>by show a*a<=fc k*(a*a)+Ge (k+1) f f;have e:=Zqx (k+1) f;have g:=eY (Zh6 k) (Zpa a);omega
 | k,a::f,i+1=>by show cf f i*cf f i<=fc k*(a*a)+Ge (k+1) f f;have e:=Yi6 (k+1) f i;have g:=eK (show 0<=fc k by have:=Zh6 k;omega) (Zpa a);omega
def fcs:Nat->Nat->Int
 | k,0=>0
 | k,n+1=>fc k+fcs (k+1) n
theorem Yjb:∀n k,0<=fcs k n
 | 0,k=>fA _
 | n+1,k=>by have h:=Yjb n (k+1);have:=Zh6 k;show 0<=fc k+fcs (k+1) n;omega
theorem Yi5:∀n k (f:List Int) (A:Int),f.length<=n->(∀x∈f,x*x<=A)->0<=A->Ge k f f<=fcs k n*A
 | n,k,[],A,_,_,e=>eK (Yjb n k) e
 | 0,k,a::f,A,h,_,_=>by simp at h
 | n+1,k,a::f,A,h,hx,e=>by have j:=Yi5 n (k+1) f A (by simpa using h) (λx g=>hx x (bI _ g)) e;have l:=iL (hx a (bR ..)) (show 0<=fc k by have:=Zh6 k;omega);show fc k*(a*a)+Ge (k+1) f f<=(fc k+fcs (k+1) n)*A;rw [lZ];omega
theorem Zyf:∀p k f,p.length<=k->Hq p k f=[]
 | [],k,f,_=>by cases k<;>rfl
 | c::p,0,f,h=>by simp at h
 | c::p,k+1,f,h=>by
  show al (Hq p (k+1) (dl f)) (Hq p k f)=[];have e:p.length<=k:=by simpa using h
  rw [Zyf p (k+1) _ O,Zyf p k _ e];rfl
theorem Yll:∀p k f,p.length=k+1->Hq p k f=Am (cf p k) f
 | [],k,f,h=>by simp at h
 | [c],0,f,h=>Yld _
 | c::d::p,0,f,h=>by simp at h
 | c::p,k+1,f,h=>by
  have e:p.length=k+1:=by simpa using h
  show al (Hq p (k+1) (dl f)) (Hq p k f)=Am (cf p k) f;rw [Zyf p (k+1) _ O,Yll p k f e];rfl
theorem Ykw:∀f g i,cf (al f g) i=cf f i+cf g i
 | [],g,i=>by rw [Yg (p:=[]) O5,kB];rfl
 | a::f,[],i=>by rw [Yg (p:=[]) O5,fC];rfl
 | a::f,b::g,0=>rfl
 | a::f,b::g,i+1=>Ykw f g i
def Yku(c:Int)(f:List Int)(i:Nat):cf (Am c f) i=c*cf f i:=Zde f (c*·) (dO c) i
theorem cf_xl0(f:List Int):cf (xl f) 0=0:=by cases f<;>rfl
theorem cf_xl(f:List Int)(i:Nat):cf (xl f) (i+1)=cf f i:=by cases f<;>rfl
theorem cf_Mq:∀p f i,cf (Mq p 0 f) i=(ps p*ps f).c i
 | [],f,i=>by rw [PS.mul_c,Gf (λk _=>by rw [Ol,Yg O5,cN])];exact Yg (by simp [Mq])
 | c::p,f,0=>by show cf (al (Am c f) (xl (Mq p 0 f))) 0=_;rw [Ykw,Yku,cf_xl0,PS.mul_c,Mr,fC];exact(fC _).symm
 | c::p,f,i+1=>by show cf (al (Am c f) (xl (Mq p 0 f))) (i+1)=_;rw [Ykw,Yku,cf_xl,cf_Mq p f i,PS.mul_c,PS.mul_c,Mr _ (i+1)];refine aI (c*cf f (i+1)+·) (Xa λk e=>?_);show cf p k*cf f (i-k)=cf p k*cf f (i+1-(k+1));rw [show i+1-(k+1)=i-k by omega]
theorem Yd5{n L e:Nat}(hu:Tr u)(w:Tr v)(hs:Sz n s)(Q:s≠[])(hl:s.length<=L)(he:fcs 0 L<=2^e*2^e)(h:s=Qn u v):Sz (n+e) u:=by
 have D:v≠[]:=λe=>Q (by rw [h,e,Zbw]);obtain⟨m,N⟩:∃m,v.length=m+1:=⟨v.length-1,by have:=aE.2 D;omega⟩;have g:cf v m≠0:=by
  rcases w with w|w
  .exact absurd w D
  .rwa [N]at w
 have o:∀i,cf (Mq v 0 u) i=cf s i:=λi=>by rw [cf_Mq,h,Dd,Hh]
 have j:=Zma v v 0 u u (m+1) O;rw [Zqy 0 _ s _ o,Eg,Zqy 0 _ s _ o,Yi,bZ,Yll v m u N,Zgq,Zqw]at j;have l:∀t,0<=Yf (λk=>wfa 0 k*Ge 0 (Hq v (0+k) u) (Hq v k u)) t:=λt=>by
  induction t with
  | zero=>exact fA _
  | succ t ih=>
   rw [Yi,bZ];have:=eK (show 0<=wfa 0 t by have:=Zo3 t 0;omega) (Zqx 0 (Hq v t u));omega
 have hr:=l m;have Z:1<=cf v m*cf v m:=by
  have h1:=Zpa (cf v m);have h2:cf v m*cf v m≠0:=λe=>by rcases eJ.1 e with q|q<;>exact g q
  omega
 have hf:=Zqx 0 u;have h3:Ge 0 u u<=cf v m*(cf v m*Ge 0 u u):=by have:=eY Z hf;rw [eE]at this;omega
 have h4:Ge 0 u u<=wfa 0 m*(cf v m*(cf v m*Ge 0 u u)):=by have:=eY (show 1<=wfa 0 m from Zo3 m 0) (show 0<=cf v m*(cf v m*Ge 0 u u) by omega);omega
 intro i;rw [Qm];have h5:=Yi6 0 u i;have V:∀x∈s,x*x<=(2^n-1)*(2^n-1):=λx hx=>by
  have hb:x.natAbs<2^n:=(Qm n _).1 (hs.mem hx);have W:((2^n:Nat):Int)=2^n:=by push_cast;rfl
  have p1:x<=2^n-1:=O;have p2:-(2^n-1)<=x:=O;generalize (2:Int)^n-1=y at *;have:=eK (show 0<=y-x by omega) (show 0<=y+x by omega);grind
 have hp:(1:Int)<=2^n:=by exact_mod_cast cE (n:=n) (show 0<2 by decide)
 have P:(1:Int)<=2^e:=by exact_mod_cast cE (n:=e) (show 0<2 by decide)
 have h6:=Yi5 L 0 s _ hl V (eK O O);have h7:cf u i*cf u i<=(2^e*2^e)*((2^n-1)*(2^n-1)):=by have:=eY he (show(0:Int)<=(2^n-1)*(2^n-1)from eK O O);omega
 rcases bA (cf u i).natAbs (2^(n+e))with I|H
 .exact I
 .exfalso;have M:(2^n*2^e:Int)<=((cf u i).natAbs:Int):=by rw [<-Int.pow_add];exact_mod_cast H
  have S:((cf u i).natAbs:Int)*((cf u i).natAbs:Int)=cf u i*cf u i:=Int.natAbs_mul_self;have G:(2^n*2^e:Int)*(2^n*2^e)<=((cf u i).natAbs:Int)*((cf u i).natAbs:Int):=kG M M (eK O O) O;rw [S]at G;generalize (2:Int)^n=X at *;generalize (2:Int)^e=Y at *;have R:(Y*Y)*((X-1)*(X-1))<(Y*Y)*(X*X):=by have hy:=kG P P O3 O;refine Int.mul_lt_mul_of_pos_left ?_ O;grind
  grind
def kkR(R:Nat):Nat->Nat
 | 0=>0
 | d+1=>2*(R+1)*kkR R d+1
def Fi{n L R e:Nat}(w:Tr u)(D:Tr v)(hs:Sz n s)(g:s≠[])(o:Tr s)(l:s.length<=L)(G:2*L<=R+2)(j:fcs 0 L<=2^e*2^e)(h:s=Qn u v):Sz (n+e) u:=Yd5 w D hs g l j h
theorem Yhv{e g:Nat}(n:e<=13)(o:g+1=e)(j:K<=600):Ztw e g K:=λl w=>by have h:∀l,l<=12->(l+1)*(600*(27-2*l)+1)<=65536:=O3;refine aB (aX _ (Nat.succ_le_succ (aR j O))) (h l O)
theorem chH{n:Nat}(F:Nat)(D:Tr xs)(G:xs≠[])(hs:Sz n xs)(hn:n<=350)(hl:xs.length<=13)(hb:(xs.length+2)*(xs.length+2)*(n+13)<=65536)(hF:xs.length<=F+1) :
  Ai F xs/\Sz (n+15) (sqf F xs)/\(sqf F xs).length<=xs.length/\∀p∈chn F xs,Xm p<=(n+26)*25/\p.length<=xs.length:=by
 have e:=Zo9 hs;have a3:=Pm D;have l:Tr (Yz xs):=Oy (Yv D);have Y:=Gp e O;have a0:=Od (Yz xs);have o:Tr (Yx (Yz xs)):=Ni l;have m1:=Qq e;have m2:=Qq Y;have l0:=aE.2 G;have I:gA (Yz xs) (Yx (Yz xs))=Zx (Yz xs):=aD O;have M:gB (Yz xs) (Yx (Yz xs))=Zx (Yx (Yz xs)):=aD O;have j:eok F (gA (Yz xs) (Yx (Yz xs))) (gB (Yz xs) (Yx (Yz xs))):=by
  rw [I,M];refine(Yax (n:=n+5) (s:=5) (K:=n+11) (by rw [Zw,Zw];omega) (Yv l) (Yv o) (Ho (e.mono O)) (Ho Y) ?_ O ?_ ?_ ?_).1
  .rw [Zw,Zw];omega
  .rw [Zw,Zw];exact Yhv O O O
  .rw [Zw];exact aB (aR (show(Yz xs).length+1<=14 by omega) (show n+5+1<=400 by omega)) O3
  .rw [Zw];omega
 obtain⟨f1,f2,f3,f4,f5,f6⟩:=Ou (F:=F) D G j;have H:=Zdq (F:=F) l o;have g:=Zhy D G;have V:fcs 0 13<=2^15*2^15:=O6;have w:=Fi (L:=13) (R:=24) f2 H e g l O O3 V f4;have N:=Fi (L:=13) (R:=24) H f2 e g l O O3 V (by rw [Dd];exact f4);have P:=Ov f2 H f3 f5;rw [<-f4]at P;have lg:=aE.2 f5;have lq:=aE.2 f3;have mg:=Qq N;have S:(sqf F xs).length<=xs.length:=O;have Q:=Gp w O;have Z:=Od (sqf F xs);have W:=Yoz (a:=sqf F xs) (b:=Zx (Yx (sqf F xs))) (n:=n+15+5) (s:=5) (K:=n+26) (f:=F) (by rw [Zw];omega) f2 (Yv (Ni f2)) (w.mono O) (Ho Q) (by rw [Zw];omega) O (by rw [Zw];exact Yhv O O O) (aB (aR (show(sqf F xs).length+1<=14 by omega) (show n+15+5+1<=500 by omega)) O3) (by rw [Zw];omega);refine⟨⟨⟨λi _=>aB (Zxm e O i) O,?_,j,?_,f1⟩,λi _=>aB (Zxm w O i) O,W.1⟩,w,S,λp hp=>?_⟩
 .intro h;have h3:(max (Yz xs).length (Yx (Yz xs)).length+2)*(max (Yz xs).length (Yx (Yz xs)).length+2)*(max (Xm (Yz xs)) (Xm (Yx (Yz xs)))+8)<=(xs.length+2)*(xs.length+2)*(n+13):=aR (aR O O) O;have:=h.2.2;omega
 .unfold Bl;rw [aD O];split
  .rfl
  .have:((Yz xs).length-(Na F (Yz xs) (Yx (Yz xs))).length+1)*(Xm (Na F (Yz xs) (Yx (Yz xs)))+1)<=14*500:=aR O O;rw [aD O]
 .obtain⟨a1,a2⟩:=W.2 p hp;refine⟨aB a1 (aX _ ?_),O⟩;rw [Zw];omega
theorem chG{n:Nat}(F:Nat)(j:Tr xs)(e:xs≠[])(hs:Sz n xs)(h:n<=350)(l:xs.length<=11)(g:xs.length<=F+1) :
  Ai F xs/\Sz (n+15) (sqf F xs)/\(sqf F xs).length<=xs.length/\∀p∈chn F xs,Xm p<=(n+26)*25/\p.length<=xs.length:=
 chH F j e hs h O (aB (aR (aR (show _<=13 by omega) (show _<=13 by omega)) (show _<=363 by omega)) O3) g
theorem Dv.ed{g:List Int}(h:Dv g a):Ed g a:=by obtain⟨k,s,e,h⟩:=h;refine⟨k,s,e,λx=>?_⟩;have:=Dr (a:=k) (c:=0) (x:=a) (s:=s) (y:=g) (z:=[]) (λt=>by rw [h t];omega) x;push_cast at this;grind
theorem Zmn(w:Tr xs)(j:xs≠[])(l:Ai F xs)(s t:Rat) :
  ∃h:Rat,0<h/\∀u v,s<=u->u<=v->v<=t->v-u<=h->vat ((chn F xs).map Zf) u-vat ((chn F xs).map Zf) v=crs (Zf (sqf F xs)) u v:=by
 have g:=l.1.2.2.1;obtain⟨f1,f2,f3,f4,f5,f6⟩:=Ou (F:=F) w j g;have e:=Ni f2;by_cases D:Yx (sqf F xs)=[]
 .refine Zkn (κ:=1) f2 (Yv e) f3 l.2.2 O3 (λx=>?_) λq o a b=>?_
  .rw [<-Kv,D];show(0:Rat)=1*0;grind
  .exact Zfu w j g o a (b.sim (Qf e))
 .have n:0<Ys (Yx (sqf F xs)):=by have G:=Ch e D;have H:=Nk (Yx (sqf F xs));omega
  refine Zkn (κ:=(Ys (Yx (sqf F xs)):Rat)) f2 (Yv e) f3 l.2.2 (by exact_mod_cast n) (λx=>?_) λq o a b=>?_
  .rw [<-Kv,<-Zl];exact Nw x _ _ λi=>by rw [Qu,cQ,Fn]
  .exact Zfu w j g o a (b.sim (Qf e))
theorem Yn1{g:List Int}(H:∀x:Rat,Zf p x=Zf s x*Zf g x)(hg:Tr g)(g0:g≠[])(Q:Ed g (ld p))(D:Irr q)(S:Ed q p):Ed q s:=by
 refine bN λG=>?_;have l:=D.1;have o:=D.2.1;have R:¬Ed q (ld q):=λh=>by have h8:Ed q (Yx q):=h.congr λx=>(Kv q x).symm;have hl:=Od q;have:=(h8.len l (Ni l) (λe=>by rw [e]at hl;simp at hl;omega)).2;omega
 obtain⟨c1,m1,k1,e1⟩:=S;obtain⟨j,m,k2,e2⟩:=Q;have W:∀k,Ed (Fe q k) g:=λk=>by
  induction k with
  | zero=>exact⟨1,g,O3,λx=>by rw [show Fe q 0=[1]from rfl,Pu];push_cast;grind⟩
  | succ k ih=>
   cases k with
   | zero=>
    have P:Ed q g:=(Za5 (f:=s) (h:=g) (m:=m1) D k1 (λx=>by rw [<-H x];exact e1 x)).resolve_left G;exact P.congr_l λx=>by rw [Eb,show Fe q 0=[1]from rfl,Pu];push_cast;grind
   | succ k=>
    obtain⟨c,u,kc,eu⟩:=ih;have hd:∀x:Rat,(c:Rat)*Zf (ld g) x=Zf (ld u) x*Zf (Fe q (k+1)) x+Zf u x*(((k:Rat)+1)*(Zf (Fe q k) x*Zf (ld q) x)):=λx=>by have:=Ce (p:=g.map λa=>c*a) (q:=lmul u (Fe q (k+1))) (λy=>by rw [Zl,Yc];exact eu y) x;rwa [Aw,Be,Zpr]at this
    have hp:∀x:Rat,Zf (ld p) x=Zf (ld s) x*Zf g x+Zf s x*Zf (ld g) x:=λx=>by have:=Ce (p:=p) (q:=lmul s g) (λy=>by rw [Yc];exact H y) x;rwa [Be]at this
    have hz:∀x:Rat,Zf (Mt ((lmul (lmul s u) (ld q)).map λa=>(j*((k:Int)+1))*a) ((lmul (Mt ((lmul s (ld u)).map λa=>j*a) ((lmul (Mt m ((ld s).map λa=>(-j)*a)) u).map λa=>(-1)*a)) q))) x=0:=λx=>by
     refine Ee (v:=Fe q k) (λe=>?_) (λx=>?_) x
     .rw [Zak (Zaz l o k).1]at e;have:=(Zaz l o k).2;rw [e]at this;simp at this
     .rw [Xi,Zl,Yc,Yc,Yc,Xi,Zl,Yc,Zl,Yc,Xi,Zl];have M:=e2 x;have Y:=hp x;have Z:=hd x;have I:=eu x;rw [Eb]at Z I;push_cast;have b1:(j:Rat)*Zf s x*(c*Zf (ld g) x)=(Zf m x-j*Zf (ld s) x)*(c*Zf g x):=by
       have:(j:Rat)*Zf s x*(c*Zf (ld g) x)=c*(j*(Zf (ld p) x-Zf (ld s) x*Zf g x)):=by rw [Y];grind
       rw [this];have:(c:Rat)*(j*(Zf (ld p) x-Zf (ld s) x*Zf g x))=c*(j*Zf (ld p) x)-c*j*Zf (ld s) x*Zf g x:=O4;rw [this,M];grind
      rw [Z,I]at b1;grind
    have P:=Za5 (f:=lmul s u) (h:=ld q) (k:=j*((k:Int)+1)) (m:=Mt ((lmul (Mt m ((ld s).map λa=>(-j)*a)) u)) ((lmul s (ld u)).map λa=>(-j)*a)) D (bK k2 O) (λx=>by have:=hz x;rw [Xi,Zl,Yc,Yc,Yc,Xi,Zl,Yc,Zl,Yc,Xi,Zl]at this;rw [Yc,Xi,Yc,Xi,Zl,Zl,Yc];push_cast at this ⊢;grind)
    have h8:=Za5 (f:=s) (h:=u) (k:=1) (m:=[]) D O3;have h7:Ed q u:=by obtain⟨n,w,V,N⟩:=P.resolve_right R;exact(Za5 (f:=s) (h:=u) (k:=n) (m:=w) D V (λx=>by have:=N x;rwa [Yc]at this)).resolve_left G
    obtain⟨n,w,V,N⟩:=h7;refine⟨n*c,w,bK V kc,λx=>?_⟩;have I:=eu x;have a5:=N x;rw [Eb q (k+1)];push_cast;have:(n:Rat)*c*Zf g x=n*(c*Zf g x):=O4;rw [this,I];have:(n:Rat)*(Zf u x*Zf (Fe q (k+1)) x)=(n*Zf u x)*Zf (Fe q (k+1)) x:=O4;rw [this,a5];grind
 obtain⟨M,Y⟩:=Zaz l o g.length;have:=((W g.length).len M hg g0).2;omega
theorem Yns(g:d≠0):Irr [-r,d]:=by have e:Tr [-r,d]:= .inr g;refine⟨e,O5,λq j h=>?_⟩;have:=(h.len j e O5).2;simp at this ⊢;omega
theorem Zjm(r d:Int)(x:Rat):Zf [-r,d] x=(d:Rat)*x-r:=by show((-r:Int):Rat)+x*((d:Rat)+x*0)=_;push_cast;grind
theorem Ymt(G:Tr p)(j:d≠0)(h:Zf p ((r:Rat)/d)=0):Ed [-r,d] p:=by
 have n:(d:Rat)≠0:=by exact_mod_cast j
 have w:Tr [-r,d]:= .inr j;obtain⟨k,s,hs⟩:=Cf p (q:=[-r,d]) O5;have g:=Nn (w.mem O5) k;generalize cf [-r,d] ([-r,d].length-1)^k=L at hs g;have l:∀x,(L:Rat)*Zf p x=Zf s x*Zf [-r,d] x+Zf (Xv p [-r,d]) x:=λx=>by have:=Dr (a:=L) (c:=-1) (x:=p) (s:=s) (y:=[-r,d]) (z:=Xv p [-r,d]) (λt=>by rw [hs t];omega) x;push_cast at this;grind
 have o:=Pd p (q:=[-r,d]) O5;have D:∀x,Zf (Xv p [-r,d]) x=0:=λx=>by
  have e:=l ((r:Rat)/d);rw [h,Zjm]at e
  match hr:Xv p [-r,d],o with
  | [],_=>rfl
  | [c],_=>
   rw [hr,Pu]at e;rw [Pu];have:(d:Rat)*(r/d)=r:=O4;rw [this]at e;grind
 exact⟨L,s,g,λx=>by rw [l x,D x];grind⟩
theorem Ed.root(g:d≠0)(h:Ed [-r,d] p):Zf p ((r:Rat)/d)=0:=by
 obtain⟨k,s,l,h⟩:=h;have j:(d:Rat)≠0:=by exact_mod_cast g
 have n:(k:Rat)≠0:=by exact_mod_cast l
 have e:=h ((r:Rat)/d);rw [Zjm]at e;have:(d:Rat)*(r/d)=r:=O4;rw [this]at e;grind
theorem Yfi(j:Tr xs)(n:xs≠[])(g:eok F (gA (Yz xs) (Yx (Yz xs))) (gB (Yz xs) (Yx (Yz xs))))(l:d≠0)(h:Zf xs ((r:Rat)/d)=0):Zf (sqf F xs) ((r:Rat)/d)=0:=by
 obtain⟨f1,f2,f3,f4,f5,f6⟩:=Ou (F:=F) j n g;have hs:Tr (Yz xs):=Oy (Yv j);have e:Tr (Yx (Yz xs)):=Ni hs;have o:Ed [-r,d] (Yz xs):=(Ymt j l h).sim ((Qf j).symm.trans (Hd _).symm);have w:∀x:Rat,Zf (Yz xs) x=Zf (sqf F xs) x*Zf (Na F (Yz xs) (Yx (Yz xs))) x:=λx=>by
  have:Zf (Yz xs) x=Zf (Qn (sqf F xs) (Na F (Yz xs) (Yx (Yz xs)))) x:=by rw [<-f4]
  rw [this,Yo]
 have D:Ed (Na F (Yz xs) (Yx (Yz xs))) (ld (Yz xs)):=((Zd1 hs e g).2.ed).congr λx=>Kv _ x;exact(Yn1 w (Zdq hs e) f5 D (Yns l) o).root l
def Away(s t:Rat)(f:Rat->Rat):Prop:=∃δ:Rat,0<δ/\∀x,s<=x->x<=t->δ<=f x\/f x<=-δ
theorem Away.mul{s:Rat}{f g h:Rat->Rat}(I:Away s t f)(M:Away s t g)(e:∀x,h x=f x*g x):Away s t h:=by
 obtain⟨a,n,o⟩:=I;obtain⟨b,w,D⟩:=M;refine⟨a*b,bD n w,λx j l=>?_⟩;rw [e x];rcases o x j l with G|G<;>rcases D x j l with H|H
 .left;have:=aJ (a:=f x-a) (b:=g x) O4 O4;have:=aJ (a:=a) (b:=g x-b) O4 O4;grind
 .right;have:=aJ (a:=f x-a) (b:=- g x) O4 O4;have:=aJ (a:=a) (b:=- g x-b) O4 O4;grind
 .right;have:=aJ (a:=- f x-a) (b:=g x) O4 O4;have:=aJ (a:=a) (b:=g x-b) O4 O4;grind
 .left;have:=aJ (a:=- f x-a) (b:=- g x) O4 O4;have:=aJ (a:=a) (b:=- g x-b) O4 O4;grind
theorem Away.lin{s:Rat}(j:0<d)(h:(r:Rat)<d*s\/(d:Rat)*t<r):Away s t (Zf [-r,d]):=by
 have l:(0:Rat)<(d:Rat):=by exact_mod_cast j
 rcases h with h|h
 .refine⟨d*s-r,O4,λx e g=> .inl ?_⟩;rw [Zjm];have:=aJ (a:=(d:Rat)) (b:=x-s) O4 O4;grind
 .refine⟨r-d*t,O4,λx e g=> .inr ?_⟩;rw [Zjm];have:=aJ (a:=(d:Rat)) (b:=t-x) O4 O4;grind
theorem Away.sq(s t:Rat):Away s t (Zf [1,0,1]):=⟨1,O3,λx _ _=>by
 left;show(1:Rat)<=((1:Int):Rat)+x*(((0:Int):Rat)+x*(((1:Int):Rat)+x*0));have:0<=x*x:=by
  rcases(show 0<=x\/x<0 by grind)with h|h
  .exact aJ h h
  .have:=aJ (a:=-x) (b:=-x) O4 O4;grind
 push_cast;grind⟩
theorem Away.one(s t:Rat):Away s t (Zf [1]):=⟨1,O3,λx _ _=>by left;rw [Pu];exact gJ⟩
def cntP(P:Int->Prop)[DecidablePred P](m:Int):Nat->Int
 | 0=>0
 | n+1=>cntP P m n+(if P (m+n+1)then 1 else 0)
def eB(K C:Nat):Nat->Nat
 | 0=>0
 | n+1=>C+K*eB K C n
def eL(K C:Nat):Nat->Nat
 | 0=>0
 | n+1=>K*eL K C n+eB K C n
def eM(K C:Nat):Nat->Nat
 | 0=>0
 | n+1=>eL K C n+K*eM K C n
theorem Gx{a b:Nat}(h:a<=b):(a:Rat)<=(b:Rat):=by exact_mod_cast h
theorem Ykv{C:Nat}(h:c.natAbs<=C):-(C:Rat)<=(c:Rat)/\(c:Rat)<=(C:Rat):=by
 have e:((-(C:Int):Int):Rat)<=(c:Rat):=by exact_mod_cast (show -(C:Int)<=c by omega)
 have g:(c:Rat)<=(((C:Nat):Int):Rat):=by exact_mod_cast (show c<=(C:Int) by omega)
 push_cast at e g;constructor<;>grind
def Zrm{C:Nat}(h:∀i,(cf (c::p) i).natAbs<=C):c.natAbs<=C/\∀i,(cf p i).natAbs<=C:=⟨h 0,λi=>h (i+1)⟩
theorem Zpl{K C:Nat} : ∀(n:Nat) (p:List Int),p.length<=n->(∀i,(cf p i).natAbs<=C)->∀x:Rat,-(K:Rat)<=x->x<=(K:Rat)->-(eB K C n:Rat)<=Zf p x/\Zf p x<=(eB K C n:Rat)
 | n,[],_,_,x,_,_=>by have h:(0:Rat)<=(eB K C n:Rat):=Gx (bG _);show -(eB K C n:Rat)<=0/\(0:Rat)<=(eB K C n:Rat);constructor<;>grind
 | 0,c::p,hl,_,_,_,_=>absurd hl O5
 | n+1,c::p,hl,hc,x,h1,h2=>by
  obtain⟨g,j⟩:=Zrm hc;obtain⟨l,o⟩:=Zpl n p (by simpa using hl) j x h1 h2;obtain⟨D,G⟩:=Ykv g;have w:(0:Rat)<=(K:Rat):=Gx (bG _);obtain⟨f1,f2⟩:=Zca h1 h2 l o w;have e:((eB K C (n+1):Nat):Rat)=(C:Rat)+(K:Rat)*(eB K C n:Rat):=by show((C+K*eB K C n:Nat):Rat)=_;push_cast;rfl
  rw [e,show Zf (c::p) x=(c:Rat)+x*Zf p x from rfl];constructor<;>grind
theorem Zpk{K C:Nat} : ∀(n:Nat) (p:List Int),p.length<=n->(∀i,(cf p i).natAbs<=C)->Lip (-(K:Rat)) (K:Rat) (eL K C n:Rat) (Zf p)
 | n,[],_,_,x,y,_,l,_=>by have h:(0:Rat)<=(eL K C n:Rat):=Gx (bG _);have:=aJ (a:=(eL K C n:Rat)) (b:=y-x) h O4;show(0:Rat)-0<=_/\(0:Rat)-0<=_;constructor<;>grind
 | 0,c::p,hl,_,_,_,_,_,_=>absurd hl O5
 | n+1,c::p,hl,hc,x,y,h1,l,h2=>by
  obtain⟨w,j⟩:=Zrm hc;obtain⟨D,G⟩:=Zpk n p (by simpa using hl) j x y h1 l h2;obtain⟨H,I⟩:=Zpl n p (by simpa using hl) j y O4 h2;have o:(0:Rat)<=(K:Rat):=Gx (bG _);obtain⟨f1,f2⟩:=Zca (q:=x) (g:=Zf p x-Zf p y) (e:=(eL K C n:Rat)*(y-x)) h1 O4 O4 O4 o;have M:=aJ (a:=(eB K C n:Rat)-Zf p y) (b:=y-x) O4 O4;have N:=aJ (a:=(eB K C n:Rat)+Zf p y) (b:=y-x) O4 O4;have e:((eL K C (n+1):Nat):Rat)=(K:Rat)*(eL K C n:Rat)+(eB K C n:Rat):=by show((K*eL K C n+eB K C n:Nat):Rat)=_;push_cast;rfl
  rw [e,show Zf (c::p) x=(c:Rat)+x*Zf p x from rfl,show Zf (c::p) y=(c:Rat)+y*Zf p y from rfl];constructor<;>grind
theorem Ygf{K C:Nat} : ∀(n:Nat) (p:List Int),p.length<=n->(∀i,(cf p i).natAbs<=C)->Tay (-(K:Rat)) (K:Rat) (eM K C n:Rat) p
 | n,[],_,_,x,y,_,j,_=>by have h:(0:Rat)<=(eM K C n:Rat):=Gx (bG _);have G:=aJ (a:=y-x) (b:=y-x) O4 O4;have:=aJ h G;show -((eM K C n:Rat)*(y-x)*(y-x))<=(0:Rat)-0-(y-x)*0/\(0:Rat)-0-(y-x)*0<=(eM K C n:Rat)*(y-x)*(y-x);constructor<;>grind
 | 0,c::p,hl,_,_,_,_,_,_=>absurd hl O5
 | n+1,c::p,hl,hc,x,y,hs,j,ht=>by
  obtain⟨I,l⟩:=Zrm hc;obtain⟨w,D⟩:=Ygf n p (by simpa using hl) l x y hs j ht;obtain⟨M,N⟩:=Zpk n p (by simpa using hl) l x y hs j ht;have H:(0:Rat)<=(K:Rat):=Gx (bG _);have o:0<=y-x:=O4;obtain⟨f1,f2⟩:=Zca (q:=x) (Q:=(K:Rat)) (g:=Zf p y-Zf p x-(y-x)*Zf (ld p) x) (e:=(eM K C n:Rat)*(y-x)*(y-x)) hs O4 w D H;have P:=aJ (a:=y-x) (b:=(eL K C n:Rat)*(y-x)-(Zf p y-Zf p x)) o O4;have R:=aJ (a:=y-x) (b:=(eL K C n:Rat)*(y-x)+(Zf p y-Zf p x)) o O4;have e:((eM K C (n+1):Nat):Rat)=(eL K C n:Rat)+(K:Rat)*(eM K C n:Rat):=by show((eL K C n+K*eM K C n:Nat):Rat)=_;push_cast;rfl
  rw [e,Zf4,show Zf (c::p) y=(c:Rat)+y*Zf p y from rfl,show Zf (c::p) x=(c:Rat)+x*Zf p x from rfl];constructor<;>grind
theorem Zxt{A:Nat}(D:Tr a)(hb:Tr b)(la:2<=a.length)(lb:b.length+1=a.length)(hA:0<A)(na:∀i,(cf a i).natAbs<=A)(nb:∀i,(cf b i).natAbs<=A)(hc:∀q,Tr q->Ed q a->Ed q b->q.length<=1) :
  ∃(U V:List Int) (c:Int),c≠0/\U.length+2=a.length/\V.length+1=a.length/\(∀i,(cf U i).natAbs<=(2*(2*a.length-3)*A)^(2*a.length-4))/\(∀i,(cf V i).natAbs<=(2*(2*a.length-3)*A)^(2*a.length-4))/\
   ∀x,(c:Rat)=Zf U x*Zf a x+Zf V x*Zf b x:=by
 obtain⟨U,V,lU,lV,l,G,H,hz⟩:=Ziq (a:=a) (b:=b) (p:=a.length-2) (q:=a.length-1) (lo:=1) hA na nb O O O;have n:¬(tzl U=[]/\tzl V=[]):=λ⟨h1,h2⟩=>by
  rcases l with⟨i,hi⟩|⟨i,hi⟩
  .exact hi ((Kg U).1 h1 i)
  .exact hi ((Kg V).1 h2 i)
 clear l;rw [show a.length-2+(a.length-1)=2*a.length-3 by omega]at G H;rw [show 2*a.length-3-1=2*a.length-4 by omega]at G H;have j:a≠[]:=λe=>by rw [e]at la;simp at la
 have W:∀i,cf (Mt (lmul U a) (lmul V b)) i=(ps U*ps a).c i+(ps V*ps b).c i:=λi=>by rw [Lk,Ek,Ek,PS.mul_c,PS.mul_c];rfl
 have S:∀t,Zf (Mt (lmul U a) (lmul V b)) t=Zf U t*Zf a t+Zf V t*Zf b t:=λt=>by rw [Xi,Yc,Yc]
 generalize Mt (lmul U a) (lmul V b)=R at W S;have hR:∀t,Zf R t=(cf R 0:Rat):=λt=>by
  rw [<-Pu (cf R 0) t];refine Nw t _ _ λi=>?_
  match i with
  | 0=>rfl
  | i+1=>rw [W,hz (i+1) O,Yg O5]
 refine⟨U,V,cf R 0,λh0=>?_,O,O,G,H,λx=>by rw [<-S,hR]⟩;have o:∀t,Zf U t*Zf a t+Zf V t*Zf b t=0:=λt=>by rw [<-S,hR,h0];rfl
 obtain⟨g,P,Q,h,Y,g3,I⟩:=Zmy _ a b D hb (aH _);have hl:=hc g h Y g3;have hg:=(Y.len h D j).1;have w:tzl V=[]:=by
  refine bN λw=>?_
  match g,hg,hl,h,I with
  | [c],_,_,h,I=>
   have N:c≠0:=h.mem O5;have hd:Ed a (tzl V):=⟨c,Mt (lmul P V) ((lmul Q U).map λz=>(-1)*z),N,λx=>by have Z:=I x;rw [Pu]at Z;rw [Lg,Xi,Zl,Yc,Yc,Z];have:=o x;have e:Zf V x*Zf b x=- (Zf U x*Zf a x):=O4;have:(Zf P x*Zf a x+Zf Q x*Zf b x)*Zf V x=Zf P x*Zf V x*Zf a x+Zf Q x*(Zf V x*Zf b x):=O4;rw [this,e];push_cast;grind⟩
   have:=(hd.len D (Qg V) w).2;have:=Mp V;omega
  | c::d::r,_,h9,_,_=>simp at h9
 have M:tzl U=[]:=by
  refine bN λM=>?_;have:∀t,Zf a t=0:=Ee (v:=U) M λt=>by have:=o t;rw [Av w]at this;grind
  exact D.mem j (Zpn this _)
 exact n ⟨M,w⟩
def Zyy(K A n e:Nat):Bool:=
 let X:=(2*(2*n-3)*A)^(2*n-4);let W:=eB K X (n-1)
 Nat.ble (2*(2*W+1)*(2*eL K A n)) (2^e) && Nat.ble (2*(2*W+1)*eM K A n) (2^e)
theorem big_or  {A n e:Nat} (hK:0<K) (hA:0<A) (ha:Tr a) (hb:Tr b) (hn:a.length=n) (h2:2<=n) (lb:b.length+1=a.length) (na:∀i,(cf a i).natAbs<=A) (nb:∀i,(cf b i).natAbs<=A) (hc:∀q,Tr q->Ed q a->Ed q b->q.length<=1)
  (x:Rat) (G:-(K:Rat)<=x) (H:x<=(K:Rat)):Big (1/((2*eB K ((2*(2*n-3)*A)^(2*n-4)) (n-1)+1:Nat):Rat)) x (Zf a)\/Big (1/((2*eB K ((2*(2*n-3)*A)^(2*n-4)) (n-1)+1:Nat):Rat)) x (Zf b):=by
 obtain⟨U,V,c,c0,lU,lV,w,D,l⟩:=Zxt ha hb O lb hA na nb hc;rw [hn]at w D;generalize (2*(2*n-3)*A)^(2*n-4)=X at *;obtain⟨u1,u2⟩:=Zpl (n-1) U O w x G H;obtain⟨v1,v2⟩:=Zpl (n-1) V O D x G H;generalize eB K X (n-1)=W at *;have M:(0:Rat)<=(W:Rat):=Gx (bG _);have I:(0:Rat)<((2*W+1:Nat):Rat):=by
   have:(((0:Nat)):Rat)<((2*W+1:Nat):Rat):=by exact_mod_cast jO _
   exact this
 have g:((2*W+1:Nat):Rat)=2*(W:Rat)+1:=by push_cast;rfl
 generalize N:1/((2*W+1:Nat):Rat)=ε;have o:ε*(2*(W:Rat)+1)=1:=by rw [<-N,g];rw [g]at I;grind
 have a0:0<=ε:=by rw [<-N];have:=fZ.2 I;rw [jJ];grind
 by_cases P:Big ε x (Zf a)
 .exact .inl P
 .by_cases Q:Big ε x (Zf b)
  .exact .inr Q
  .exfalso;obtain⟨R,S⟩:=Zd4 P;obtain⟨Y,Z⟩:=Zd4 Q;obtain⟨q1,q2⟩:=Zca u1 u2 R S M;obtain⟨r1,r2⟩:=Zca v1 v2 Y Z M;have h4:=l x;have j:(c:Rat)<=-1\/1<=(c:Rat):=by
    rcases nR c0 with h|h
    .left;have:((c:Int):Rat)<=((-1:Int):Rat):=by exact_mod_cast (show c<=-1 by omega)
     rwa [show(((-1:Int)):Rat)=-1 from rfl]at this
    .right;have:1<=c:=O;exact_mod_cast this
   have a3:0<ε:=by
    rcases(show ε=0\/0<ε by grind)with h|h
    .rw [h]at o;grind
    .exact h
   rcases j with j|j<;>grind
theorem two_pow_pos(e:Nat):(0:Rat)<((2^e:Nat):Rat):=by have:0<2^e:=cE O3;exact_mod_cast this
theorem Ypd  {A n e:Nat} (hx:Tr xs) (h0:xs≠[]) (hC:Ai F xs) (hK:0<K) (hA:0<A) (hn:(sqf F xs).length=n) (h2:2<=n) (na:∀i,(cf (sqf F xs) i).natAbs<=A) (nb:∀i,(cf (Yx (sqf F xs)) i).natAbs<=A) (hs:Zyy K A n e=true)
  {u v:Rat} (h1:-(K:Rat)<=u) (Z:u<=v) (h3:v<=(K:Rat)) (hh:v-u<=1/((2^e:Nat):Rat)) :
  vat ((chn F xs).map Zf) u-vat ((chn F xs).map Zf) v=crs (Zf (sqf F xs)) u v:=by
 have I:=hC.1.2.2.1;obtain⟨f1,f2,f3,f4,f5,f6⟩:=Ou (F:=F) hx h0 I;have g:=Ni f2;have H:=Od (sqf F xs);have hd:Yx (sqf F xs)≠[]:=λe=>by rw [e]at H;simp at H;omega
 have Y:1<=Ys (Yx (sqf F xs)):=by have h1:=Ch g hd;have h2:=Nk (Yx (sqf F xs));omega
 have a2:(1:Rat)<=(Ys (Yx (sqf F xs)):Rat):=by exact_mod_cast Y
 have N:∀i,(cf (Zx (Yx (sqf F xs))) i).natAbs<=A:=λi=>by have h5:=Fn (Yx (sqf F xs)) i;have h6:=nb i;rw [<-h5,cH]at h6;have:(cf (Zx (Yx (sqf F xs))) i).natAbs*1<=(cf (Zx (Yx (sqf F xs))) i).natAbs*(Ys (Yx (sqf F xs))).natAbs:=aX _ O;omega
 have o:∀q,Tr q->Ed q (sqf F xs)->Ed q (Zx (Yx (sqf F xs)))->q.length<=1:=λq hq a b=>Zfu hx h0 I hq a (b.sim (Qf g));have V:(Zx (Yx (sqf F xs))).length+1=(sqf F xs).length:=by rw [Zw];omega
 have j:=big_or (e:=e) hK hA f2 (Yv g) hn h2 V na N o;unfold Zyy at hs;simp only [aQ,Nat.ble_eq]at hs;obtain⟨s1,s2⟩:=hs;generalize (2*(2*n-3)*A)^(2*n-4)=X at *;generalize eB K X (n-1)=W at *;have hD:(0:Rat)<((2*W+1:Nat):Rat):=by
   have:(((0:Nat)):Rat)<((2*W+1:Nat):Rat):=by exact_mod_cast jO _
   exact this
 have hP:=two_pow_pos e;have a0:=Gx s1;have a1:=Gx s2;have c1:((2*(2*W+1)*(2*eL K A n):Nat):Rat)=2*((2*W+1:Nat):Rat)*(2*(eL K A n:Rat)):=by push_cast;rfl
 have c2:((2*(2*W+1)*eM K A n:Nat):Rat)=2*((2*W+1:Nat):Rat)*(eM K A n:Rat):=by push_cast;rfl
 rw [c1]at a0;rw [c2]at a1;have hi:=fZ.2 hD;have S:=fZ.2 hP;have w:((2*W+1:Nat):Rat)*((2*W+1:Nat):Rat)⁻¹=1:=O4;have G:((2^e:Nat):Rat)*((2^e:Nat):Rat)⁻¹=1:=O4;rw [jJ,oK]at hh;simp only [jJ,oK]at j;generalize ((2*W+1:Nat):Rat)=D at *;generalize ((2^e:Nat):Rat)=P at *;have l:(0:Rat)<=(eL K A n:Rat):=Gx (bG _);have R:(0:Rat)<=(eM K A n:Rat):=Gx (bG _);refine Zio (s:=-(K:Rat)) (t:=(K:Rat)) (κ:=(Ys (Yx (sqf F xs)):Rat)) (ε:=D⁻¹) (L:=(eL K A n:Rat)) (L':=(eL K A n:Rat)) (M:=(eM K A n:Rat)) (h:=P⁻¹) f2 (Yv g) hC.2.2 O4 (λx=>?_) hi j l (Zpk n _ O na) l (Zpk n _ O N) R (Ygf n _ O na) S ?_ ?_ h1 Z h3 hh
 .rw [<-Kv,<-Zl];exact Nw x _ _ λi=>by rw [Qu,cQ,Fn]
 .-- P⁻¹ * (2 L) ≤ D⁻¹ / 2
  have t1:=aJ (a:=P⁻¹*D⁻¹) (b:=P-2*D*(2*(eL K A n:Rat))) (by have:=bD S hi;grind) O4;have Q:P⁻¹*D⁻¹*(P-2*D*(2*(eL K A n:Rat)))=D⁻¹*(P*P⁻¹)-2*P⁻¹*(D*D⁻¹)*(2*(eL K A n:Rat)):=O4;rw [Q,w,G]at t1;grind
 .have t1:=aJ (a:=P⁻¹*D⁻¹) (b:=P-2*D*(eM K A n:Rat)) (by have:=bD S hi;grind) O4;have Q:P⁻¹*D⁻¹*(P-2*D*(eM K A n:Rat))=D⁻¹*(P*P⁻¹)-2*P⁻¹*(D*D⁻¹)*(eM K A n:Rat):=O4;rw [Q,w,G]at t1;have t2:=aJ (a:=(Ys (Yx (sqf F xs)):Rat)-1) (b:=D⁻¹) O4 O4;grind
theorem Zmo(V:Tr xs)(N:xs≠[])(R:Ai F xs){s:Rat}(w:s<=t):vat ((chn F xs).map Zf) t<=vat ((chn F xs).map Zf) s:=by
 obtain⟨h,P,G⟩:=Zmn V N R s t;have I:∀f u v,0<=crs f u v:=λf u v=>by unfold crs;split<;>decide
 have D:∀n:Nat,∀y,s<=y->y<=t->y-s<=(n:Rat)*h->vat ((chn F xs).map Zf) y<=vat ((chn F xs).map Zf) s:=λn=>by
  induction n with
  | zero=>
    intro y e g j;have:y=s:=by simp at j;grind
    rw [this];exact fA _
  | succ n M=>
   intro y e g j;have H:((n+1:Nat):Rat)*h=(n:Rat)*h+h:=by push_cast;grind
   rcases(show y-s<=(n:Rat)*h\/(n:Rat)*h<y-s by grind)with l|l
   .exact M y e g l
   .have Q:(0:Rat)<=(n:Rat)*h:=aJ (by exact_mod_cast bG n) O4;rcases(show s<=y-h\/y-h<s by grind)with o|o
    .have a:=M (y-h) o O4 O4;have b:=G (y-h) y o O4 g O4;have c:=I (Zf (sqf F xs)) (y-h) y;omega
    .have b:=G s y O4 e g O4;have c:=I (Zf (sqf F xs)) s y;omega
 have e:∃n:Nat,t-s<=(n:Rat)*h:=by
  have g:0<h⁻¹:=fZ.2 P;refine⟨((t-s)*h⁻¹).ceil.toNat,?_⟩;have j:=@oJ ((t-s)*h⁻¹);have H:((((t-s)*h⁻¹).ceil:Int):Rat)<=((((t-s)*h⁻¹).ceil.toNat:Nat):Rat):=by have:((t-s)*h⁻¹).ceil<=((((t-s)*h⁻¹).ceil.toNat:Nat):Int):=mB _;exact_mod_cast this
  have l:=dK (oE j H) (show 0<=h by grind);have Q:(t-s)*h⁻¹*h=t-s:=O4;grind
 obtain⟨n,S⟩:=e;exact D n t w O4 S
def qv(z:R2):Rat:=(z.1:Rat)/(z.2:Rat)
theorem Zu8{x y X Y g:Nat}(j:g=Nat.gcd x y)(R:0<y)(S:0<Y)(h:x*Y=X*y):y/g∣Y/\x/g<=X:=by
 have l:0<g:=by rw [j];exact Nat.gcd_pos_of_pos_right _ R
 have Q:Nat.Coprime (x/g) (y/g):=by rw [j];exact Nat.coprime_div_gcd_div_gcd (by rw [<-j];exact l)
 have D:x/g*g=x:=nS (by rw [j];exact mJ _ _);have n:y/g*g=y:=nS (by rw [j];exact oD _ _);have o:x/g*Y=X*(y/g):=by refine lK l ?_;have M:x/g*Y*g=x/g*g*Y:=O4;have N:X*(y/g)*g=X*(y/g*g):=O4;rw [M,N,D,n,h]
 have H:y/g∣Y:=Q.symm.dvd_of_dvd_mul_left (by rw [o];exact Nat.dvd_mul_left _ _);refine⟨H,?_⟩;obtain⟨k,I⟩:=H;have w:0<k:=nT λe=>by rw [e,gW]at I;omega
 have G:0<y/g:=nT λe=>by rw [e,gI]at n;omega
 rw [I]at o;have P:x/g*k=X:=by refine lK G ?_;have:x/g*k*(y/g)=x/g*(y/g*k):=O4;rw [this,o]
 rw [<-P];exact dP _ w
theorem Zqh{x y X Y:Int}(P:0<y)(R:0<Y)(h:x*Y=X*y)(M:bl X.natAbs<=B)(e:bl Y.natAbs<=B)(Q:B<=65536) :
  ¬Ia x y/\Ey x y∣Y/\0<Ey x y/\bl (Co x y).natAbs<=B/\bl (Ey x y).natAbs<=B/\Co x y*y=x*Ey x y:=by
 have S:Lv x y=(Nat.gcd x.natAbs y.natAbs:Int):=by rw [Ynu O];rfl
 have N:x.natAbs*Y.natAbs=X.natAbs*y.natAbs:=by rw [<-cH,<-cH,h]
 obtain⟨n,H⟩:=Zu8 (g:=Nat.gcd x.natAbs y.natAbs) rfl (by omega:0<y.natAbs) (by omega:0<Y.natAbs) N;have o:(y/Lv x y).natAbs=y.natAbs/Nat.gcd x.natAbs y.natAbs:=by rw [mM (Zlu x y),Zcz]
 have I:(x/Lv x y).natAbs=x.natAbs/Nat.gcd x.natAbs y.natAbs:=by rw [mM (Zt4 x y),Zcz]
 have D:bl (y/Lv x y).natAbs<=B:=aB (Og (by rw [o];exact mD O n)) e;have G:bl (x/Lv x y).natAbs<=B:=aB (Og (by rw [I];exact H)) M;have j:¬Ia x y:=λh=>by unfold Ia at h;omega
 obtain⟨w,l,-⟩:=Zfb j;refine⟨j,?_,Zww j P,by rw [w];exact G,by rw [l];exact D,?_⟩
 .rw [l];refine fN.1 ?_;rw [o];exact n
 .rw [w,l];exact Yii x y
structure En (K Q:Nat) (d:Nat) (z:R2):Prop where
 pos:0<z.2
 dv:z.2∣((Q*2^d:Nat):Int)
 lo:-(K:Rat)<=qv z
 hi:qv z<=(K:Rat)
theorem En.up{Q d:Nat}{z:R2}(h:En K Q d z):En K Q (d+1) z:=by
 obtain⟨e,g,j,l⟩:=h;refine⟨e,?_,j,l⟩;have:((Q*2^(d+1):Nat):Int)=((Q*2^d:Nat):Int)*2:=by rw [bX];push_cast;grind
 rw [this];exact iB g (jC _ _)
theorem canc{N p s Y X D:Int}(l:p≠0)(h:N*p=s*D)(j:s*Y=X*p):N*Y=X*D:=by refine Int.eq_of_mul_eq_mul_right l ?_;have e:N*Y*p=(N*p)*Y:=O4;have g:X*D*p=(X*p)*D:=O4;rw [e,g,h,<-j];grind
theorem Gg{z:Int}(h:0<z):(0:Rat)<(z:Rat):=by exact_mod_cast h
def Zdj{n:Nat}(h:n<2^m):bl n<=m:=(Qm m n).2 h
theorem mid_en{Q d:Nat}{a b:R2}(ha:En K Q d a)(hb:En K Q d b)(hQ:0<Q)(a5:Q*2^(d+1)<2^B)(a6:2*K*(Q*2^d)<2^B)(hB:B<=65536) :
  Zeu a b/\En K Q (d+1) (Ob a b)/\qv (Ob a b)=(qv a+qv b)/2/\bl (Ob a b).1.natAbs<=B/\bl (Ob a b).2.natAbs<=B:=by
 obtain⟨pa,⟨g,da⟩,la,ua⟩:=ha;obtain⟨pb,⟨h,db⟩,lb,ub⟩:=hb;generalize S:((Q*2^d:Nat):Int)=Y at *;have a0:0<Q*2^d:=fW hQ (cE O3);have o:0<Y:=by rw [<-S];exact_mod_cast a0
 have a8:=Gg pa;have a9:=Gg pb;have rY:=Gg o;have N:0<a.2*b.2:=iA pa pb;have j:(a.1*b.2+b.1*a.2)*Y=(a.1*g+b.1*h)*(a.2*b.2):=by have V:(a.1*g+b.1*h)*(a.2*b.2)=a.1*b.2*(a.2*g)+b.1*a.2*(b.2*h):=O4;rw [V,<-da,<-db];grind
 have a2:(a.1:Rat)*g=qv a*Y:=by
  unfold qv;have:(Y:Rat)=(a.2:Rat)*g:=by rw [da];push_cast;rfl
  rw [this];grind
 have a3:(b.1:Rat)*h=qv b*Y:=by
  unfold qv;have:(Y:Rat)=(b.2:Rat)*h:=by rw [db];push_cast;rfl
  rw [this];grind
 have hX:((a.1*g+b.1*h:Int):Rat)=(qv a+qv b)*Y:=by push_cast;rw [a2,a3];grind
 have a7:(a.1*g+b.1*h).natAbs<=2*K*(Q*2^d):=by
  have l:((2*K*(Q*2^d):Nat):Rat)=2*(K:Rat)*(Y:Rat):=by rw [<-S];push_cast;grind
  have t1:=aJ (a:=2*(K:Rat)-(qv a+qv b)) (b:=(Y:Rat)) O4 O4;have t2:=aJ (a:=2*(K:Rat)+(qv a+qv b)) (b:=(Y:Rat)) O4 O4;have u1:((a.1*g+b.1*h:Int):Rat)<=(((2*K*(Q*2^d):Nat):Int):Rat):=by rw [hX];push_cast at l ⊢;grind
  have u2:((-((2*K*(Q*2^d):Nat):Int):Int):Rat)<=((a.1*g+b.1*h:Int):Rat):=by rw [hX];push_cast at l ⊢;grind
  have v1:a.1*g+b.1*h<=((2*K*(Q*2^d):Nat):Int):=by exact_mod_cast u1
  have v2:-((2*K*(Q*2^d):Nat):Int)<=a.1*g+b.1*h:=by exact_mod_cast u2
  omega
 have w:Y.natAbs=Q*2^d:=by rw [<-S];rfl
 have Z:Q*2^(d+1)=2*(Q*2^d):=by rw [bX];grind
 have a1:bl Y.natAbs<=B:=Zdj (by rw [w];omega);have D:bl (a.1*g+b.1*h).natAbs<=B:=Zdj O;obtain⟨f1,f2,f3,f4,f5,f6⟩:=Zqh N o j D a1 hB;have a4:=canc (Int.ne_of_gt N) f6 j;have G:bl (2*Y).natAbs<=B:=Zdj (by rw [cH,w];show 2*(Q*2^d)<_;omega);have P:Co (a.1*b.2+b.1*a.2) (a.2*b.2)*1*(2*Y)=(a.1*g+b.1*h)*(Ey (a.1*b.2+b.1*a.2) (a.2*b.2)*2):=by rw [fL];have V:Co (a.1*b.2+b.1*a.2) (a.2*b.2)*(2*Y)=2*(Co (a.1*b.2+b.1*a.2) (a.2*b.2)*Y):=O4;rw [V,a4];grind
 have M:0<Ey (a.1*b.2+b.1*a.2) (a.2*b.2)*2:=O;obtain⟨g1,g2,W,g4,g5,g6⟩:=Zqh M (by omega:0<2*Y) P D G hB;have R:=canc (Int.ne_of_gt M) g6 P;have H:(Ob a b).1=Co (Co (a.1*b.2+b.1*a.2) (a.2*b.2)*1) (Ey (a.1*b.2+b.1*a.2) (a.2*b.2)*2):=rfl;have I:(Ob a b).2=Ey (Co (a.1*b.2+b.1*a.2) (a.2*b.2)*1) (Ey (a.1*b.2+b.1*a.2) (a.2*b.2)*2):=rfl;rw [<-H,<-I]at R;rw [<-I]at g2 W g5;rw [<-H]at g4;have hq:qv (Ob a b)=(qv a+qv b)/2:=by
  have h1:(((Ob a b).1:Int):Rat)*(2*(Y:Rat))=((a.1*g+b.1*h:Int):Rat)*(((Ob a b).2:Int):Rat):=by
   have:(((Ob a b).1*(2*Y):Int):Rat)=(((a.1*g+b.1*h)*(Ob a b).2:Int):Rat):=by rw [R]
   push_cast at this ⊢;grind
  rw [hX]at h1;have rd:=Gg W;unfold qv at *;generalize (((Ob a b).1:Int):Rat)=n at *;generalize (((Ob a b).2:Int):Rat)=m at *;generalize (a.1:Rat)/(a.2:Rat)=p at *;generalize (b.1:Rat)/(b.2:Rat)=q at *;generalize (Y:Rat)=y at *;grind
 refine⟨⟨f1,g1⟩,⟨W,?_,by rw [hq];grind,by rw [hq];grind⟩,hq,g4,g5⟩;have e:((Q*2^(d+1):Nat):Int)=2*Y:=by rw [Z,<-S];push_cast;rfl
 rw [e];exact g2
end Go.Sky

