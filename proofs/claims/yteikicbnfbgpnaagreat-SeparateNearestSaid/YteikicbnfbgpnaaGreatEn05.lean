/- Rules, arithmetic and contracts: part 6. No conditions but those that each theorem names. -/
import Derived.Test.YteikicbnfbgpnaaGreatEn04
set_option linter.all false
namespace Go.Sky
variable{p q a b s u xs x y v z:List Int}{c d r:Int}{F f m i K B:Nat}{t:Rat}
theorem Ycj(t:Int):∀p:List Int,Zf p (t:Rat)=((ev1 p t:Int):Rat)
 | []=>rfl
 | c::p=>by have h:=Ycj t p;rw [show Zf (c::p) (t:Rat)=(c:Rat)+(t:Rat)*Zf p (t:Rat)from rfl,show ev1 (c::p) t=c+t*ev1 p t from rfl,h];push_cast;rfl
theorem Zqq(h:∀x:Rat,Zf p x=0)(i:Nat):cf p i=0:=by
 by_cases j:cf p i=0
 .exact j
 .exfalso;have:=Zuo p.length p ((List.range p.length).map λn:Nat=>(n:Int)) rfl ⟨i,j⟩ (by
   refine List.Pairwise.map _ (λa b g=>?_) List.nodup_range;intro e;exact g (by exact_mod_cast e)) (λt l=>by
   have k:=Ycj t p;rw [h]at k;exact_mod_cast k.symm)
  simp at this
theorem Nq(h:∀x:Rat,Zf p x=Zf q x)(i:Nat):cf p i=cf q i:=by have e:=Zqq (p:=Mu p (q.map λa=>(-1)*a)) (λx=>by rw [Xp,Zo,h x];push_cast;grind) i;rw [Mv,Qq]at e;omega
def Ms(p:List Int)(x:Rat):Zf (tzl p) x=Zf p x:=Oy x _ _ λi=>Lc p i
theorem Yp(p q:List Int)(x:Rat):Zf (Qs p q) x=Zf p x*Zf q x:=by rw [<-Yc];exact Oy x _ _ λi=>by rw [Hs,Di,PS.mul_c];rfl
theorem Py(c:Int)(x:Rat):Zf [c] x=(c:Rat):=by show(c:Rat)+x*0=c;grind
def ld:List Int->List Int
 | []=>[]
 | _::p=>Mu p (0::ld p)
theorem Zgj(c:Int)(p:List Int)(x:Rat):Zf (ld (c::p)) x=Zf p x+x*Zf (ld p) x:=by rw [show ld (c::p)=Mu p (0::ld p)from rfl,Xp];show Zf p x+(((0:Int):Rat)+x*Zf (ld p) x)=_;push_cast;grind
theorem Zhp:∀(p:List Int) (i:Nat),cf (ld p) i=cf p (i+1)*((i:Int)+1)
 | [],i=>by rw [Zcj,show ld []=[]from rfl,Zcj,cM]
 | c::p,0=>by rw [show ld (c::p)=Mu p (0::ld p)from rfl,Mv];show cf p 0+0=cf p 0*_;simp
 | c::p,i+1=>by have h:=Zhp p i;rw [show ld (c::p)=Mu p (0::ld p)from rfl,Mv];show cf p (i+1)+cf (ld p) i=cf p (i+1)*_;rw [h];push_cast;grind
theorem Ij(p:List Int)(x:Rat):Zf (Yy p) x=Zf (ld p) x:=Oy x _ _ λi=>by rw [Zho,Zhp]
theorem Ct (p:List Int)(q:List Int)(h:∀x,Zf p x=Zf q x)(x:Rat):Zf (ld p) x=Zf (ld q) x:=Oy x _ _ λi=>by rw [Zhp,Zhp,Nq h]
theorem Ypt(p q:List Int)(x:Rat):Zf (ld (Mu p q)) x=Zf (ld p) x+Zf (ld q) x:=by rw [<-Xp];exact Oy x _ _ λi=>by rw [Zhp,Mv,Mv,Zhp,Zhp];grind
theorem Zah(c:Int)(p:List Int)(x:Rat):Zf (ld (p.map λa=>c*a)) x=(c:Rat)*Zf (ld p) x:=by rw [<-Zo];exact Oy x _ _ λi=>by rw [Zhp,Qq,Qq,Zhp];grind
theorem Bm(x:Rat):∀p q:List Int,Zf (ld (lmul p q)) x=Zf (ld p) x*Zf q x+Zf p x*Zf (ld q) x
 | [],q=>by show(0:Rat)=0*Zf q x+0*Zf (ld q) x;grind
 | c::p,q=>by have h:=Bm x p q;rw [show lmul (c::p) q=Mu (q.map λa=>c*a) (0::lmul p q)from rfl,Ypt,Zah,Zgj,Zgj,h,Yc,show Zf (c::p) x=(c:Rat)+x*Zf p x from rfl];grind
def Ed(g a:List Int):Prop:=∃(k:Int) (s:List Int),k≠0/\∀x:Rat,(k:Rat)*Zf a x=Zf s x*Zf g x
theorem Ed.refl(a:List Int):Ed a a:=⟨1,[1],O3,λx=>by rw [Py]⟩
theorem Ed.nil(g:List Int):Ed g []:=⟨1,[],O3,λx=>by show(((1:Int)):Rat)*0=0*Zf g x;grind⟩
theorem Ed.trans{c:List Int} : Ed a b->Ed b c->Ed a c:=λ⟨k,s,j,h⟩ ⟨m,u,l,e⟩=>
 ⟨k*m,lmul u s,bJ j l,λx=>by have n:=h x;have g:=e x;rw [Yc];push_cast;have:(k:Rat)*m*Zf c x=k*(m*Zf c x):=O4;rw [this,g];grind⟩
theorem Ed.congr{g:List Int}(h:Ed g a)(e:∀x,Zf a x=Zf b x):Ed g b:=by obtain⟨k,s,j,h⟩:=h;exact⟨k,s,j,λx=>by rw [<-e x];exact h x⟩
theorem Ed.congr_l{g j:List Int}(h:Ed g a)(e:∀x,Zf g x=Zf j x):Ed j a:=by obtain⟨k,s,l,h⟩:=h;exact⟨k,s,l,λx=>by rw [<-e x];exact h x⟩
theorem Ed.sim{g:List Int}(h:Ed g a)(e:Sim a b):Ed g b:=by
 obtain⟨k,s,o,h⟩:=h;obtain⟨m,n,D,w,e⟩:=e;refine⟨k*n,s.map λc=>m*c,bJ o w,λx=>?_⟩;have j:Zf (a.map λc=>m*c) x=Zf (b.map λc=>n*c) x:=Oy x _ _ λi=>by rw [Qq,Qq,e]
 rw [Zo,Zo]at j;rw [Zo];have:=h x;push_cast;have l:(k:Rat)*n*Zf b x=k*(n*Zf b x):=O4;rw [l,<-j];grind
theorem Ed.lin{g c:List Int}(w:Ed g a)(D:Ed g b)(s:List Int)(L:Int)(o:L≠0)(h:∀x,(L:Rat)*Zf c x=Zf s x*Zf a x+Zf b x):Ed g c:=by obtain⟨k,u,G,j⟩:=w;obtain⟨m,v,H,l⟩:=D;refine⟨L*(k*m),Mu ((lmul s u).map λc=>m*c) (v.map λc=>k*c),bJ o (bJ G H),λx=>?_⟩;have j:=j x;have l:=l x;have h:=h x;rw [Xp,Zo,Zo,Yc];push_cast;have e:(L:Rat)*(k*m)*Zf c x=k*m*(L*Zf c x):=O4;rw [e,h];have n:(k:Rat)*m*(Zf s x*Zf a x+Zf b x)=m*Zf s x*(k*Zf a x)+k*(m*Zf b x):=O4;rw [n,j,l];grind
theorem Zy3{g:List Int}{k:Int}(P:k≠0)(N:Tr g)(M:Tr a)(I:a≠[])(h:∀x:Rat,(k:Rat)*Zf a x=Zf s x*Zf g x):g≠[]/\tzl s≠[]/\(tzl s).length+g.length<=a.length+1:=by
 have o:∀i,k*cf a i=(ps (tzl s)*ps g).c i:=λi=>by have j:=Nq (p:=a.map λc=>k*c) (q:=lmul (tzl s) g) (λx=>by rw [Zo,Yc,Ms];exact h x) i;rw [Qq,Di]at j;rw [j,PS.mul_c];rfl
 have H:∀i,k*cf a i=0->cf a i=0:=λi hi=>(eR.1 hi).resolve_left P;have l:=M.mem I;have j:tzl s≠[]:=λe=>l (H _ (by rw [o,e,Ke (λt=>Yf (bD _))]));have n:g≠[]:=λe=>l (H _ (by rw [o,e,PS.mul_comm',Ke (λt=>Yf (bD _))]));refine⟨n,j,?_⟩;have Q:=aF.2 j;have R:=aF.2 n;have D:=Av g (p:=tzl s) (a:=(tzl s).length-1) (b:=g.length-1) (λi hi=>Yf O) (λi hi=>Yf O);rw [<-o]at D;have w:=bJ ((Qi s).mem j) (N.mem n);rcases aZ ((tzl s).length-1+(g.length-1)) a.length with G|G
 .omega
 .rw [Yf G,dU]at D;exact absurd D.symm w
theorem Ed.len{g:List Int}(h:Ed g a)(o:Tr g)(n:Tr a)(l:a≠[]):g≠[]/\g.length<=a.length:=by obtain⟨k,s,w,h⟩:=h;obtain⟨e,j,D⟩:=Zy3 w o n l h;have:=aF.2 j;exact⟨e,O⟩
theorem Ed.same{g:List Int}(h:Ed g a)(G:Tr g)(w:Tr a)(o:a≠[])(M:g.length=a.length):Ed a g:=by
 obtain⟨k,s,H,h⟩:=h;obtain⟨I,j,n⟩:=Zy3 H G w o h;have e:=aF.2 j
 match hs:tzl s,e,n with
 | [c],_,_=>
  have D:c≠0:=by have:=(Qi s).mem j;rw [hs]at this;exact this
  refine⟨c,[k],D,λx=>?_⟩;have l:=h x;rw [<-Ms s,hs,Py]at l;rw [Py];exact l.symm
 | c::d::r,_,h9=>simp at h9;omega
theorem Znu:∀(n:Nat) (a b:List Int),Tr a->Tr b->b.length<=n->∃g A B:List Int,Tr g/\Ed g a/\Ed g b/\∀x,Zf g x=Zf A x*Zf a x+Zf B x*Zf b x
 | n,a,[],j,l,_=>⟨a,[1],[],j,Ed.refl a,Ed.nil a,λx=>by rw [Py];show _=_+0*(0:Rat);push_cast;grind⟩
 | 0,a,c::r,_,_,hl=>absurd hl O7
 | n+1,a,c::b',j,l,hl=>by
  have h:(c::b')≠[]:=O7;generalize c::b'=b at *;obtain⟨k,s,hs⟩:=Cu a h;have w:=Nu (l.mem h) k;generalize cf b (b.length-1)^k=L at hs w;have M:=Pe a h;obtain⟨g,A,B,G,o,H,I⟩:=Znu n b (Qc a b) l (Kq _ j) O;have D:∀x,(L:Rat)*Zf a x=Zf s x*Zf b x+Zf (Qc a b) x:=λx=>by have:=Ci L (-1) a s b (Qc a b) (λt=>by rw [hs t];omega) x;push_cast at this;grind
  refine⟨g,B.map λc=>L*c,Mu A ((lmul B s).map λc=>(-1)*c),G,o.lin H s L w D,o,λx=>?_⟩;rw [Zo,Xp,Zo,Yc,I x];have:=D x;have e:Zf (Qc a b) x=L*Zf a x-Zf s x*Zf b x:=O4;rw [e];push_cast;grind
def Irr(q:List Int):Prop:=Tr q/\2<=q.length/\∀d,Tr d->Ed d q->d.length<=1\/d.length=q.length
theorem Zeh(h:2<=q.length):q≠[]:=λe=>by rw [e]at h;simp at h
theorem Ykz:∀(n:Nat) (q:List Int),q.length<=n->Tr q->2<=q.length->∃p,Irr p/\Ed p q
 | 0,q,D,_,j=>O
 | n+1,q,D,l,j=>by
  by_cases h:Irr q
  .exact⟨q,h,Ed.refl q⟩
  .have:∃d,Tr d/\Ed d q/\¬(d.length<=1\/d.length=q.length):=by refine bQ λw=>h ⟨l,j,λd e g=>bQ λo=>w ⟨d,e,g,o⟩⟩
   obtain⟨d,e,g,I⟩:=this;have G:=(g.len e l (Zeh j)).2;obtain⟨p,H,k⟩:=Ykz n d O e O;exact⟨p,H,k.trans g⟩
theorem Zbi (f:List Int)(h:List Int)(m:List Int)(k:Int)(S:Irr q)(R:k≠0)(e:∀x:Rat,(k:Rat)*(Zf f x*Zf h x)=Zf m x*Zf q x):Ed q f\/Ed q h:=by
 obtain⟨j,n,G⟩:=S;obtain⟨g,A,B,l,o,I,w⟩:=Znu _ q (tzl f) j (Qi f) (aI _);have Q:=(o.len l j (Zeh n)).1;rcases G g l o with D|D
 .right
  match g,Q,D,l,w with
  | [c],_,_,l,w=>
   have P:c≠0:=l.mem O7;refine⟨c*k,Mu ((lmul A h).map λc=>k*c) (lmul B m),bJ P R,λx=>?_⟩;have H:=w x;have N:=e x;rw [Py,Ms]at H;rw [Xp,Zo,Yc,Yc];push_cast;rw [H];have:(Zf A x*Zf q x+Zf B x*Zf f x)*k*Zf h x=k*Zf A x*Zf q x*Zf h x+Zf B x*(k*(Zf f x*Zf h x)):=O4;rw [this,N];grind
  | c::d::r,_,h9,_,_=>simp at h9
 .left;have M:=o.same l j (Zeh n) D;exact(M.trans I).congr λx=>Ms f x
def Fq(q:List Int):Nat->List Int
 | 0=>[1]
 | n+1=>Qs q (Fq q n)
theorem Zbc{q:List Int}(j:Tr q)(g:2<=q.length):∀n,Tr (Fq q n)/\n+1<=(Fq q n).length
 | 0=>⟨.inr (show cf [1] 0≠0 by decide),aI _⟩
 | n+1=>by obtain⟨k,h⟩:=Zbc j g n;refine⟨Qm,?_⟩;show n+1+1<=(Qs q (Fq q n)).length;rw [Ov j k (Zeh g) (λe=>by rw [e]at h;simp at h)];omega
def Et(q:List Int)(n:Nat)(x:Rat):Zf (Fq q (n+1)) x=Zf q x*Zf (Fq q n) x:=Yp _ _ _
theorem Zqu(q:List Int):∀(n:Nat) (x:Rat),Zf (ld (Fq q (n+1))) x=((n:Rat)+1)*(Zf (Fq q n) x*Zf (ld q) x)
 | n,x=>by
  have e:Zf (ld (Fq q (n+1))) x=Zf (ld (lmul q (Fq q n))) x:=Ct _ _ (λy=>by rw [Et,Yc]) x;rw [e,Bm]
  match n with
  | 0=>
   rw [show Zf (ld (Fq q 0)) x=0 from by rw [show Fq q 0=[1]from rfl,Zgj];show(0:Rat)+x*0=0;grind];simp;grind
  | n+1=>
   rw [Zqu q n x,Et];push_cast;grind
theorem Yhh{g u:List Int}{c:Int}{k:Nat}(M:∀x:Rat,Zf p x=Zf s x*Zf g x)(I:∀d,Tr d->Ed d p->Ed d (ld p)->Ed d g)(hq:Irr q)(h1:Ed q s)(h2:Ed q (ld s))(hk:Ed (Fq q k) g):Ed (Fq q (k+1)) g:=by
 obtain⟨n,w,N⟩:=hq;obtain⟨l,h,k1,Q⟩:=h1;obtain⟨D,s2,k2,Z⟩:=h2;have Y:∀x:Rat,(l:Rat)*Zf (ld s) x=Zf (ld h) x*Zf q x+Zf h x*Zf (ld q) x:=λx=>by have:=Ct (s.map λa=>l*a) (lmul h q) (λy=>by rw [Zo,Yc];exact Q y) x;rwa [Zah,Bm]at this
 have h3:Ed q h:=by
  rcases Zbi h (ld q) (Mu (s2.map λa=>l*a) ((ld h).map λa=>(-D)*a)) _ ⟨n,w,N⟩ k2 (λx=>by have P:=Y x;have S:=Z x;rw [Xp,Zo,Zo];push_cast;have:(D:Rat)*(Zf h x*Zf (ld q) x)=l*(D*Zf (ld s) x)-D*(Zf (ld h) x*Zf q x):=O4;rw [this,S];grind)with h9|h9
  .exact h9
  .exfalso;have h8:Ed q (Yy q):=h9.congr λx=>(Ij q x).symm;have R:=Oc q;have:=(h8.len n (Nm n) (λe=>by rw [e]at R;simp at R;omega)).2;omega
 obtain⟨o,j,k3,e3⟩:=h3;obtain⟨c,u,kc,eu⟩:=hk;have H:∀x:Rat,((l*o*c:Int):Rat)*Zf p x=Zf (lmul j u) x*Zf (Fq q (k+1+1)) x:=λx=>by rw [M x,Yc,Et,Et];push_cast;have P:=Q x;have V:=e3 x;have W:=eu x;have:(l:Rat)*o*c*(Zf s x*Zf g x)=o*(l*Zf s x)*(c*Zf g x):=O4;rw [this,P,W];have:(o:Rat)*(Zf h x*Zf q x)*(Zf u x*Zf (Fq q k) x)=(o*Zf h x)*Zf q x*(Zf u x*Zf (Fq q k) x):=O4;rw [this,V];grind
 have G:l*o*c≠0:=bJ (bJ k1 k3) kc;generalize l*o*c=C at H G;have hD:∀x:Rat,(C:Rat)*Zf (ld p) x=Zf (ld (lmul j u)) x*Zf (Fq q (k+1+1)) x+Zf (lmul j u) x*((((k+1:Nat):Rat)+1)*(Zf (Fq q (k+1)) x*Zf (ld q) x)):=λx=>by have:=Ct (p.map λa=>C*a) (lmul (lmul j u) (Fq q (k+1+1))) (λy=>by rw [Zo,Yc];exact H y) x;rwa [Zah,Bm,Zqu]at this
 refine I _ (Zbc n w _).1 ⟨C,lmul (lmul j u) q,G,λx=>?_⟩ ⟨C,Mu (lmul (ld (lmul j u)) q) ((lmul (lmul j u) (ld q)).map λa=>((k+2:Nat):Int)*a),G,λx=>?_⟩
 .rw [H x,Yc _ (lmul j u),Et q (k+1)];grind
 .rw [hD x,Xp,Zo,Yc _ (ld (lmul j u)),Yc _ (lmul j u),Et q (k+1)];push_cast;grind
theorem Yhj{g:List Int}(l:∀x:Rat,Zf p x=Zf s x*Zf g x)(I:Tr g)(D:g≠[])(j:∀d,Tr d->Ed d p->Ed d (ld p)->Ed d g)(M:Tr q)(G:Ed q s)(H:Ed q (ld s)):q.length<=1:=by
 refine bQ λh=>?_;obtain⟨r,n,e⟩:=Ykz _ q (aI _) M O;have o:∀k,Ed (Fq r k) g:=λk=>by
  induction k with
  | zero=>exact⟨1,g,O3,λx=>by rw [show Fq r 0=[1]from rfl,Py];push_cast;grind⟩
  | succ k N=>exact Yhh (u:=[]) (c:=0) l j n (e.trans G) (e.trans H) N
 obtain⟨w,P⟩:=Zbc n.1 n.2.1 g.length;have:=((o g.length).len w I D).2;omega
theorem Yrb{d:List Int}(o:Tr b)(g:b≠[])(h:Ed d a)(j:Ed d b):Ed d (Qc a b):=by
  obtain⟨k,s,hs⟩:=Cu a g;have n:=Nu (o.mem g) k;generalize cf b (b.length-1)^k=L at hs n;have w:∀x,(L:Rat)*Zf a x=Zf s x*Zf b x+Zf (Qc a b) x:=λx=>by have:=Ci L (-1) a s b (Qc a b) (λt=>by rw [hs t];omega) x;push_cast at this;grind
  have l:Ed d (a.map λc=>L*c):=by obtain⟨k,u,D,e⟩:=h;exact⟨k,u.map λc=>L*c,D,λx=>by rw [Zo,Zo];have:=e x;grind⟩
  exact j.lin l (s.map λc=>(-1)*c) 1 O3 λx=>by rw [Zo,Zo];push_cast;have:=w x;grind
theorem Zwa{d:List Int} : ∀(f:Nat) {a b:List Int},Tr a->Tr b->Ed d a->Ed d b->Ed d (eu f a b)
  | 0,a,b,_,_,e,_=>e
  | f+1,a,b,k,j,e,h=>by
    by_cases g:b=[]
    . rw [g,Cc];exact e
    . rw [show eu (f + 1) a b = eu f b (Zw (Qc a b)) by
          conv=>lhs;unfold eu
          rw [aD g]]
      have t1:=Kq b k;exact Zwa f j (Yv t1) h ((Yrb j g e h).sim (Ql t1).symm)
theorem Zmc{d:List Int}(e:Tr p)(g:Tr q)(h:Ed d p)(j:Ed d q):Ed d (Nc F p q):=by
  have k:=h.sim (Ql e).symm;have l:=j.sim (Ql g).symm;unfold Nc;refine Ed.sim ?_ (Hm _).symm;refine Zwa F (Zi5 e g) (Zi4 e g) ?_ ?_
  . unfold gA;split<;>assumption
  . unfold gB;split<;>assumption
theorem Zf8(j:Tr xs)(k:xs≠[])(e:eok F (gA (Xa xs) (Yy (Xa xs))) (gB (Xa xs) (Yy (Xa xs))))(o:Tr q)(l:Ed q (sqf F xs))(n:Ed q (Yy (sqf F xs))):q.length<=1:=by
  obtain⟨f1,f2,f3,f4,f5,f6⟩:=Ou F j k e;have hs:Tr (Xa xs):=Na (Yv j);have h:Tr (Yy (Xa xs)):=Nm hs;refine Yhj (p:=Xa xs) (s:=sqf F xs) (g:=Nc F (Xa xs) (Yy (Xa xs))) (λx=>?_) (Zd1 _ hs h) f5 (λd _ a b=>?_) o l (n.congr λx=>Ij _ x)
  . have:Zf (Xa xs) x=Zf (Qs (sqf F xs) (Nc F (Xa xs) (Yy (Xa xs)))) x:=by rw [<-f4]
    rw [this,Yp]
  . exact Zmc hs h a (b.congr λx=>(Ij _ x).symm)
theorem Zbo:∀(l:List Int) (n z:Int),(l.foldl Ng (n,z)).1=n+(l.foldl Ng (0,z)).1
 | [],n,z=>O7
 | x::l,n,z=>by
  simp only [gY];by_cases h:x=0
  .have e:∀n,Ng (n,z) x=(n,z):=λn=>by unfold Ng;rw [aG h]
   rw [e,e];exact Zbo l n z
  .by_cases g:x=-z
   .have e:∀n,Ng (n,z) x=(n+1,x):=λn=>by unfold Ng;rw [aD h,aG (by dsimp only;exact g)]
    rw [e,e,Zbo l (n+1) x,Zbo l (0+1) x];omega
   .have e:∀n,Ng (n,z) x=(n,x):=λn=>by unfold Ng;rw [aD h,aD (by dsimp only;exact g)]
    rw [e,e];exact Zbo l n x
theorem Ysd{x y:Int}{l:List Int}(k:y≠0):chg (x::y::l)=chg (y::l)+(if x=-y then 1 else 0):=by
 unfold chg;simp only [gY];have g:Ng (0,0) y=(0,y):=by unfold Ng;rw [aD k,aD O9]
 rw [g];by_cases j:x=0
 .have e:Ng (0,0) x=(0,0):=by unfold Ng;rw [aG j]
  rw [e,g,aD O];omega
 .have e:Ng (0,0) x=(0,x):=by unfold Ng;rw [aD j,aD O9]
  rw [e];have n:Ng (0,x) y=(if x=-y then 1 else 0,y):=by
   unfold Ng;rw [aD k];by_cases h:x=-y
   .rw [aG O9,aG h];rfl
   .rw [aD O9,aD h]
  rw [n,Zbo];omega
def crs(f:Rat->Rat)(u v:Rat):Int:=if f u≠0/\f u*f v<=0 then 1 else 0
theorem Zkf(s t:Rat):∀p:List Int,∃M:Rat,0<M/\∀x y,s<=x->x<=y->y<=t->
  -(M*(y-x)*(y-x))<=Zf p y-Zf p x-(y-x)*Zf (ld p) x/\Zf p y-Zf p x-(y-x)*Zf (ld p) x<=M*(y-x)*(y-x)
 | []=>⟨1,O3,λx y W Y Z=>by have:=aL (a:=y-x) (b:=y-x) O4 O4;show -(1*(y-x)*(y-x))<=(0:Rat)-0-(y-x)*0/\(0:Rat)-0-(y-x)*0<=1*(y-x)*(y-x);constructor<;>grind⟩
 | c::p=>by obtain⟨M,I,N⟩:=Zkf s t p;obtain⟨L,l1,H⟩:=Bl s t p;obtain⟨K,D,G⟩:=Yq8 s t;refine⟨L+K*M,by have:=bC D I;grind,λx y hs h k=>?_⟩;obtain⟨l,n⟩:=N x y hs h k;obtain⟨P,R⟩:=H x y hs h k;obtain⟨o,w⟩:=G x hs O4;have j:0<=y-x:=O4;obtain⟨f1,f2⟩:=Zcm (q:=x) (Q:=K) (g:=Zf p y-Zf p x-(y-x)*Zf (ld p) x) (e:=M*(y-x)*(y-x)) o w l n O4;have S:=aL (a:=y-x) (b:=L*(y-x)-(Zf p y-Zf p x)) j O4;have V:=aL (a:=y-x) (b:=L*(y-x)+(Zf p y-Zf p x)) j O4;rw [Zgj,show Zf (c::p) y=(c:Rat)+y*Zf p y from rfl,show Zf (c::p) x=(c:Rat)+x*Zf p x from rfl];constructor<;>grind
theorem Yc4(D:Tr a)(hb:Tr b)(h0:a≠[])(hc:∀q,Tr q->Ed q a->Ed q b->q.length<=1)(s t:Rat):∃ε:Rat,0<ε/\∀x,s<=x->x<=t->Big ε x (Zf a)\/Big ε x (Zf b):=by
 obtain⟨g,A,B,e,n,Z,j⟩:=Znu _ a b D hb (aI _);have hl:=hc g e n Z;have hg:=(n.len e D h0).1
 match g,hg,hl,e,j with
 | [c],_,_,e,j=>
  have l:c≠0:=e.mem O7;obtain⟨P,p1,p2⟩:=Zus s t A;obtain⟨Q,q1,q2⟩:=Zus s t B;obtain⟨ε,Y,e2,e3⟩:=Gh (show(0:Rat)<1 by decide) (show 0<(P+Q)+(P+Q) by grind) (show(0:Rat)<1 by decide);refine⟨ε,Y,λx hs G=>?_⟩;by_cases o:Big ε x (Zf a)
  .exact .inl o
  .by_cases w:Big ε x (Zf b)
   .exact .inr w
   .exfalso;obtain⟨H,I⟩:=Zeg o;obtain⟨M,N⟩:=Zeg w;obtain⟨R,S⟩:=p2 x hs G;obtain⟨V,W⟩:=q2 x hs G;obtain⟨u1,u2⟩:=Zcm R S H I O4;obtain⟨v1,v2⟩:=Zcm V W M N O4;have h4:=j x;rw [Py]at h4;have k:(c:Rat)<=-1\/1<=(c:Rat):=by
     rcases nX l with h|h
     .left;have:((c:Int):Rat)<=((-1:Int):Rat):=by exact_mod_cast (show c<=-1 by omega)
      rwa [show(((-1:Int)):Rat)=-1 from rfl]at this
     .right;have:1<=c:=O;exact_mod_cast this
    rcases k with k|k<;>grind
 | c::d::r,_,h9,_,_=>simp at h9
theorem Big.near{ε x y:Rat}{f:Rat->Rat}(h:Big ε x f)(e:f x-f y<=ε/2)(g:f y-f x<=ε/2):Big (ε/2) y f:=by unfold Big at *;grind
theorem Zjc(x:Rat):Ep x=-1↔x<0:=by
 unfold Ep;by_cases h:x<0
 .rw [aG h];simp [h]
 .rw [aD h];by_cases e:x=0
  .rw [aG e];simp [h]
  .rw [aD e];simp [h]
theorem Yid(x:Rat):Ep (-x)=- Ep x:=by
 unfold Ep;by_cases h:x<0
 .rw [aG h,aD O4,aD O4];rfl
 .rw [aD h];by_cases e:x=0
  .rw [aG e,aD O4,aG O4];rfl
  .rw [aD e,aG O4]
theorem Zoi{f g:Rat->Rat}{r:List (Rat->Rat)}{x:Rat}(h:Ep (g x)≠0):vat (f::g::r) x=vat (g::r) x+(if Ep (f x)=- Ep (g x)then 1 else 0):=by unfold vat;simp only [bZ];exact Ysd h
def Tay(s t M:Rat)(p:List Int):Prop:=∀x y,s<=x->x<=y->y<=t->-(M*(y-x)*(y-x))<=Zf p y-Zf p x-(y-x)*Zf (ld p) x/\Zf p y-Zf p x-(y-x)*Zf (ld p) x<=M*(y-x)*(y-x)
theorem Zi9 {s:Rat}   (ha:Tr a) (hb:Tr b) (a1:cok f a b) {κ:Rat} (hκ:0<κ) (Y:∀x,Zf (ld a) x=κ*Zf b x)
  {ε L L' M h:Rat} (e1:0<ε) (e2:∀x,s<=x->x<=t->Big ε x (Zf a)\/Big ε x (Zf b)) (l1:0<=L) (l2:Lip s t L (Zf a)) (a9:0<=L') (N:Lip s t L' (Zf b)) (m1:0<=M) (m2:Tay s t M a)
  (h5:0<h) (h3:h*(L+L')<=ε/2) (h7:h*M<=κ*ε/2) {u v:Rat} (hs:s<=u) (j:u<=v) (ht:v<=t) (hh:v-u<=h) :
  vat ((Mc f a b).map Zf) u-vat ((Mc f a b).map Zf) v=crs (Zf a) u v:=by
 have R:∀w,u<=w->w<=v->L*(w-u)<=ε/2/\L'*(w-u)<=ε/2:=λw k n=>by have p1:=aL (a:=L) (b:=h-(w-u)) O4 O4;have p2:=aL (a:=L') (b:=h-(w-u)) O4 O4;have p3:=aL (a:=L) (b:=h) O4 O4;have p4:=aL (a:=L') (b:=h) O4 O4;constructor<;>grind
 by_cases D:Big ε u (Zf a)
 .have hB:∀w,u<=w->w<=v->Big (ε/2) w (Zf a):=λw k n=>by obtain⟨x1,x2⟩:=l2 u w hs k O4;have:=R w k n;exact D.near O4 O4
  rw [Zge ha hb a1 j (show 0<ε/2 by grind) hB];have hv:=hB v j O4;have:crs (Zf a) u v=0:=by
   unfold crs;refine aD λ⟨_,Q⟩=>?_;obtain⟨x1,x2⟩:=l2 u v hs j ht;have a6:=R v j O4;unfold Big at D hv;rcases D with hp|hp
   .have:0<Zf a v:=O4;have:=bC (show 0<Zf a u by grind) this;grind
   .have:0 < - Zf a v:=O4;have:=bC (show 0 < - Zf a u by grind) this;grind
  omega
 .have l:Big ε u (Zf b):=(e2 u hs O4).resolve_left D;have hB:∀w,u<=w->w<=v->Big (ε/2) w (Zf b):=λw k n=>by obtain⟨x1,x2⟩:=N u w hs k O4;have:=R w k n;exact l.near O4 O4
  have a2:b≠[]:=λe=>by rw [e]at l;unfold Big at l;have:Zf [] u=0:=rfl;rw [this]at l;grind
  obtain⟨g,hg,hd,a8,V,a4⟩:=Zhk a1 a2;have hT:=Zge hb (Zcv ha) V j (show 0<ε/2 by grind) hB;obtain⟨r,hr,_,_,_⟩:=Zo4 u v g b (Ma a b) hb (Zcv ha) V;rw [a4,hr];rw [hr]at hT;simp only [bZ]at hT ⊢;have a5:∃σ:Rat,(σ=1\/σ=-1)/\ε<σ*Zf b u/\∀w,u<=w->w<=v->0<σ*Zf b w:=by
   unfold Big at l;rcases l with hp|hp
   .refine⟨1,.inl rfl,O4,λw k n=>?_⟩;obtain⟨x1,x2⟩:=N u w hs k O4;have:=R w k n;grind
   .refine⟨-1,.inr rfl,O4,λw k n=>?_⟩;obtain⟨x1,x2⟩:=N u w hs k O4;have:=R w k n;grind
  obtain⟨σ,hσ,a7,S⟩:=a5;have o:u<v->σ*Zf a u<σ*Zf a v:=λG=>by
   obtain⟨y1,y2⟩:=m2 u v hs j ht;rw [Y u]at y1 y2;have hd:0<v-u:=O4;have z1:M*(v-u)<=κ*ε/2:=by have:=aL (a:=M) (b:=h-(v-u)) O4 O4;grind
   have z2:0<κ*(σ*Zf b u)-M*(v-u):=by have:=bC hκ (show 0<σ*Zf b u-ε by grind);have:=bC hκ e1;grind
   have z3:=bC hd z2;rcases hσ with rfl|rfl<;>grind
  have a0:∀w,u<=w->w<=v->Ep (Zf b w)≠0:=λw k n=>by
   have:=S w k n;rcases hσ with rfl|rfl
   .rw [Zae O4];decide
   .rw [Zaf O4];decide
  rw [Zoi (a0 u O4 j),Zoi (a0 v j O4),hT];have H:∀w,u<=w->w<=v->(Ep (Zf a w)=- Ep (Zf b w)↔σ*Zf a w<0):=λw k n=>by
   have:=S w k n;rcases hσ with rfl|rfl
   .rw [Zae (x:=Zf b w) O4,Zjc];constructor<;>intro<;>grind
   .rw [Zaf (x:=Zf b w) O4,show(-(-1:Int))=- -1 from rfl];have Q:=Zjc (-(Zf a w));rw [Yid]at Q;constructor
    .intro h8;have:=Q.1 O;grind
    .intro h8;have:=Q.2 O4;omega
  rw [show(if Ep (Zf a u)=- Ep (Zf b u)then(1:Int)else 0)=if σ*Zf a u<0 then 1 else 0 from by simp only [H u O4 j]];rw [show(if Ep (Zf a v)=- Ep (Zf b v)then(1:Int)else 0)=if σ*Zf a v<0 then 1 else 0 from by simp only [H v j O4]];have W:crs (Zf a) u v=if σ*Zf a u<0/\¬σ*Zf a v<0 then 1 else 0:=by
   unfold crs;have a3:Zf a u*Zf a v=(σ*Zf a u)*(σ*Zf a v):=by rcases hσ with rfl|rfl<;>grind
   have hz:Zf a u≠0↔σ*Zf a u≠0:=by rcases hσ with rfl|rfl<;>constructor<;>intro Q h8<;>exact Q O4
   have Z:(Zf a u≠0/\Zf a u*Zf a v<=0)↔(σ*Zf a u<0/\¬σ*Zf a v<0):=by
    rw [a3,hz];generalize hp:σ*Zf a u=p at *;generalize hq:σ*Zf a v=q at *;constructor
    .intro ⟨n1,n2⟩;rcases(show u<v\/u=v by grind)with G|I
     .have:=o G;rcases(show p<0\/0<p by grind)with P|P
      .refine⟨P,λn4=>?_⟩;have:=bC (show 0 < -p by grind) (show 0 < -q by grind);grind
      .have:=bC P (show 0<q by grind);grind
     .exfalso;have:q=p:=by rw [<-hp,<-hq,I]
      rw [this]at n2;rcases(show p<0\/0<p by grind)with P|P
      .have:=bC (show 0 < -p by grind) (show 0 < -p by grind);grind
      .have:=bC P P;grind
    .intro ⟨n1,n2⟩;refine⟨O4,?_⟩;have:=aL (show 0<=-p by grind) (show 0<=q by grind);grind
   simp only [Z]
  rw [W];by_cases k1:σ*Zf a u<0<;>by_cases k2:σ*Zf a v<0
  .simp [k1,k2]
  .simp [k1,k2];omega
  .exfalso;rcases(show u<v\/u=v by grind)with G|I
   .have:=o G;grind
   .rw [I]at k1;exact k1 k2
  .simp [k1,k2]
theorem Zll (κ:Rat){s:Rat}(w:Tr a)(D:Tr b)(I:a≠[])(g:cok f a b)(G:0<κ)(e:∀x,Zf (ld a) x=κ*Zf b x)(R:∀q,Tr q->Ed q a->Ed q b->q.length<=1) :
  ∃h:Rat,0<h/\∀u v,s<=u->u<=v->v<=t->v-u<=h->vat ((Mc f a b).map Zf) u-vat ((Mc f a b).map Zf) v=crs (Zf a) u v:=by
 obtain⟨ε,n,H⟩:=Yc4 w D I R s t;obtain⟨L,l1,Y⟩:=Bl s t a;obtain⟨l,W,k⟩:=Bl s t b;obtain⟨M,Z,m2⟩:=Zkf s t a;obtain⟨N,P,h3,h4⟩:=Gh (show(0:Rat)<1 by decide) (show 0<L+l by grind) (show 0<ε/2 by grind);obtain⟨h,o,h6,Q⟩:=Gh P Z (show 0<κ*ε/2 by have:=bC G n;grind);refine⟨h,o,λu v hs j V S=>Zi9 w D g G e n H O4 Y O4 k O4 m2 o ?_ Q hs j V S⟩;have:=aL (a:=L+l) (b:=N-h) O4 O4;grind
theorem Yk2:∀(n m:Nat) (f:Nat->Nat),(∀k,k<n->f k<m)->(∀a b,a<n->b<n->f a=f b->a=b)->n<=m
 | 0,_,_,_,_=>bD _
 | n+1,m,f,g,hi=>by
  have j:=g n O;have:=Yk2 n (m-1) (λk=>if f n<f k then f k-1 else f k) (λk G=>by
   have l:=g k O;have h:f k≠f n:=λe=>by have:=hi k n O O e;omega
   split<;>omega) (λa b w D e=>by
   have h:f a≠f n:=λe=>by have:=hi a n O O e;omega
   have o:f b≠f n:=λe=>by have:=hi b n O O e;omega
   refine hi a b O O ?_;split at e<;>split at e<;>omega)
  omega
theorem php{n:Nat}{f:Nat->Nat}(h:m<n)(w:∀k,k<n->f k<m):∃a b,a<n/\b<n/\a≠b/\f a=f b:=by refine bQ λj=>?_;have:=Yk2 n m f w λa b l o e=>bQ λg=>j ⟨a,b,l,o,g,e⟩;omega
def enc(B:Nat)(d:Nat->Nat):Nat->Nat
 | 0=>0
 | n+1=>enc B d n+d n*B^n
theorem Zse{B:Nat}{d:Nat->Nat} : ∀n,(∀i,i<n->d i<B)->enc B d n<B^n
 | 0,_=>by simp [enc]
 | n+1,h=>by have j:=Zse n λi hi=>h i O;have e:=h n O;have g:(d n+1)*B^n<=B*B^n:=aJ _ e;rw [bG,lZ]at g;rw [bX,aO (B^n) B];show enc B d n+d n*B^n<_;omega
theorem Yco{B:Nat}{d e:Nat->Nat} : ∀n,(∀i,i<n->d i<B)->(∀i,i<n->e i<B)->enc B d n=enc B e n->∀i,i<n->d i=e i
 | 0,_,_,_,i,hi=>absurd hi (cI i)
 | n+1,g,j,h,i,hi=>by
  have w:=Zse n λi hi=>g i O;have D:=Zse n λi hi=>j i O;have h:enc B d n+d n*B^n=enc B e n+e n*B^n:=h;have o:0<B^n:=O;have l:d n=e n:=by
   have G:(enc B d n+d n*B^n)/B^n=d n:=by rw [nE _ _ o,cN w,cC]
   have H:(enc B e n+e n*B^n)/B^n=e n:=by rw [nE _ _ o,cN D,cC]
   rw [<-G,<-H,h]
  rcases aZ i n with k|k
  .exact Yco n (λi hi=>g i O) (λi hi=>j i O) (by rw [l]at h;omega) i k
  .rw [show i=n by omega];exact l
def dig(B k j:Nat):Nat:=k/B^j%B
theorem Zsf(B k:Nat):∀n,enc B (dig B k) n=k%B^n
 | 0=>by simp [enc,nI]
 | n+1=>by show enc B (dig B k) n+dig B k n*B^n=_;rw [Zsf B k n,bX,nJ];unfold dig;rw [aO]
theorem Zlk (C:Int){f:Nat->Int} : ∀n,(∀i,i<n->-C<=f i/\f i<=C)->-((n:Int)*C)<=Ye f n/\Ye f n<=(n:Int)*C
 | 0,_=>by simp [Ga]
 | n+1,h=>by
  have g:=Zlk _ n λi hi=>h i O;have j:=h n O;have e:((n+1:Nat):Int)*C=(n:Int)*C+C:=by push_cast;grind
  rw [Yk,e];omega
theorem Zos(f g:Nat->Int):∀n,Ye (λi=>f i-g i) n=Ye f n-Ye g n
 | 0=>by simp [Ga]
 | n+1=>by rw [Yk,Yk,Yk,Zos f g n];omega
theorem siegel{N M A:Nat}(a0:M<N)(hA:0<A)(c:Nat->Nat->Int)(hc:∀i j,i<M->j<N->(c i j).natAbs<=A) :
  ∃x:Nat->Int,(∃j,j<N/\x j≠0)/\(∀j,j<N->(x j).natAbs<=(2*N*A)^M)/\∀i,i<M->Ye (λj=>c i j*x j) N=0:=by
 generalize hX:(2*N*A)^M=X;generalize Z:N*(A*X)=W;let d:=λk j=>dig (X+1) k j;have H:∀k j,d k j<=X:=λk j=>oF (bR _ (lH X));let y:=λk i=>Ye (λj=>c i j*(d k j:Int)) N;have R:∀k i,i<M->-(W:Int)<=y k i/\y k i<=(W:Int):=λk i hi=>by
  have g:=Zlk ((A*X:Nat):Int) (f:=λj=>c i j*(d k j:Int)) N λj P=>by
   have h:=hc i j hi P;have w:(c i j*(d k j:Int)).natAbs<=A*X:=by rw [cJ,dH];exact aU h (H k j)
   omega
  have l:((N:Int)*((A*X:Nat):Int))=(W:Int):=by rw [<-Z];push_cast;rfl
  rw [l]at g;exact g
 let e:=λk=>enc (2*W+1) (λi=>(y k i+(W:Int)).toNat) M;have I:∀k i,i<M->(y k i+(W:Int)).toNat<2*W+1:=λk i hi=>by have:=R k i hi;omega
 have Q:(2*W+1)^M<(X+1)^N:=by
  have g:2*W+1<=(2*N*A)*(X+1):=by
   have:0<N*A:=gI O hA;have o:2*N*A*(X+1)=2*W+2*(N*A):=by rw [<-Z];grind
   omega
  have h:=fV g M;rw [Nat.mul_pow,hX]at h;have w:(X+1)^(M+1)<=(X+1)^N:=dK O O;rw [bX]at w;have l:0<(X+1)^M:=cH O;have h5:X*(X+1)^M<(X+1)^M*(X+1):=by rw [aO];exact jP O l
  omega
 obtain⟨a,b,ha,hb,G,hf⟩:=php (f:=e) Q (λk _=>Zse M (I k));have S:=Yco M (I a) (I b) hf;refine⟨λj=>(d a j:Int)-(d b j:Int),?_,λj _=>?_,λi hi=>?_⟩
 .refine bQ λh9=>G ?_;have h8:∀j,j<N->d a j=d b j:=λj P=>bQ λD=>h9 ⟨j,P,λY=>D (by have Y:(d a j:Int)-(d b j:Int)=0:=Y;omega)⟩;have o:=Zsf (X+1) a N;have V:=Zsf (X+1) b N;rw [aX ha]at o;rw [aX hb]at V;have e3:∀n,n<=N->enc (X+1) (dig (X+1) a) n=enc (X+1) (dig (X+1) b) n:=λn=>by
   induction n with
   | zero=>intro _;rfl
   | succ n ih=>
    intro hn;have D:dig (X+1) a n=dig (X+1) b n:=h8 n O;show enc _ _ n+dig (X+1) a n*_=enc _ _ n+dig (X+1) b n*_;rw [ih O,D]
  rw [<-o,<-V];exact e3 N (aI _)
 .have g:=H a j;have h:=H b j;dsimp only;omega
 .have g:Ye (λj=>c i j*((d a j:Int)-(d b j:Int))) N=y a i-y b i:=by rw [<-Zos];exact Xd λj _=>O4
  rw [g];have h:=S i hi;have w:=R a i hi;have l:=R b i hi;omega
theorem Zi7(f:Nat->Int)(p:Nat):∀q,Ye f (p+q)=Ye f p+Ye (λk=>f (p+k)) q
 | 0=>by simp [Ga]
 | q+1=>by rw [<-gC,Yk,Yk,Zi7 f p q];omega
def sft(a:List Int)(t k:Nat):Int:=if k<=t then cf a (t-k)else 0
theorem Zng{U:List Int}{p:Nat}(h:U.length=p)(t:Nat):(ps U*ps a).c t=Ye (λk=>sft a t k*cf U k) p:=by rw [<-Zxd,<-h];refine Xd λk _=>?_;unfold sft;split<;>grind
theorem Zes{U:List Int}{p t:Nat}(h:U.length<=p)(j:p+a.length<=t+1):(ps U*ps a).c t=0:=by
 rw [PS.mul_c];refine Gl λk g=>?_;rw [Ol,Ol];rcases aZ k U.length with e|e
 .rw [Yf (p:=a) O,dU]
 .rw [Yf e,cM]
theorem Zjb (a:List Int)(b:List Int)(lo:Nat){p q A:Nat}(D:0<A)(G:∀i,(cf a i).natAbs<=A)(H:∀i,(cf b i).natAbs<=A)(P:0<p+q)(Q:p+a.length<=p+q+lo)(R:q+b.length<=p+q+lo) :
  ∃U V:List Int,U.length=p/\V.length=q/\((∃i,cf U i≠0)\/∃i,cf V i≠0)/\(∀i,(cf U i).natAbs<=(2*(p+q)*A)^(p+q-1))/\(∀i,(cf V i).natAbs<=(2*(p+q)*A)^(p+q-1))/\
   ∀t,lo<=t->(ps U*ps a).c t+(ps V*ps b).c t=0:=by
 obtain⟨x,⟨j,S,e⟩,w,I⟩:=siegel (N:=p+q) (M:=p+q-1) (A:=A) O D (λi j=>if j<p then sft a (lo+i) j else sft b (lo+i) (j-p)) (λi j _ _=>by
  split<;>unfold sft<;>split
  .exact G _
  .simp
  .exact H _
  .simp)
 have l:∀i,cf (mk p x) i=if i<p then x i else 0:=λi=>Nw _ _ _
 have n:∀i,cf (mk q λk=>x (p+k)) i=if i<q then x (p+i)else 0:=λi=>Nw _ _ _
 refine⟨mk p x,mk q λk=>x (p+k),Yu _ _,Yu _ _,?_,λi=>?_,λi=>?_,λt W=>?_⟩
 .rcases aZ j p with h|h
  .exact .inl ⟨j,by rw [l,aG h];exact e⟩
  .exact .inr ⟨j-p,by rw [n,aG O,show p+(j-p)=j by omega];exact e⟩
 .rw [l];split
  .exact w i O
  .exact bD _
 .rw [n];split
  .exact w _ O
  .exact bD _
 .rcases aZ (t-lo) (p+q-1)with h|h
  .have o:=I (t-lo) h;rw [show lo+(t-lo)=t by omega,Zi7]at o;rw [Zng (Yu _ _),Zng (Yu _ _),<-o];congr 1
   .exact Xd λk g=>by rw [aG g,l,aG g]
   .exact Xd λk g=>by rw [aD O,n,aG g,show p+k-p=k by omega]
  .rw [Zes (oJ (Yu _ _)) O,Zes (oJ (Yu _ _)) O];rfl
theorem Yc5 (t:Nat){U:List Int}{p X A:Nat}(h:U.length=p)(j:∀i,(cf U i).natAbs<=X)(l:∀i,(cf a i).natAbs<=A):((ps U*ps a).c t).natAbs<=p*(X*A):=by
 rw [Zng h];have e:=Zlk ((X*A:Nat):Int) (f:=λk=>sft a t k*cf U k) p λk _=>by
  have:(sft a t k*cf U k).natAbs<=X*A:=by
   rw [cJ,aO];refine aU (j k) ?_;unfold sft;split
   .exact l _
   .simp
  omega
 have g:((p:Int)*((X*A:Nat):Int))=((p*(X*A):Nat):Int):=by push_cast;rfl
 rw [g]at e;omega
theorem Zgl (w:List Int)(q:List Int)(y:List Int)(n:Nat)(h:∀x,Zf w x=Zf q x*Zf y x)(G:Tr y)(k:y≠[])(D:∀i,n<=i->cf w i=0):tzl q=[]\/(tzl q).length+y.length<=n+1:=by
 by_cases g:tzl q=[]
 .exact .inl g
 .right;have o:∀i,cf w i=(ps (tzl q)*ps y).c i:=λi=>by rw [Nq (p:=w) (q:=lmul (tzl q) y) (λx=>by rw [Yc,Ms];exact h x) i,Di,PS.mul_c];rfl
  have H:=aF.2 g;have I:=aF.2 k;have j:=Av y (p:=tzl q) (a:=(tzl q).length-1) (b:=y.length-1) (λi hi=>Yf O) (λi hi=>Yf O);rw [<-o]at j;have e:=bJ ((Qi q).mem g) (G.mem k);rcases aZ ((tzl q).length-1+(y.length-1)) n with l|l
  .omega
  .rw [D _ l]at j;exact absurd j.symm e
theorem Ey (v:List Int){f:List Int}(j:tzl v≠[])(h:∀x,Zf v x*Zf f x=0)(x:Rat):Zf f x=0:=by
 by_cases e:tzl f=[]
 .rw [<-Ms,e];rfl
 .exfalso;rcases Zgl [] v (tzl f) 0 (λx=>by rw [Ms,h x];rfl) (Qi f) e (λi _=>Zcj i)with g|g
  .exact j g
  .have:=aF.2 e;have:=aF.2 j;omega
structure Inv (a b x y:List Int):Prop where
 ex:∃(α β γ:Int) (u' v' u v:List Int),α≠0/\β≠0/\γ≠0/\
  (∀t:Rat,(α:Rat)*Zf x t=Zf u' t*Zf a t+Zf v' t*Zf b t)/\(∀t:Rat,(β:Rat)*Zf y t=Zf u t*Zf a t+Zf v t*Zf b t)/\
  (∀t:Rat,Zf u' t*Zf v t-Zf u t*Zf v' t=(γ:Rat))/\(tzl v).length<=a.length-x.length+1/\(tzl v').length<=a.length-x.length+1
 xl:x.length<=b.length
 yl:y.length<x.length
theorem Yba{L:Int}(g:Tr y)(e:y≠[])(j:z.length<=x.length)(h:∀t:Rat,(L:Rat)*Zf x t=Zf q t*Zf y t+(c:Rat)*Zf z t):tzl q=[]\/(tzl q).length+y.length<=x.length+1:=
 Zgl (Mu (x.map λa=>L*a) (z.map λa=>(-c)*a)) _ _ x.length (λt=>by rw [Xp,Zo,Zo];have:=h t;push_cast;grind) g e λi hi=>by rw [Mv,Qq,Qq,Yf hi,Yf (p:=z) O];omega
theorem Zan{n:Nat}(h:(tzl p).length<=m)(j:(tzl q).length<=n)(i:Nat)(hi:m+n<=i+1):cf (lmul p q) i=0:=by have g:cf (lmul p q) i=cf (lmul (tzl p) (tzl q)) i:=Nq (λx=>by rw [Yc,Yc,Ms,Ms]) i;rw [g,Di];have e:=Zes (U:=tzl p) (a:=tzl q) (p:=m) (t:=i) h O;rw [PS.mul_c]at e;exact e
def Zp5{n:Nat}(h:∀i,n<=i->cf p i=0):(tzl p).length<=n:=Zbz h
theorem Ydj{n:Nat}(h:(tzl p).length<=n)(hi:n<=i):cf p i=0:=by rw [<-Lc];exact Yf O
theorem Inv.next{z':List Int}{L:Int}(V:Inv a b x y)(Y:b.length<=a.length)(hx:Tr x)(hy:Tr y)(S:y≠[])(W:L≠0)(h:∀t:Rat,(L:Rat)*Zf x t=Zf q t*Zf y t+Zf z' t)(hz:Sim z' z)(k:z.length<y.length):Inv a b y z:=by
 obtain⟨⟨α,β,γ,u',H,u,v,hα,l,hγ,P,w,R,l1,l2⟩,xl,yl⟩:=V;obtain⟨m,n,Z,hn,hs⟩:=hz;have j:∀t:Rat,(m:Rat)*Zf z' t=(n:Rat)*Zf z t:=λt=>by
  have:=Oy t (z'.map λa=>m*a) (z.map λa=>n*a) λi=>by rw [Qq,Qq,hs]
  rwa [Zo,Zo]at this
 have D:∀t:Rat,((L*m:Int):Rat)*Zf x t=Zf (q.map λa=>m*a) t*Zf y t+(n:Rat)*Zf z t:=λt=>by rw [Zo];push_cast;have:=h t;have:=j t;grind
 have e:=Yba hy S O D;have g:(tzl (q.map λa=>m*a)).length<=x.length-y.length+1:=by
  rcases e with G|G
  .rw [G];simp
  .omega
 generalize hQ:(q.map λa=>m*a)=Q at *;have o:∀t:Rat,((n*(α*β):Int):Rat)*Zf z t=Zf (Mu (u'.map λc=>(L*m*β)*c) ((lmul Q u).map λc=>(-α)*c)) t*Zf a t+Zf (Mu (H.map λc=>(L*m*β)*c) ((lmul Q v).map λc=>(-α)*c)) t*Zf b t:=λt=>by rw [Xp,Xp,Zo,Zo,Zo,Zo,Yc,Yc];have I:=D t;have M:=P t;have N:=w t;push_cast at I ⊢;have:(n:Rat)*(α*β)*Zf z t=α*β*(n*Zf z t):=O4;rw [this,show(n:Rat)*Zf z t=L*m*Zf x t-Zf Q t*Zf y t by grind];have:(α:Rat)*β*(L*m*Zf x t-Zf Q t*Zf y t)=L*m*β*(α*Zf x t)-α*Zf Q t*(β*Zf y t):=O4;rw [this,M,N];grind
 refine⟨⟨β,n*(α*β),-(L*m*β*γ),u,v,_,_,l,bJ hn (bJ hα l),?_,w,o,λt=>?_,?_,?_⟩,O,k⟩
 .have:=bJ (bJ (bJ W Z) l) hγ;omega
 .rw [Xp,Xp,Zo,Zo,Zo,Zo,Yc,Yc];have:=R t;push_cast;grind
 .refine Zp5 λi hi=>?_;rw [Mv,Qq,Qq,Ydj (p:=H) l2 O,Zan g l1 i O];omega
 .omega
theorem Inv.first{z':List Int}{L:Int}(G:b.length<=a.length)(R:Tr a)(H:Tr b)(w:b≠[])(D:L≠0)(h:∀t:Rat,(L:Rat)*Zf a t=Zf q t*Zf b t+Zf z' t)(N:Sim z' z)(k:z.length<b.length):Inv a b b z:=by
 obtain⟨m,n,I,M,hs⟩:=N;have j:∀t:Rat,(m:Rat)*Zf z' t=(n:Rat)*Zf z t:=λt=>by
  have:=Oy t (z'.map λa=>m*a) (z.map λa=>n*a) λi=>by rw [Qq,Qq,hs]
  rwa [Zo,Zo]at this
 have l:∀t:Rat,((L*m:Int):Rat)*Zf a t=Zf (q.map λa=>m*a) t*Zf b t+(n:Rat)*Zf z t:=λt=>by rw [Zo];push_cast;have:=h t;have:=j t;grind
 have e:=Yba H w O l;have g:(tzl (q.map λa=>m*a)).length<=a.length-b.length+1:=by
  rcases e with o|o
  .rw [o];simp
  .omega
 generalize P:(q.map λa=>m*a)=Q at *;refine⟨⟨1,n,-(L*m),[],[1],[L*m],Q.map λc=>(-1)*c,O3,M,?_,λt=>?_,λt=>?_,λt=>?_,?_,?_⟩,aI _,k⟩
 .have:=bJ D I;omega
 .rw [Py];show _=(0:Rat)*_+_;grind
 .rw [Py,Zo];have:=l t;push_cast at this ⊢;grind
 .rw [Py,Py];show(0:Rat)*_-_=_;push_cast;grind
 .refine Zp5 λi hi=>?_;rw [Qq,Ydj g O];omega
 .refine aB (Mj _) ?_;simp
def Zh5{n:Nat}(h:Sz n a)(i:Nat):(cf a i).natAbs<=2^n:=eE ((Qo n _).1 (h i))
theorem Zag(h:tzl p=[])(x:Rat):Zf p x=0:=by rw [<-Ms,h];rfl
def tzl_ne(h:cf p i≠0):tzl p≠[]:=λe=>h ((Ko p).1 e i)
def nn_eq{x a b:Nat}(e:x<=b)(g:b<=a):b-x+1+(a-x+1)=a+b-2*x+2:=O
theorem Inv.bound{n s:Nat}(hI:Inv a b x y)(a6:b.length<=a.length)(ha:Tr a)(hx:Tr x)(hy:Tr y)(h0:y≠[])(hp:Ys y=1)(na:Sz n a)(nb:Sz n b)(hs:a.length+b.length-2*x.length+2<=2^s) :
  Xx y<=(s+1+n)*(a.length+b.length-2*x.length+2):=by
 obtain⟨⟨α,β,γ,u',P,u,v,hα,hβ,hγ,e1,Q,e3,l1,l2⟩,xl,yl⟩:=hI;have b3:=aF.2 h0;have b2:x≠[]:=λe=>by rw [e]at yl;simp at yl
 have M:a≠[]:=λe=>by
  have g:a.length=0:=by rw [e];rfl
  omega
 obtain⟨U,V,lU,lV,a9,bU,bV,hz⟩:=Zjb a b (x.length-1) (p:=b.length-x.length+1) (q:=a.length-x.length+1) (A:=2^n) (cH O3) (Zh5 na) (Zh5 nb) O O O;have hv:a.length+1<=(tzl v).length+x.length:=by
  refine bQ λg=>?_;have a8:∀i,cf (Mu (a.map λc=>γ*c) ((lmul y P).map λc=>β*c)) i=cf (lmul (tzl v) (x.map λc=>α*c)) i:=λi=>Nq (λt=>by
   rw [Xp,Zo,Zo,Yc,Yc,Zo,Ms];have Z:=e1 t;have H:=Q t;have a3:=e3 t;have:Zf v t*(α*Zf x t)=(Zf u' t*Zf v t-Zf u t*Zf P t)*Zf a t+(Zf u t*Zf a t+Zf v t*Zf b t)*Zf P t:=by rw [Z];grind
   rw [this,a3,<-H];grind) i
  have l:=a8 (a.length-1);rw [Mv,Qq,Qq,Zan (m:=y.length) (n:=a.length-x.length+1) (Mj _) l2 _ O,Di]at l;have S:=Zes (U:=tzl v) (a:=x.map λc=>α*c) (p:=(tzl v).length) (t:=a.length-1) (aI _) (by rw [aP];omega);rw [PS.mul_c]at S;have h3:Ye (λk=>cf (tzl v) k*cf (x.map λc=>α*c) (a.length-1-k)) (a.length-1+1)=0:=S;rw [h3]at l;have:=bJ hγ (ha.mem M);omega
 have h:tzl v≠[]:=λe=>by rw [e]at hv;simp at hv;omega
 have cR:∀i,cf (Mu (lmul U a) (lmul V b)) i=(ps U*ps a).c i+(ps V*ps b).c i:=λi=>by rw [Mv,Di,Di,PS.mul_c,PS.mul_c];rfl
 generalize hR:Mu (lmul U a) (lmul V b)=R at cR;have rR:∀t,Zf R t=Zf U t*Zf a t+Zf V t*Zf b t:=λt=>by rw [<-hR,Xp,Yc,Yc]
 have lR:(tzl R).length<=x.length-1:=Zp5 λi hi=>by rw [cR];exact hz i hi
 have hf:tzl (Mu (lmul U v) ((lmul u V).map λc=>(-1)*c))=[]:=by
  rcases Zgl (Mu (lmul R v) ((lmul y V).map λc=>(-β)*c)) (Mu (lmul U v) ((lmul u V).map λc=>(-1)*c)) a (a.length-1) (λt=>by
   rw [Xp,Zo,Yc,Yc,Xp,Zo,Yc,Yc,rR];have H:=Q t;push_cast;have:(-(β:Rat))*(Zf y t*Zf V t)=- (β*Zf y t)*Zf V t:=O4;rw [this,H];grind) ha M (λi hi=>by
   rw [Mv,Qq,Zan lR l1 i O,Zan (m:=y.length) (n:=a.length-x.length+1) (Mj _) (aB (Mj _) (oJ lV)) i O];omega)with g|g
  .exact g
  .refine bQ λh8=>?_;have:=aF.2 h8;omega
 have G:∀t,Zf U t*Zf v t=Zf u t*Zf V t:=λt=>by have:=Zag hf t;rw [Xp,Zo,Yc,Yc]at this;push_cast at this;grind
 have a4:∀t,Zf R t*Zf v t=β*Zf y t*Zf V t:=λt=>by rw [rR,Q t];have:=G t;grind
 have Y:∀t,(γ:Rat)*Zf V t=Zf v t*Zf (Mu (lmul u' V) ((lmul P U).map λc=>(-1)*c)) t:=λt=>by rw [Xp,Zo,Yc,Yc,<-e3 t];have:=G t;push_cast;grind
 generalize Mu (lmul u' V) ((lmul P U).map λc=>(-1)*c)=w at Y;have hV:tzl V≠[]:=λe=>by
  rcases a9 with⟨i,hi⟩|⟨i,hi⟩
  .refine hi (Nq (p:=U) (q:=[]) (λt=>?_) i▸Zcj i);exact Ey v (f:=U) h (λt=>by have:=G t;rw [Zag e]at this;grind) t
  .exact tzl_ne hi e
 have b1:∃c:Int,c≠0/\∀t,Zf w t=(c:Rat):=by
  have j:tzl w≠[]:=λe=>hV ((Ko V).2 λi=>by have:=Nq (p:=V.map λc=>γ*c) (q:=[]) (λt=>by rw [Zo,Y t,Zag e];show _=(0:Rat);grind) i;rw [Qq,Zcj]at this;exact(eR.1 this).resolve_left hγ)
  rcases Zgl (V.map λc=>γ*c) w (tzl v) (a.length-x.length+1) (λt=>by rw [Zo,Ms,Y t];grind) (Qi v) h (λi hi=>by rw [Qq,Yf O];omega)with g|g
  .exact absurd g j
  .have h8:=aF.2 j;have h7:(tzl w).length=1:=O
   match W:tzl w,h7 with
   | [c],_=>
    refine⟨c,?_,λt=>by rw [<-Ms,W,Py]⟩;have:=(Qi w).mem j;rw [W]at this;exact this
 obtain⟨c,a7,W⟩:=b1;have o:Sim R y:=by
  refine⟨γ,β*c,hγ,bJ hβ a7,λi=>?_⟩;have:=Nq (p:=R.map λd=>γ*d) (q:=y.map λd=>(β*c)*d) (λt=>by
   rw [Zo,Zo];push_cast;have l:Zf (Mu (R.map λd=>γ*d) (y.map λd=>(-(β*c))*d)) t=0:=Ey v h (λt=>by rw [Xp,Zo,Zo];push_cast;have Z:=a4 t;have H:=Y t;rw [W]at H;have:Zf v t*(γ*Zf R t + -(β*c:Rat)*Zf y t)=γ*(Zf R t*Zf v t)-β*Zf y t*(Zf v t*c):=O4;rw [this,Z,<-H];grind) t
   rw [Xp,Zo,Zo]at l;push_cast at l;grind) i
  rwa [Qq,Qq]at this
 have b0:Sz ((s+1+n)*(a.length+b.length-2*x.length+2)) R:=λi=>by
  rw [cR];have c1:=Yc5 i lU bU (Zh5 na);have c2:=Yc5 i lV bV (Zh5 nb);have a0:b.length-x.length+1+(a.length-x.length+1)=a.length+b.length-2*x.length+2:=nn_eq xl a6;rw [<-a0]at hs ⊢;generalize hN:b.length-x.length+1+(a.length-x.length+1)=N at *;generalize I:(2*N*2^n)^(N-1)=X at *;have c3:((ps U*ps a).c i+(ps V*ps b).c i).natAbs<=N*(X*2^n):=by rw [<-hN,bG];have:=mA ((ps U*ps a).c i) ((ps V*ps b).c i);omega
  refine(Qo _ _).2 (bA c3 ?_);have a5:0<X:=by rw [<-I];exact cH (gI O (cH O3))
  have c4:N*(X*2^n)<(2*N*2^n)^N:=by
   have e:(2*N*2^n)^N=X*(2*N*2^n):=by rw [<-I,<-bX,Nat.succ_eq_add_one,show N-1+1=N by omega]
   rw [e];have:0<N*(X*2^n):=gI O (gI a5 (cH O3));have Q:X*(2*N*2^n)=2*(N*(X*2^n)):=O4;omega
  have c5:2*N*2^n<=2^(s+1+n):=by rw [bW,bX];exact aJ _ O
  have c6:=fV c5 N;rw [<-kF]at c6;exact dG c4 c6
 have l:tzl R≠[]:=λe=>by obtain⟨m,k,hm,hk,e9⟩:=o;have:=e9 (y.length-1);rw [(Ko R).1 e,dU]at this;exact bJ hk (hy.mem h0) this.symm
 have D:Sim (tzl R) y:=by obtain⟨m,k,hm,hk,e9⟩:=o;exact⟨m,k,hm,hk,λi=>by rw [Lc];exact e9 i⟩
 have S:=(Ql (Qi R)).trans D;have h3:∀i,(cf y i).natAbs=(cf (Zw (tzl R)) i).natAbs:=λi=>by
  rcases Zln (Yv (Qi R)) hy (λe=>l (aC (by rw [<-Zy,e];rfl))) (Ks (Qi R) l) hp S with g|g
  .rw [g]
  .rw [g i,eC]
 exact Qu λi=>by rw [h3];exact Hz b0.tzl i
def Zvf(g e K:Nat):Prop:=∀l,l<=e->(l+1)*(K*(g+e-2*l+2)+1)<=65536
def Zw5{e g l:Nat}(h:l<=m):K*(e+g-2*m+2)<=K*(e+g-2*l+2):=bB _ O
theorem Zhi{C:Nat}(e:y≠[])(l:y.length<x.length)(g:Xx x<=C)(j:Xx y<=C)(h:(x.length+1)*(C+1)<=65536):Bs x y=0:=by have n:=aF.2 e;unfold Bs;rw [aD O,aD O];have k:(x.length-y.length+1)*(Xx y+1)<=x.length*(C+1):=aU O O;rw [bG,lZ]at h;rw [aD O]
theorem Yfo(n:Inv a b x y)(g:b.length<=a.length)(j:Tr x)(l:Tr y)(e:y≠[]):Inv a b y (Zw (Qc x y)):=by
 obtain⟨k,s,hs⟩:=Cu x e;have h:=Nu (l.mem e) k;generalize cf y (y.length-1)^k=L at hs h;have o:∀t:Rat,(L:Rat)*Zf x t=Zf s t*Zf y t+Zf (Qc x y) t:=λt=>by have:=Ci L (-1) x s y (Qc x y) (λt=>by rw [hs t];omega) t;push_cast at this;grind
 exact n.next g j l e h o (Ql (Kq _ j)).symm (by rw [Zy];exact Pe x e)
theorem Zgp(h:Tr p):Zw p=[]\/Ys (Zw p)=1:=by
 by_cases e:p=[]
 .left;rw [e];rfl
 .right;exact Ks h e
theorem Bo(g:Tr x)(e:y≠[]):(Ma x y).length<y.length:=by rw [Bn _ g];exact Pe x e
theorem Yfn(n:Inv a b x y)(l:b.length<=a.length)(h:Tr x)(j:Tr y)(e:y≠[]):Inv a b y (Ma x y)/\(Ma x y=[]\/Ys (Ma x y)=1):=by
 have G:=aF.2 e;have D:=n.yl;obtain⟨r1,r2,k,u,w⟩:=Zb5 j e x.length x h O;have hs:=Zd4 x.length h j e O O;have g:Tr (Zfk (Gu x.length x y)):=Qk;have o:Fp y^k≠0:=Nu (by have:=Zgk j e;omega) _;constructor
 .refine n.next (z':=Gu x.length x y) (q:=u) l h j e o (λt=>?_) ?_ (Bo h e)
  .have:=Ci (Fp y^k) (-1) x u y (Gu x.length x y) (λt=>by rw [w t];omega) t;push_cast at this ⊢;grind
  .rw [<-hs];exact Sim.trans ⟨1,-1,O3,O3,λi=>by rw [Cl];omega⟩ (Ql g).symm
 .rw [<-hs];exact Zgp g
theorem Ycm{a b:List Int}{n s K:Nat}(h:b.length<=a.length)(I:Tr a)(Q:Sz n a)(R:Sz n b)(hs:a.length+b.length<=2^s)(G:s+1+n<=K)(H:Zvf a.length b.length K) :
  ∀(f:Nat) (x y:List Int),Inv a b x y->Tr x->Tr y->(y=[]\/Ys y=1)->Xx x<=K*(a.length+b.length-2*x.length+2)->y.length<=f->eok f x y/\Xx (eu f x y)<=K*(a.length+b.length)
 | 0,x,y,g,o,w,M,l,W=>by have k:=g.yl;refine⟨aC O,aB l (bB _ (by have:=g.xl;omega))⟩
 | f+1,x,y,g,o,w,M,l,W=>by
  have D:=g.yl;have k:=g.xl;by_cases e:y=[]
  .subst e;refine⟨.inl rfl,?_⟩;rw [Cc];exact aB l (bB _ O)
  .have Y:=aF.2 e;have S:=g.bound h I o w e (M.resolve_left e) Q R (s:=s) O;have j:Xx y<=K*(a.length+b.length-2*x.length+2):=aB S (aJ _ G);have V:=Zhi e D l j (H x.length k);have N:=Kq y o;have P:=Ycm h I Q R hs G H f y (Zw (Qc x y)) (Yfo g h o w e) w (Yv N) (Zgp N) (aB j (Zw5 O)) (by rw [Zy];have:=Pe x e;omega);refine⟨.inr ⟨V,P.1⟩,?_⟩;rw [show eu (f+1) x y=eu f y (Zw (Qc x y)) by
     conv=>lhs;unfold eu
     rw [aD e]]
   exact P.2
theorem Yc7{a b:List Int}{n s K:Nat}(j:b.length<=a.length)(M:Tr a)(Q:Sz n a)(R:Sz n b)(hs:a.length+b.length<=2^s)(H:s+1+n<=K)(I:Zvf a.length b.length K) :
  ∀(f:Nat) (x y:List Int),Inv a b x y->Tr x->Tr y->(y=[]\/Ys y=1)->Xx x<=K*(a.length+b.length-2*x.length+2)->y.length<=f->cok f x y/\∀p∈Mc f x y,Xx p<=K*(a.length+b.length)/\p.length<=a.length
 | 0,x,y,h,o,D,e,l,W=>by
  have w:=h.yl;have N:=h.xl;have g:y=[]:=aC O;refine⟨g,λp e=>?_⟩;have:p=x:=by unfold Mc at e;simpa using e
  rw [this];exact⟨aB l (bB _ O),O⟩
 | f+1,x,y,h,o,D,e,l,W=>by
  have G:=h.yl;have w:=h.xl;by_cases g:y=[]
  .subst g;refine⟨.inl rfl,λp e=>?_⟩;rw [Du]at e;have:p=x:=by simpa using e
   rw [this];exact⟨aB l (bB _ O),O⟩
  .have l0:=aF.2 g;have S:=h.bound j M o D g (e.resolve_left g) Q R (s:=s) O;have k:Xx y<=K*(a.length+b.length-2*x.length+2):=aB S (aJ _ H);have V:=Zhi g G l k (I x.length w);obtain⟨Y,Z⟩:=Yfn h j o D g;have P:=Yc7 j M Q R hs H I f y (Ma x y) Y D (Zcv o) Z (aB k (Zw5 O)) (by have:=Bo o g;omega);refine⟨.inr ⟨V,O,P.1⟩,λp e=>?_⟩;unfold Mc at e;rw [aD g]at e;rcases bE.1 e with rfl|e
   .exact⟨aB l (bB _ O),O⟩
   .exact P.2 p e
theorem Ycn (n:Nat)(s:Nat)(K:Nat)(j:b.length<a.length)(h:Tr a)(l:Tr b)(H:Sz n a)(I:Sz n b)(hs:a.length+b.length<=2^s)(N:s+1+n<=K)(Q:Zvf a.length b.length K)(R:(a.length+1)*(n+1)<=65536)(Y:b.length<=f) :
  eok f a b/\Xx (eu f a b)<=K*(a.length+b.length):=by
 have V:=Qu H;have W:=Qu I;have la:0<a.length:=O;have P:n<=K*(a.length+b.length):=aB (by omega:n<=K*1) (bB _ O);by_cases e:b=[]
 .subst e;cases f with
  | zero=>exact⟨rfl,by rw [Cc];omega⟩
  | succ f=>exact⟨.inl rfl,by rw [Cc];omega⟩
 .have Z:=aF.2 e;obtain⟨g,rfl⟩:∃g,f=g+1:=⟨f-1,O⟩;have o:=Kq b h;obtain⟨k,q,D⟩:=Cu a e;have w:=Nu (l.mem e) k;generalize cf b (b.length-1)^k=L at D w;have S:∀t:Rat,(L:Rat)*Zf a t=Zf q t*Zf b t+Zf (Qc a b) t:=λt=>by have:=Ci L (-1) a q b (Qc a b) (λt=>by rw [D t];omega) t;push_cast at this;grind
  have M:Inv a b b (Zw (Qc a b)):=Inv.first O h l e w S (Ql o).symm (by rw [Zy];exact Pe a e);have G:=Ycm O h H I hs N Q g b (Zw (Qc a b)) M l (Yv o) (Zgp o) (aB (by omega:Xx b<=K*1) (bB _ O)) (by rw [Zy];have:=Pe a e;omega);refine⟨.inr ⟨Zhi e j V W R,G.1⟩,?_⟩;rw [show eu (g+1) a b=eu g b (Zw (Qc a b)) by
    conv=>lhs;unfold eu
    rw [aD e]]
  exact G.2
theorem Yrx{n s:Nat}(H:b.length<a.length)(l:Tr a)(o:Tr b)(M:Sz n a)(N:Sz n b)(hs:a.length+b.length<=2^s)(Q:s+1+n<=K)(S:Zvf a.length b.length K)(V:(a.length+1)*(n+1)<=65536)(hf:b.length<=f) :
  cok f a b/\∀p∈Mc f a b,Xx p<=K*(a.length+b.length)/\p.length<=a.length:=by
 have Y:=Qu M;have Z:=Qu N;have la:0<a.length:=O;have R:n<=K*(a.length+b.length):=aB (by omega:n<=K*1) (bB _ O);by_cases e:b=[]
 .subst e;have j:∀p∈Mc f a [],Xx p<=K*(a.length+([]:List Int).length)/\p.length<=a.length:=λp h=>by
   rw [Du]at h;have:p=a:=by simpa using h
   rw [this];exact⟨O,aI _⟩
  cases f with
  | zero=>exact⟨rfl,j⟩
  | succ f=>exact⟨.inl rfl,j⟩
 .have l0:=aF.2 e;obtain⟨g,rfl⟩:∃g,f=g+1:=⟨f-1,O⟩;obtain⟨r1,r2,k,u,W⟩:=Zb5 o e a.length a l O;have w:=Zd4 a.length l o e O O;have D:Tr (Zfk (Gu a.length a b)):=Qk;have G:Fp b^k≠0:=Nu (by have:=Zgk o e;omega) _;have P:Inv a b b (Ma a b):=by
   refine Inv.first (z':=Gu a.length a b) (q:=u) O l o e G (λt=>?_) ?_ (Bo l e)
   .have:=Ci (Fp b^k) (-1) a u b (Gu a.length a b) (λt=>by rw [W t];omega) t;push_cast at this ⊢;grind
   .rw [<-w];exact Sim.trans ⟨1,-1,O3,O3,λi=>by rw [Cl];omega⟩ (Ql D).symm
  have h:Ma a b=[]\/Ys (Ma a b)=1:=by rw [<-w];exact Zgp D
  have I:=Yc7 O l M N hs Q S g b (Ma a b) P o (Zcv l) h (aB (by omega:Xx b<=K*1) (bB _ O)) (by have:=Bo l e;omega);refine⟨.inr ⟨Zhi e H Y Z V,O,I.1⟩,λp h=>?_⟩;unfold Mc at h;rw [aD e]at h;rcases bE.1 h with rfl|h
  .exact⟨O,aI _⟩
  .exact I.2 p h
def al:List Int->List Int->List Int
 | [],g=>g
 | a::f,[]=>a::f
 | a::f,b::g=>(a+b)::al f g
def scl(c:Int)(f:List Int):List Int:=f.map (c*·)
def ddl(k:Nat):List Int->List Int
 | []=>[]
 | b::g=>(k:Int)*b::ddl (k+1) g
def dl(f:List Int):List Int:=ddl 1 f.tail
def xl:List Int->List Int
 | []=>[]
 | a::f=>0::a::f
def fc:Nat->Int
 | 0=>1
 | k+1=>((k:Int)+1)*fc k
def Gk:Nat->List Int->List Int->Int
 | k,a::f,b::g=>fc k*(a*b)+Gk (k+1) f g
 | _,_,_=>0
theorem Zm4(k:Nat)(f:List Int):Gk k f []=0:=by cases f<;>rfl
theorem Ynq(f:List Int):al f []=f:=by cases f<;>rfl
theorem Yd0:∀f g:List Int,al f g=al g f
 | [],g=>(Ynq g).symm
 | a::f,[]=>rfl
 | a::f,b::g=>by show(a+b)::al f g=(b+a)::al g f;rw [Yd0 f g,jS]
theorem Zxb:∀f g h:List Int,al (al f g) h=al f (al g h)
 | [],g,h=>rfl
 | a::f,[],h=>rfl
 | a::f,b::g,[]=>rfl
 | a::f,b::g,c::h=>by show(a+b+c)::al (al f g) h=(a+(b+c))::al f (al g h);rw [Zxb f g h,Int.add_assoc]
instance:Std.Commutative al:=⟨Yd0⟩
instance:Std.Associative al:=⟨Zxb⟩
theorem Yh9(c:Int):∀f g,scl c (al f g)=al (scl c f) (scl c g)
 | [],g=>rfl
 | a::f,[]=>rfl
 | a::f,b::g=>by show c*(a+b)::scl c (al f g)=(c*a+c*b)::al (scl c f) (scl c g);rw [Yh9 c f g,kS]
theorem Yap(c d:Int):∀f,scl (c+d) f=al (scl c f) (scl d f)
 | []=>rfl
 | a::f=>by show(c+d)*a::scl (c+d) f=(c*a+d*a)::al (scl c f) (scl d f);rw [Yap c d f,mB]
theorem Zkd:∀f,scl 1 f=f
 | []=>rfl
 | a::f=>by show 1*a::scl 1 f=a::f;rw [Zkd f,eX]
theorem Yl9:∀k f g,ddl k (al f g)=al (ddl k f) (ddl k g)
 | k,[],g=>rfl
 | k,a::f,[]=>rfl
 | k,a::f,b::g=>by show(k:Int)*(a+b)::ddl (k+1) (al f g)=((k:Int)*a+(k:Int)*b)::al (ddl (k+1) f) (ddl (k+1) g);rw [Yl9 (k+1) f g,kS]
theorem Ycw(c:Int):∀k f,ddl k (scl c f)=scl c (ddl k f)
 | k,[]=>rfl
 | k,a::f=>by show(k:Int)*(c*a)::ddl (k+1) (scl c f)=c*((k:Int)*a)::scl c (ddl (k+1) f);rw [Ycw c (k+1) f,mE]
theorem Zwn:∀k f,ddl (k+1) f=al f (ddl k f)
 | k,[]=>rfl
 | k,a::f=>by show((k+1:Nat):Int)*a::ddl (k+1+1) f=(a+(k:Int)*a)::al f (ddl (k+1) f);rw [Zwn (k+1) f];congr 1;push_cast;grind
def dl_al:∀f g,dl (al f g)=al (dl f) (dl g)
 | [],g=>rfl
 | a::f,[]=>(Ynq _).symm
 | a::f,b::g=>Yl9 1 f g
def dl_scl(c:Int):∀f,dl (scl c f)=scl c (dl f)
 | []=>rfl
 | a::f=>Ycw c 1 f
theorem dl_x:∀f,dl (xl f)=al f (xl (dl f))
 | []=>rfl
 | [a]=>by show(((1:Nat):Int)*a::[])=[a];rw [show((1:Nat):Int)=1 from rfl,eX]
 | a::b::f=>by show((1:Nat):Int)*a::ddl (1+1) (b::f)=(a+0)::al (b::f) (ddl 1 (b::f));rw [Zwn 1 (b::f),show((1:Nat):Int)=1 from rfl,eX,fK]
def xl_al:∀f g,xl (al f g)=al (xl f) (xl g)
 | [],g=>rfl
 | a::f,[]=>rfl
 | a::f,b::g=>rfl
theorem xl_scl(c:Int):∀f,xl (scl c f)=scl c (xl f)
 | []=>rfl
 | a::f=>by show 0::c*a::scl c f=c*0::c*a::scl c f;rw [dU]
theorem Db:∀k f g,Gk k f g=Gk k g f
 | k,[],g=>(Zm4 k g).symm
 | k,a::f,[]=>rfl
 | k,a::f,b::g=>by show fc k*(a*b)+Gk (k+1) f g=fc k*(b*a)+Gk (k+1) g f;rw [Db (k+1) f g,cQ a b]
theorem Zm7:∀k f g h,Gk k (al f g) h=Gk k f h+Gk k g h
 | k,[],g,h=>by show Gk k g h=0+Gk k g h;rw [kH]
 | k,a::f,[],h=>(fK _).symm
 | k,a::f,b::g,[]=>rfl
 | k,a::f,b::g,c::h=>by show fc k*((a+b)*c)+Gk (k+1) (al f g) h=fc k*(a*c)+Gk (k+1) f h+(fc k*(b*c)+Gk (k+1) g h);rw [Zm7 (k+1) f g h];grind
theorem Zm6(k:Nat)(h f g:List Int):Gk k h (al f g)=Gk k h f+Gk k h g:=by rw [Db,Zm7,Db k f,Db k g]
theorem Zg9(c:Int):∀k f g,Gk k (scl c f) g=c*Gk k f g
 | k,[],g=>(dU c).symm
 | k,a::f,[]=>(dU c).symm
 | k,a::f,b::g=>by show fc k*(c*a*b)+Gk (k+1) (scl c f) g=c*(fc k*(a*b)+Gk (k+1) f g);rw [Zg9 c (k+1) f g];grind
theorem Zr3(c:Int)(k:Nat)(f g:List Int):Gk k f (scl c g)=c*Gk k f g:=by rw [Db,Zg9,Db]
theorem Ylj:∀k f g,Gk (k+1) f g=Gk k f (ddl (k+1) g)
 | k,[],g=>rfl
 | k,a::f,[]=>rfl
 | k,a::f,b::g=>by show((k:Int)+1)*fc k*(a*b)+Gk (k+1+1) f g=fc k*(a*(((k+1:Nat):Int)*b))+Gk (k+1) f (ddl (k+1+1) g);rw [Ylj (k+1) f g];push_cast;grind
theorem fip_x:∀f g,Gk 0 (xl f) g=Gk 0 f (dl g)
 | [],g=>rfl
 | a::f,[]=>rfl
 | a::f,b::g=>by show fc 0*(0*b)+Gk 1 (a::f) g=Gk 0 (a::f) (ddl 1 g);rw [cM,dU,kH];exact Ylj 0 (a::f) g
theorem Ylg(f g:List Int):Gk 0 f (xl g)=Gk 0 (dl f) g:=by rw [Db,fip_x,Db]
def Mq:List Int->Nat->List Int->List Int
 | [],_,_=>[]
 | c::q,0,g=>al (scl c g) (xl (Mq q 0 g))
 | c::q,j+1,g=>al (xl (Mq q (j+1) g)) (Mq q j g)
def Hq:List Int->Nat->List Int->List Int
 | [],_,_=>[]
 | c::p,0,f=>al (scl c f) (Hq p 0 (dl f))
 | c::p,k+1,f=>al (Hq p (k+1) (dl f)) (Hq p k f)
theorem Ycu:∀q j g,dl (Mq q j g)=al (Mq q j (dl g)) (scl ((j:Int)+1) (Mq q (j+1) g))
 | [],j,g=>rfl
 | c::q,0,g=>by
  show dl (al (scl c g) (xl (Mq q 0 g)))=al (al (scl c (dl g)) (xl (Mq q 0 (dl g)))) (scl (((0:Nat):Int)+1) (al (xl (Mq q (0+1) g)) (Mq q 0 g)));rw [dl_al,dl_scl,dl_x,Ycu q 0 g,xl_al];rw [show((0:Nat):Int)+1=1 from rfl,Zkd,Zkd]
  ac_rfl
 | c::q,j+1,g=>by
  show dl (al (xl (Mq q (j+1) g)) (Mq q j g))=al (al (xl (Mq q (j+1) (dl g))) (Mq q j (dl g))) (scl (((j+1:Nat):Int)+1) (al (xl (Mq q (j+1+1) g)) (Mq q (j+1) g)));rw [dl_al,dl_x,Ycu q (j+1) g,Ycu q j g,xl_al,xl_scl,Yh9];rw [show scl (((j+1:Nat):Int)+1) (Mq q (j+1) g)=al (scl ((j:Int)+1) (Mq q (j+1) g)) (Mq q (j+1) g) by rw [Yap,Zkd];rfl]
  ac_rfl
theorem Zku:∀q j f g,Gk 0 f (Mq q j g)=Gk 0 (Hq q j f) g
 | [],j,f,g=>Zm4 0 f
 | c::q,0,f,g=>by show Gk 0 f (al (scl c g) (xl (Mq q 0 g)))=Gk 0 (al (scl c f) (Hq q 0 (dl f))) g;rw [Zm6,Zm7,Zr3,Zg9,Ylg,Zku q 0 (dl f) g]
 | c::q,j+1,f,g=>by show Gk 0 f (al (xl (Mq q (j+1) g)) (Mq q j g))=Gk 0 (al (Hq q (j+1) (dl f)) (Hq q j f)) g;rw [Zm6,Zm7,Ylg,Zku q (j+1) (dl f) g,Zku q j f g]
def wfa:Nat->Nat->Int
 | j,0=>1
 | j,k+1=>((j:Int)+1)*wfa (j+1) k
theorem Zp3:∀k j,0<wfa j k
 | 0,j=>by show(0:Int)<1;decide
 | k+1,j=>iI O (Zp3 k (j+1))
theorem Zm5:∀(p q:List Int) (j:Nat) (f g:List Int) (K:Nat),p.length<=K->Gk 0 (Mq p 0 f) (Mq q j g)=Ye (λk=>wfa j k*Gk 0 (Hq q (j+k) f) (Hq p k g)) K
 | [],q,j,f,g,K,_=>by rw [Gl (λk n=>by show wfa j k*Gk 0 (Hq q (j+k) f) []=0;rw [Zm4,dU])];rfl
 | c::p,q,j,f,g,K,hK=>by
  obtain⟨e,rfl⟩:∃e,K=e+1:=⟨K-1,by simp at hK;omega⟩;have o:p.length<=e:=by simpa using hK
  have w:=Zm5 p q j f (dl g) (e+1) O;have D:=Zm5 p q (j+1) f g e o;show Gk 0 (al (scl c f) (xl (Mq p 0 f))) (Mq q j g)=_;rw [Zm7,Zg9,fip_x,Ycu,Zm6,Zr3,w,D,Zku];rw [My,My (λk=>wfa j k*Gk 0 (Hq q (j+k) f) (Hq (c::p) k g))];have h:Gk 0 (Hq q (j+0) f) (Hq (c::p) 0 g)=c*Gk 0 (Hq q j f) g+Gk 0 (Hq q j f) (Hq p 0 (dl g)):=by show Gk 0 (Hq q j f) (al (scl c g) (Hq p 0 (dl g)))=_;rw [Zm6,Zr3]
  have l:Ye (λk=>wfa j (k+1)*Gk 0 (Hq q (j+(k+1)) f) (Hq (c::p) (k+1) g)) e=Ye (λk=>wfa j (k+1)*Gk 0 (Hq q (j+(k+1)) f) (Hq p (k+1) (dl g))) e+((j:Int)+1)*Ye (λk=>wfa (j+1) k*Gk 0 (Hq q (j+1+k) f) (Hq p k g)) e:=by rw [<-Ny,<-Fv];refine Xd λk n=>?_;show _*Gk 0 _ (al (Hq p (k+1) (dl g)) (Hq p k g))=_;rw [Zm6,show j+1+k=j+(k+1) by omega];show((j:Int)+1)*wfa (j+1) k*_=((j:Int)+1)*wfa (j+1) k*_+_;grind
  rw [h,l];show _=(1:Int)*_+_;show _*_+((1:Int)*_+_+_)=_;rw [show j+0=j from rfl];grind
theorem Zp9(a:Int):0<=a*a:=by
 rcases Int.le_total 0 a with h|h
 .exact eU h h
 .have:=eU (show 0<=-a by omega) (show 0<=-a by omega);rwa [Int.neg_mul_neg]at this
theorem Zis:∀k,1<=fc k
 | 0=>by show(1:Int)<=1;decide
 | k+1=>by have h:=Zis k;show 1<=((k:Int)+1)*fc k;have e:=kK (show(1:Int)<=(k:Int)+1 by omega) h O3 O;omega
theorem Ylk(k:Nat)(f:List Int)(b:Int)(g:List Int):Gk k f (b::g)=fc k*(cf f 0*b)+Gk (k+1) f.tail g:=by
 cases f with
 | nil=>show(0:Int)=fc k*(0*b)+Gk (k+1) [] g;rw [cM,dU];rfl
 | cons a f=>rfl
theorem Ym3(f:List Int)(i:Nat):cf f.tail i=cf f (i+1):=by cases f<;>rfl
theorem Zr5:∀k (f e g:List Int),(∀i,cf f i=cf e i)->Gk k f g=Gk k e g
 | k,f,e,[],h=>by rw [Zm4,Zm4]
 | k,f,e,b::g,h=>by rw [Ylk,Ylk,h 0,Zr5 (k+1) f.tail e.tail g λi=>by rw [Ym3,Ym3,h]]
theorem Zr4:∀k f,0<=Gk k f f
 | k,[]=>eY _
 | k,a::f=>by show 0<=fc k*(a*a)+Gk (k+1) f f;have e:=Zr4 (k+1) f;have g:=eU (show 0<=fc k by have:=Zis k;omega) (Zp9 a);omega
theorem Yli:∀k f i,cf f i*cf f i<=Gk k f f
 | k,[],i=>by rw [Yf O7];exact eY _
 | k,a::f,0=>by show a*a<=fc k*(a*a)+Gk (k+1) f f;have e:=Zr4 (k+1) f;have g:=fF (Zis k) (Zp9 a);omega
 | k,a::f,i+1=>by show cf f i*cf f i<=fc k*(a*a)+Gk (k+1) f f;have e:=Yli (k+1) f i;have g:=eU (show 0<=fc k by have:=Zis k;omega) (Zp9 a);omega
def fcs:Nat->Nat->Int
 | k,0=>0
 | k,n+1=>fc k+fcs (k+1) n
theorem Ylo:∀n k,0<=fcs k n
 | 0,k=>eY _
 | n+1,k=>by have h:=Ylo n (k+1);have:=Zis k;show 0<=fc k+fcs (k+1) n;omega
theorem Ylh:∀n k (f:List Int) (A:Int),f.length<=n->(∀x∈f,x*x<=A)->0<=A->Gk k f f<=fcs k n*A
 | n,k,[],A,_,_,e=>eU (Ylo n k) e
 | 0,k,a::f,A,h,_,_=>by simp at h
 | n+1,k,a::f,A,h,hx,e=>by have j:=Ylh n (k+1) f A (by simpa using h) (λx g=>hx x (bH _ g)) e;have l:=iT (hx a (bT ..)) (show 0<=fc k by have:=Zis k;omega);show fc k*(a*a)+Gk (k+1) f f<=(fc k+fcs (k+1) n)*A;rw [mB];omega
theorem Zzx:∀p k f,p.length<=k->Hq p k f=[]
 | [],k,f,_=>by cases k<;>rfl
 | c::p,0,f,h=>by simp at h
 | c::p,k+1,f,h=>by
  show al (Hq p (k+1) (dl f)) (Hq p k f)=[];have e:p.length<=k:=by simpa using h
  rw [Zzx p (k+1) _ O,Zzx p k _ e];rfl
theorem Ynz:∀p k f,p.length=k+1->Hq p k f=scl (cf p k) f
 | [],k,f,h=>by simp at h
 | [c],0,f,h=>Ynq _
 | c::d::p,0,f,h=>by simp at h
 | c::p,k+1,f,h=>by
  have e:p.length=k+1:=by simpa using h
  show al (Hq p (k+1) (dl f)) (Hq p k f)=scl (cf p k) f;rw [Zzx p (k+1) _ O,Ynz p k f e];rfl
theorem Ym8:∀f g i,cf (al f g) i=cf f i+cf g i
 | [],g,i=>by rw [Yf (p:=[]) O7,kH];rfl
 | a::f,[],i=>by rw [Yf (p:=[]) O7,fK];rfl
 | a::f,b::g,0=>rfl
 | a::f,b::g,i+1=>Ym8 f g i
def Ym5(c:Int)(f:List Int)(i:Nat):cf (scl c f) i=c*cf f i:=Zdp (p:=f) (f:=(c*·)) (dU c) i
theorem cf_xl0(f:List Int):cf (xl f) 0=0:=by cases f<;>rfl
theorem cf_xl(f:List Int)(i:Nat):cf (xl f) (i+1)=cf f i:=by cases f<;>rfl
theorem cf_Mq:∀p f i,cf (Mq p 0 f) i=(ps p*ps f).c i
 | [],f,i=>by rw [PS.mul_c,Gl (λk _=>by rw [Ol,Yf O7,cM])];exact Yf (by simp [Mq])
 | c::p,f,0=>by show cf (al (scl c f) (xl (Mq p 0 f))) 0=_;rw [Ym8,Ym5,cf_xl0,PS.mul_c,My,fK];exact(fK _).symm
 | c::p,f,i+1=>by show cf (al (scl c f) (xl (Mq p 0 f))) (i+1)=_;rw [Ym8,Ym5,cf_xl,cf_Mq p f i,PS.mul_c,PS.mul_c,My _ (i+1)];refine aH (c*cf f (i+1)+·) (Xd λk e=>?_);show cf p k*cf f (i-k)=cf p k*cf f (i+1-(k+1));rw [show i+1-(k+1)=i-k by omega]
theorem Yf0{n L e:Nat}(hu:Tr u)(w:Tr v)(hs:Sz n s)(Q:s≠[])(hl:s.length<=L)(he:fcs 0 L<=2^e*2^e)(h:s=Qs u v):Sz (n+e) u:=by
 have D:v≠[]:=λe=>Q (by rw [h,e,Zca]);obtain⟨m,N⟩:∃m,v.length=m+1:=⟨v.length-1,by have:=aF.2 D;omega⟩;have g:cf v m≠0:=by
  rcases w with w|w
  .exact absurd w D
  .rwa [N]at w
 have o:∀i,cf (Mq v 0 u) i=cf s i:=λi=>by rw [cf_Mq,h,Dz,Hs]
 have j:=Zm5 v v 0 u u (m+1) O;rw [Zr5 0 _ s _ o,Db,Zr5 0 _ s _ o,Yk,cC,Ynz v m u N,Zg9,Zr3]at j;have l:∀t,0<=Ye (λk=>wfa 0 k*Gk 0 (Hq v (0+k) u) (Hq v k u)) t:=λt=>by
  induction t with
  | zero=>exact eY _
  | succ t ih=>
   rw [Yk,cC];have:=eU (show 0<=wfa 0 t by have:=Zp3 t 0;omega) (Zr4 0 (Hq v t u));omega
 have hr:=l m;have Z:1<=cf v m*cf v m:=by
  have h1:=Zp9 (cf v m);have h2:cf v m*cf v m≠0:=λe=>by rcases eR.1 e with q|q<;>exact g q
  omega
 have hf:=Zr4 0 u;have h3:Gk 0 u u<=cf v m*(cf v m*Gk 0 u u):=by have:=fF Z hf;rw [eN]at this;omega
 have h4:Gk 0 u u<=wfa 0 m*(cf v m*(cf v m*Gk 0 u u)):=by have:=fF (show 1<=wfa 0 m from Zp3 m 0) (show 0<=cf v m*(cf v m*Gk 0 u u) by omega);omega
 intro i;rw [Qo];have h5:=Yli 0 u i;have V:∀x∈s,x*x<=(2^n-1)*(2^n-1):=λx hx=>by
  have hb:x.natAbs<2^n:=(Qo n _).1 (hs.mem hx);have W:((2^n:Nat):Int)=2^n:=by push_cast;rfl
  have p1:x<=2^n-1:=O;have p2:-(2^n-1)<=x:=O;generalize (2:Int)^n-1=y at *;have:=eU (show 0<=y-x by omega) (show 0<=y+x by omega);grind
 have hp:(1:Int)<=2^n:=by exact_mod_cast cH (n:=n) (show 0<2 by decide)
 have P:(1:Int)<=2^e:=by exact_mod_cast cH (n:=e) (show 0<2 by decide)
 have h6:=Ylh L 0 s _ hl V (eU O O);have h7:cf u i*cf u i<=(2^e*2^e)*((2^n-1)*(2^n-1)):=by have:=fF he (show(0:Int)<=(2^n-1)*(2^n-1)from eU O O);omega
 rcases aZ (cf u i).natAbs (2^(n+e))with I|H
 .exact I
 .exfalso;have M:(2^n*2^e:Int)<=((cf u i).natAbs:Int):=by rw [<-Int.pow_add];exact_mod_cast H
  have S:((cf u i).natAbs:Int)*((cf u i).natAbs:Int)=cf u i*cf u i:=Int.natAbs_mul_self;have G:(2^n*2^e:Int)*(2^n*2^e)<=((cf u i).natAbs:Int)*((cf u i).natAbs:Int):=kK M M (eU O O) O;rw [S]at G;generalize (2:Int)^n=X at *;generalize (2:Int)^e=Y at *;have R:(Y*Y)*((X-1)*(X-1))<(Y*Y)*(X*X):=by have hy:=kK P P O3 O;refine Int.mul_lt_mul_of_pos_left ?_ O;grind
  grind
def kkR(R:Nat):Nat->Nat
 | 0=>0
 | d+1=>2*(R+1)*kkR R d+1
def Ft (L:Nat)(R:Nat){n e:Nat}(o:Tr u)(w:Tr v)(hs:Sz n s)(g:s≠[])(l:Tr s)(k:s.length<=L)(D:2*L<=R+2)(j:fcs 0 L<=2^e*2^e)(h:s=Qs u v):Sz (n+e) u:=Yf0 o w hs g k j h
theorem Yj7{e g:Nat}(k:e<=13)(n:g+1=e)(j:K<=600):Zvf e g K:=λl o=>by have h:∀l,l<=12->(l+1)*(600*(27-2*l)+1)<=65536:=O3;refine aB (bB _ (Nat.succ_le_succ (aU j O))) (h l O)
theorem chH{n:Nat}(F:Nat)(w:Tr xs)(D:xs≠[])(hs:Sz n xs)(hn:n<=350)(hl:xs.length<=13)(hb:(xs.length+2)*(xs.length+2)*(n+13)<=65536)(hF:xs.length<=F+1) :
  Ax F xs/\Sz (n+15) (sqf F xs)/\(sqf F xs).length<=xs.length/\∀p∈chn F xs,Xx p<=(n+26)*25/\p.length<=xs.length:=by
 have e:=Zp8 hs;have a0:=Pr w;have k:Tr (Xa xs):=Na (Yv w);have V:=Gx e O;have Z:=Oc (Xa xs);have l:Tr (Yy (Xa xs)):=Nm k;have m1:=Qu e;have m2:=Qu V;have l0:=aF.2 D;have H:gA (Xa xs) (Yy (Xa xs))=Zw (Xa xs):=aD O;have I:gB (Xa xs) (Yy (Xa xs))=Zw (Yy (Xa xs)):=aD O;have j:eok F (gA (Xa xs) (Yy (Xa xs))) (gB (Xa xs) (Yy (Xa xs))):=by
  rw [H,I];refine(Ycn (n+5) 5 (n+11) (by rw [Zy,Zy];omega) (Yv k) (Yv l) (Hz (e.mono O)) (Hz V) ?_ O ?_ ?_ ?_).1
  .rw [Zy,Zy];omega
  .rw [Zy,Zy];exact Yj7 O O O
  .rw [Zy];exact aB (aU (show(Xa xs).length+1<=14 by omega) (show n+5+1<=400 by omega)) O3
  .rw [Zy];omega
 obtain⟨f1,f2,f3,f4,f5,f6⟩:=Ou F w D j;have G:=Zd1 F k l;have g:=Zik w D;have R:fcs 0 13<=2^15*2^15:=O5;have o:=Ft 13 24 f2 G e g k O O3 R f4;have M:=Ft 13 24 G f2 e g k O O3 R (by rw [Dz];exact f4);have N:=Ov f2 G f3 f5;rw [<-f4]at N;have lg:=aF.2 f5;have lq:=aF.2 f3;have mg:=Qu M;have Q:(sqf F xs).length<=xs.length:=O;have P:=Gx o O;have W:=Oc (sqf F xs);have S:=Yrx (a:=sqf F xs) (b:=Zw (Yy (sqf F xs))) (n:=n+15+5) (s:=5) (K:=n+26) (f:=F) (by rw [Zy];omega) f2 (Yv (Nm f2)) (o.mono O) (Hz P) (by rw [Zy];omega) O (by rw [Zy];exact Yj7 O O O) (aB (aU (show(sqf F xs).length+1<=14 by omega) (show n+15+5+1<=500 by omega)) O3) (by rw [Zy];omega);refine⟨⟨⟨λi _=>aB (Zy5 e O i) O,?_,j,?_,f1⟩,λi _=>aB (Zy5 o O i) O,S.1⟩,o,Q,λp hp=>?_⟩
 .intro h;have h3:(max (Xa xs).length (Yy (Xa xs)).length+2)*(max (Xa xs).length (Yy (Xa xs)).length+2)*(max (Xx (Xa xs)) (Xx (Yy (Xa xs)))+8)<=(xs.length+2)*(xs.length+2)*(n+13):=aU (aU O O) O;have:=h.2.2;omega
 .unfold Bs;rw [aD O];split
  .rfl
  .have:((Xa xs).length-(Nc F (Xa xs) (Yy (Xa xs))).length+1)*(Xx (Nc F (Xa xs) (Yy (Xa xs)))+1)<=14*500:=aU O O;rw [aD O]
 .obtain⟨Y,a2⟩:=S.2 p hp;refine⟨aB Y (bB _ ?_),O⟩;rw [Zy];omega
theorem chG{n:Nat}(F:Nat)(j:Tr xs)(e:xs≠[])(hs:Sz n xs)(h:n<=350)(k:xs.length<=11)(g:xs.length<=F+1) :
  Ax F xs/\Sz (n+15) (sqf F xs)/\(sqf F xs).length<=xs.length/\∀p∈chn F xs,Xx p<=(n+26)*25/\p.length<=xs.length:=
 chH F j e hs h O (aB (aU (aU (show _<=13 by omega) (show _<=13 by omega)) (show _<=363 by omega)) O3) g
theorem Dv.ed{g:List Int}(h:Dv g a):Ed g a:=by obtain⟨k,s,e,h⟩:=h;refine⟨k,s,e,λx=>?_⟩;have:=Ci k 0 a s g [] (λt=>by rw [h t];omega) x;push_cast at this;grind
theorem Znk(o:Tr xs)(j:xs≠[])(k:Ax F xs)(s t:Rat) :
  ∃h:Rat,0<h/\∀u v,s<=u->u<=v->v<=t->v-u<=h->vat ((chn F xs).map Zf) u-vat ((chn F xs).map Zf) v=crs (Zf (sqf F xs)) u v:=by
 have g:=k.1.2.2.1;obtain⟨f1,f2,f3,f4,f5,f6⟩:=Ou F o j g;have e:=Nm f2;by_cases w:Yy (sqf F xs)=[]
 .refine Zll 1 f2 (Yv e) f3 k.2.2 O3 (λx=>?_) λq n a b=>?_
  .rw [<-Ij,w];show(0:Rat)=1*0;grind
  .exact Zf8 o j g n a (b.sim (Ql e))
 .have l:0<Ys (Yy (sqf F xs)):=by have D:=Cw e w;have G:=Nr (Yy (sqf F xs));omega
  refine Zll (Ys (Yy (sqf F xs)):Rat) f2 (Yv e) f3 k.2.2 (by exact_mod_cast l) (λx=>?_) λq n a b=>?_
  .rw [<-Ij,<-Zo];exact Oy x _ _ λi=>by rw [Qq,cQ,Gp]
  .exact Zf8 o j g n a (b.sim (Ql e))
theorem Yqy{g:List Int}(H:∀x:Rat,Zf p x=Zf s x*Zf g x)(hg:Tr g)(g0:g≠[])(Q:Ed g (ld p))(D:Irr q)(S:Ed q p):Ed q s:=by
 refine bQ λG=>?_;have l:=D.1;have o:=D.2.1;have R:¬Ed q (ld q):=λh=>by have h8:Ed q (Yy q):=h.congr λx=>(Ij q x).symm;have hl:=Oc q;have:=(h8.len l (Nm l) (λe=>by rw [e]at hl;simp at hl;omega)).2;omega
 obtain⟨c1,m1,k1,e1⟩:=S;obtain⟨j,m,k2,e2⟩:=Q;have W:∀k,Ed (Fq q k) g:=λk=>by
  induction k with
  | zero=>exact⟨1,g,O3,λx=>by rw [show Fq q 0=[1]from rfl,Py];push_cast;grind⟩
  | succ k ih=>
   cases k with
   | zero=>
    have P:Ed q g:=(Zbi s g m1 _ D k1 (λx=>by rw [<-H x];exact e1 x)).resolve_left G;exact P.congr_l λx=>by rw [Et,show Fq q 0=[1]from rfl,Py];push_cast;grind
   | succ k=>
    obtain⟨c,u,kc,eu⟩:=ih;have hd:∀x:Rat,(c:Rat)*Zf (ld g) x=Zf (ld u) x*Zf (Fq q (k+1)) x+Zf u x*(((k:Rat)+1)*(Zf (Fq q k) x*Zf (ld q) x)):=λx=>by have:=Ct (g.map λa=>c*a) (lmul u (Fq q (k+1))) (λy=>by rw [Zo,Yc];exact eu y) x;rwa [Zah,Bm,Zqu]at this
    have hp:∀x:Rat,Zf (ld p) x=Zf (ld s) x*Zf g x+Zf s x*Zf (ld g) x:=λx=>by have:=Ct p (lmul s g) (λy=>by rw [Yc];exact H y) x;rwa [Bm]at this
    have hz:∀x:Rat,Zf (Mu ((lmul (lmul s u) (ld q)).map λa=>(j*((k:Int)+1))*a) ((lmul (Mu ((lmul s (ld u)).map λa=>j*a) ((lmul (Mu m ((ld s).map λa=>(-j)*a)) u).map λa=>(-1)*a)) q))) x=0:=λx=>by
     refine Ey (Fq q k) (λe=>?_) (λx=>?_) x
     .rw [Ah (Zbc l o k).1]at e;have:=(Zbc l o k).2;rw [e]at this;simp at this
     .rw [Xp,Zo,Yc,Yc,Yc,Xp,Zo,Yc,Zo,Yc,Xp,Zo];have M:=e2 x;have Y:=hp x;have Z:=hd x;have I:=eu x;rw [Et]at Z I;push_cast;have b1:(j:Rat)*Zf s x*(c*Zf (ld g) x)=(Zf m x-j*Zf (ld s) x)*(c*Zf g x):=by
       have:(j:Rat)*Zf s x*(c*Zf (ld g) x)=c*(j*(Zf (ld p) x-Zf (ld s) x*Zf g x)):=by rw [Y];grind
       rw [this];have:(c:Rat)*(j*(Zf (ld p) x-Zf (ld s) x*Zf g x))=c*(j*Zf (ld p) x)-c*j*Zf (ld s) x*Zf g x:=O4;rw [this,M];grind
      rw [Z,I]at b1;grind
    have P:=Zbi (lmul s u) (ld q) (Mu ((lmul (Mu m ((ld s).map λa=>(-j)*a)) u)) ((lmul s (ld u)).map λa=>(-j)*a)) (j*((k:Int)+1)) D (bJ k2 O) (λx=>by have:=hz x;rw [Xp,Zo,Yc,Yc,Yc,Xp,Zo,Yc,Zo,Yc,Xp,Zo]at this;rw [Yc,Xp,Yc,Xp,Zo,Zo,Yc];push_cast at this ⊢;grind)
    have h8:=Zbi s u [] 1 D O3;have h7:Ed q u:=by obtain⟨n,w,V,N⟩:=P.resolve_right R;exact(Zbi s u w n D V (λx=>by have:=N x;rwa [Yc]at this)).resolve_left G
    obtain⟨n,w,V,N⟩:=h7;refine⟨n*c,w,bJ V kc,λx=>?_⟩;have I:=eu x;have a5:=N x;rw [Et q (k+1)];push_cast;have:(n:Rat)*c*Zf g x=n*(c*Zf g x):=O4;rw [this,I];have:(n:Rat)*(Zf u x*Zf (Fq q (k+1)) x)=(n*Zf u x)*Zf (Fq q (k+1)) x:=O4;rw [this,a5];grind
 obtain⟨M,Y⟩:=Zbc l o g.length;have:=((W g.length).len M hg g0).2;omega
theorem Yqp(g:d≠0):Irr [-r,d]:=by have e:Tr [-r,d]:= .inr g;refine⟨e,O7,λq j h=>?_⟩;have:=(h.len j e O7).2;simp at this ⊢;omega
theorem Zkh(r d:Int)(x:Rat):Zf [-r,d] x=(d:Rat)*x-r:=by show((-r:Int):Rat)+x*((d:Rat)+x*0)=_;push_cast;grind
theorem Ypj(G:Tr p)(j:d≠0)(h:Zf p ((r:Rat)/d)=0):Ed [-r,d] p:=by
 have n:(d:Rat)≠0:=by exact_mod_cast j
 have w:Tr [-r,d]:= .inr j;obtain⟨k,s,hs⟩:=Cu p (q:=[-r,d]) O7;have g:=Nu (w.mem O7) k;generalize cf [-r,d] ([-r,d].length-1)^k=L at hs g;have l:∀x,(L:Rat)*Zf p x=Zf s x*Zf [-r,d] x+Zf (Qc p [-r,d]) x:=λx=>by have:=Ci L (-1) p s [-r,d] (Qc p [-r,d]) (λt=>by rw [hs t];omega) x;push_cast at this;grind
 have o:=Pe p (q:=[-r,d]) O7;have D:∀x,Zf (Qc p [-r,d]) x=0:=λx=>by
  have e:=l ((r:Rat)/d);rw [h,Zkh]at e
  match hr:Qc p [-r,d],o with
  | [],_=>rfl
  | [c],_=>
   rw [hr,Py]at e;rw [Py];have:(d:Rat)*(r/d)=r:=O4;rw [this]at e;grind
 exact⟨L,s,g,λx=>by rw [l x,D x];grind⟩
theorem Ed.root(g:d≠0)(h:Ed [-r,d] p):Zf p ((r:Rat)/d)=0:=by
 obtain⟨k,s,l,h⟩:=h;have j:(d:Rat)≠0:=by exact_mod_cast g
 have n:(k:Rat)≠0:=by exact_mod_cast l
 have e:=h ((r:Rat)/d);rw [Zkh]at e;have:(d:Rat)*(r/d)=r:=O4;rw [this]at e;grind
theorem Yhi(j:Tr xs)(l:xs≠[])(g:eok F (gA (Xa xs) (Yy (Xa xs))) (gB (Xa xs) (Yy (Xa xs))))(k:d≠0)(h:Zf xs ((r:Rat)/d)=0):Zf (sqf F xs) ((r:Rat)/d)=0:=by
 obtain⟨f1,f2,f3,f4,f5,f6⟩:=Ou F j l g;have hs:Tr (Xa xs):=Na (Yv j);have e:Tr (Yy (Xa xs)):=Nm hs;have n:Ed [-r,d] (Xa xs):=(Ypj j k h).sim ((Ql j).symm.trans (Hm _).symm);have o:∀x:Rat,Zf (Xa xs) x=Zf (sqf F xs) x*Zf (Nc F (Xa xs) (Yy (Xa xs))) x:=λx=>by
  have:Zf (Xa xs) x=Zf (Qs (sqf F xs) (Nc F (Xa xs) (Yy (Xa xs)))) x:=by rw [<-f4]
  rw [this,Yp]
 have w:Ed (Nc F (Xa xs) (Yy (Xa xs))) (ld (Xa xs)):=((Zed hs e g).2.ed).congr λx=>Ij _ x;exact(Yqy o (Zd1 _ hs e) f5 w (Yqp k) n).root k
def Away(s t:Rat)(f:Rat->Rat):Prop:=∃δ:Rat,0<δ/\∀x,s<=x->x<=t->δ<=f x\/f x<=-δ
theorem Away.mul{s:Rat}{f g h:Rat->Rat}(H:Away s t f)(I:Away s t g)(e:∀x,h x=f x*g x):Away s t h:=by
 obtain⟨a,l,n⟩:=H;obtain⟨b,o,w⟩:=I;refine⟨a*b,bC l o,λx j k=>?_⟩;rw [e x];rcases n x j k with D|D<;>rcases w x j k with G|G
 .left;have:=aL (a:=f x-a) (b:=g x) O4 O4;have:=aL (a:=a) (b:=g x-b) O4 O4;grind
 .right;have:=aL (a:=f x-a) (b:=- g x) O4 O4;have:=aL (a:=a) (b:=- g x-b) O4 O4;grind
 .right;have:=aL (a:=- f x-a) (b:=g x) O4 O4;have:=aL (a:=a) (b:=g x-b) O4 O4;grind
 .left;have:=aL (a:=- f x-a) (b:=- g x) O4 O4;have:=aL (a:=a) (b:=- g x-b) O4 O4;grind
theorem Away.lin{s:Rat}(j:0<d)(h:(r:Rat)<d*s\/(d:Rat)*t<r):Away s t (Zf [-r,d]):=by
 have k:(0:Rat)<(d:Rat):=by exact_mod_cast j
 rcases h with h|h
 .refine⟨d*s-r,O4,λx e g=> .inl ?_⟩;rw [Zkh];have:=aL (a:=(d:Rat)) (b:=x-s) O4 O4;grind
 .refine⟨r-d*t,O4,λx e g=> .inr ?_⟩;rw [Zkh];have:=aL (a:=(d:Rat)) (b:=t-x) O4 O4;grind
theorem Away.sq(s t:Rat):Away s t (Zf [1,0,1]):=⟨1,O3,λx _ _=>by
 left;show(1:Rat)<=((1:Int):Rat)+x*(((0:Int):Rat)+x*(((1:Int):Rat)+x*0));have:0<=x*x:=by
  rcases(show 0<=x\/x<0 by grind)with h|h
  .exact aL h h
  .have:=aL (a:=-x) (b:=-x) O4 O4;grind
 push_cast;grind⟩
theorem Away.one(s t:Rat):Away s t (Zf [1]):=⟨1,O3,λx _ _=>by left;rw [Py];exact gQ⟩
def cntP(P:Int->Prop)[DecidablePred P](m:Int):Nat->Int
 | 0=>0
 | n+1=>cntP P m n+(if P (m+n+1)then 1 else 0)
def eB(K C:Nat):Nat->Nat
 | 0=>0
 | n+1=>C+K*eB K C n
def eL(K C:Nat):Nat->Nat
 | 0=>0
 | n+1=>K*eL K C n+eB K C n
def eM(K C:Nat):Nat->Nat
 | 0=>0
 | n+1=>eL K C n+K*eM K C n
theorem Fh{a b:Nat}(h:a<=b):(a:Rat)<=(b:Rat):=by exact_mod_cast h
theorem Ym6{C:Nat}(h:c.natAbs<=C):-(C:Rat)<=(c:Rat)/\(c:Rat)<=(C:Rat):=by
 have e:((-(C:Int):Int):Rat)<=(c:Rat):=by exact_mod_cast (show -(C:Int)<=c by omega)
 have g:(c:Rat)<=(((C:Nat):Int):Rat):=by exact_mod_cast (show c<=(C:Int) by omega)
 push_cast at e g;constructor<;>grind
def Zsx{C:Nat}(h:∀i,(cf (c::p) i).natAbs<=C):c.natAbs<=C/\∀i,(cf p i).natAbs<=C:=⟨h 0,λi=>h (i+1)⟩
theorem Zqo{K C:Nat} : ∀(n:Nat) (p:List Int),p.length<=n->(∀i,(cf p i).natAbs<=C)->∀x:Rat,-(K:Rat)<=x->x<=(K:Rat)->-(eB K C n:Rat)<=Zf p x/\Zf p x<=(eB K C n:Rat)
 | n,[],_,_,x,_,_=>by have h:(0:Rat)<=(eB K C n:Rat):=Fh (bD _);show -(eB K C n:Rat)<=0/\(0:Rat)<=(eB K C n:Rat);constructor<;>grind
 | 0,c::p,hl,_,_,_,_=>absurd hl O7
 | n+1,c::p,hl,hc,x,h1,h2=>by
  obtain⟨g,j⟩:=Zsx hc;obtain⟨k,l⟩:=Zqo n p (by simpa using hl) j x h1 h2;obtain⟨w,D⟩:=Ym6 g;have o:(0:Rat)<=(K:Rat):=Fh (bD _);obtain⟨f1,f2⟩:=Zcm h1 h2 k l o;have e:((eB K C (n+1):Nat):Rat)=(C:Rat)+(K:Rat)*(eB K C n:Rat):=by show((C+K*eB K C n:Nat):Rat)=_;push_cast;rfl
  rw [e,show Zf (c::p) x=(c:Rat)+x*Zf p x from rfl];constructor<;>grind
theorem Zqn{K C:Nat} : ∀(n:Nat) (p:List Int),p.length<=n->(∀i,(cf p i).natAbs<=C)->Lip (-(K:Rat)) (K:Rat) (eL K C n:Rat) (Zf p)
 | n,[],_,_,x,y,_,k,_=>by have h:(0:Rat)<=(eL K C n:Rat):=Fh (bD _);have:=aL (a:=(eL K C n:Rat)) (b:=y-x) h O4;show(0:Rat)-0<=_/\(0:Rat)-0<=_;constructor<;>grind
 | 0,c::p,hl,_,_,_,_,_,_=>absurd hl O7
 | n+1,c::p,hl,hc,x,y,h1,k,h2=>by
  obtain⟨o,j⟩:=Zsx hc;obtain⟨w,D⟩:=Zqn n p (by simpa using hl) j x y h1 k h2;obtain⟨G,H⟩:=Zqo n p (by simpa using hl) j y O4 h2;have l:(0:Rat)<=(K:Rat):=Fh (bD _);obtain⟨f1,f2⟩:=Zcm (q:=x) (g:=Zf p x-Zf p y) (e:=(eL K C n:Rat)*(y-x)) h1 O4 O4 O4 l;have I:=aL (a:=(eB K C n:Rat)-Zf p y) (b:=y-x) O4 O4;have M:=aL (a:=(eB K C n:Rat)+Zf p y) (b:=y-x) O4 O4;have e:((eL K C (n+1):Nat):Rat)=(K:Rat)*(eL K C n:Rat)+(eB K C n:Rat):=by show((K*eL K C n+eB K C n:Nat):Rat)=_;push_cast;rfl
  rw [e,show Zf (c::p) x=(c:Rat)+x*Zf p x from rfl,show Zf (c::p) y=(c:Rat)+y*Zf p y from rfl];constructor<;>grind
theorem Yil{K C:Nat} : ∀(n:Nat) (p:List Int),p.length<=n->(∀i,(cf p i).natAbs<=C)->Tay (-(K:Rat)) (K:Rat) (eM K C n:Rat) p
 | n,[],_,_,x,y,_,j,_=>by have h:(0:Rat)<=(eM K C n:Rat):=Fh (bD _);have D:=aL (a:=y-x) (b:=y-x) O4 O4;have:=aL h D;show -((eM K C n:Rat)*(y-x)*(y-x))<=(0:Rat)-0-(y-x)*0/\(0:Rat)-0-(y-x)*0<=(eM K C n:Rat)*(y-x)*(y-x);constructor<;>grind
 | 0,c::p,hl,_,_,_,_,_,_=>absurd hl O7
 | n+1,c::p,hl,hc,x,y,hs,j,ht=>by
  obtain⟨H,k⟩:=Zsx hc;obtain⟨o,w⟩:=Yil n p (by simpa using hl) k x y hs j ht;obtain⟨I,M⟩:=Zqn n p (by simpa using hl) k x y hs j ht;have G:(0:Rat)<=(K:Rat):=Fh (bD _);have l:0<=y-x:=O4;obtain⟨f1,f2⟩:=Zcm (q:=x) (Q:=(K:Rat)) (g:=Zf p y-Zf p x-(y-x)*Zf (ld p) x) (e:=(eM K C n:Rat)*(y-x)*(y-x)) hs O4 o w G;have N:=aL (a:=y-x) (b:=(eL K C n:Rat)*(y-x)-(Zf p y-Zf p x)) l O4;have P:=aL (a:=y-x) (b:=(eL K C n:Rat)*(y-x)+(Zf p y-Zf p x)) l O4;have e:((eM K C (n+1):Nat):Rat)=(eL K C n:Rat)+(K:Rat)*(eM K C n:Rat):=by show((eL K C n+K*eM K C n:Nat):Rat)=_;push_cast;rfl
  rw [e,Zgj,show Zf (c::p) y=(c:Rat)+y*Zf p y from rfl,show Zf (c::p) x=(c:Rat)+x*Zf p x from rfl];constructor<;>grind
theorem Zzc{A:Nat}(w:Tr a)(hb:Tr b)(la:2<=a.length)(lb:b.length+1=a.length)(hA:0<A)(na:∀i,(cf a i).natAbs<=A)(nb:∀i,(cf b i).natAbs<=A)(hc:∀q,Tr q->Ed q a->Ed q b->q.length<=1) :
  ∃(U V:List Int) (c:Int),c≠0/\U.length+2=a.length/\V.length+1=a.length/\(∀i,(cf U i).natAbs<=(2*(2*a.length-3)*A)^(2*a.length-4))/\(∀i,(cf V i).natAbs<=(2*(2*a.length-3)*A)^(2*a.length-4))/\
   ∀x,(c:Rat)=Zf U x*Zf a x+Zf V x*Zf b x:=by
 obtain⟨U,V,lU,lV,k,D,G,hz⟩:=Zjb a b 1 (p:=a.length-2) (q:=a.length-1) hA na nb O O O;have l:¬(tzl U=[]/\tzl V=[]):=λ⟨h1,h2⟩=>by
  rcases k with⟨i,hi⟩|⟨i,hi⟩
  .exact hi ((Ko U).1 h1 i)
  .exact hi ((Ko V).1 h2 i)
 clear k;rw [show a.length-2+(a.length-1)=2*a.length-3 by omega]at D G;rw [show 2*a.length-3-1=2*a.length-4 by omega]at D G;have j:a≠[]:=λe=>by rw [e]at la;simp at la
 have S:∀i,cf (Mu (lmul U a) (lmul V b)) i=(ps U*ps a).c i+(ps V*ps b).c i:=λi=>by rw [Mv,Di,Di,PS.mul_c,PS.mul_c];rfl
 have N:∀t,Zf (Mu (lmul U a) (lmul V b)) t=Zf U t*Zf a t+Zf V t*Zf b t:=λt=>by rw [Xp,Yc,Yc]
 generalize Mu (lmul U a) (lmul V b)=R at S N;have Z:∀t,Zf R t=(cf R 0:Rat):=λt=>by
  rw [<-Py (cf R 0) t];refine Oy t _ _ λi=>?_
  match i with
  | 0=>rfl
  | i+1=>rw [S,hz (i+1) O,Yf O7]
 refine⟨U,V,cf R 0,λh0=>?_,O,O,D,G,λx=>by rw [<-N,Z]⟩;have n:∀t,Zf U t*Zf a t+Zf V t*Zf b t=0:=λt=>by rw [<-N,Z,h0];rfl
 obtain⟨g,P,Q,h,W,g3,H⟩:=Znu _ a b w hb (aI _);have hl:=hc g h W g3;have hg:=(W.len h w j).1;have o:tzl V=[]:=by
  refine bQ λo=>?_
  match g,hg,hl,h,H with
  | [c],_,_,h,H=>
   have M:c≠0:=h.mem O7;have hd:Ed a (tzl V):=⟨c,Mu (lmul P V) ((lmul Q U).map λz=>(-1)*z),M,λx=>by have Y:=H x;rw [Py]at Y;rw [Ms,Xp,Zo,Yc,Yc,Y];have:=n x;have e:Zf V x*Zf b x=- (Zf U x*Zf a x):=O4;have:(Zf P x*Zf a x+Zf Q x*Zf b x)*Zf V x=Zf P x*Zf V x*Zf a x+Zf Q x*(Zf V x*Zf b x):=O4;rw [this,e];push_cast;grind⟩
   have:=(hd.len w (Qi V) o).2;have:=Mj V;omega
  | c::d::r,_,h9,_,_=>simp at h9
 have I:tzl U=[]:=by
  refine bQ λI=>?_;have:∀t,Zf a t=0:=Ey U I λt=>by have:=n t;rw [Zag o]at this;grind
  exact w.mem j (Zqq this _)
 exact l ⟨I,o⟩
def Yal(K A n e:Nat):Bool:=
 let X:=(2*(2*n-3)*A)^(2*n-4);let W:=eB K X (n-1)
 Nat.ble (2*(2*W+1)*(2*eL K A n)) (2^e) && Nat.ble (2*(2*W+1)*eM K A n) (2^e)
theorem big_or  {A n e:Nat} (hK:0<K) (hA:0<A) (ha:Tr a) (hb:Tr b) (hn:a.length=n) (h2:2<=n) (lb:b.length+1=a.length) (na:∀i,(cf a i).natAbs<=A) (nb:∀i,(cf b i).natAbs<=A) (hc:∀q,Tr q->Ed q a->Ed q b->q.length<=1)
  (x:Rat) (D:-(K:Rat)<=x) (G:x<=(K:Rat)):Big (1/((2*eB K ((2*(2*n-3)*A)^(2*n-4)) (n-1)+1:Nat):Rat)) x (Zf a)\/Big (1/((2*eB K ((2*(2*n-3)*A)^(2*n-4)) (n-1)+1:Nat):Rat)) x (Zf b):=by
 obtain⟨U,V,c,Z,lU,lV,o,w,k⟩:=Zzc ha hb O lb hA na nb hc;rw [hn]at o w;generalize (2*(2*n-3)*A)^(2*n-4)=X at *;obtain⟨u1,u2⟩:=Zqo (n-1) U O o x D G;obtain⟨v1,v2⟩:=Zqo (n-1) V O w x D G;generalize eB K X (n-1)=W at *;have I:(0:Rat)<=(W:Rat):=Fh (bD _);have H:(0:Rat)<((2*W+1:Nat):Rat):=by
   have:(((0:Nat)):Rat)<((2*W+1:Nat):Rat):=by exact_mod_cast lH _
   exact this
 have g:((2*W+1:Nat):Rat)=2*(W:Rat)+1:=by push_cast;rfl
 generalize M:1/((2*W+1:Nat):Rat)=ε;have l:ε*(2*(W:Rat)+1)=1:=by rw [<-M,g];rw [g]at H;grind
 have a0:0<=ε:=by rw [<-M];have:=gK.2 H;rw [jQ];grind
 by_cases N:Big ε x (Zf a)
 .exact .inl N
 .by_cases P:Big ε x (Zf b)
  .exact .inr P
  .exfalso;obtain⟨Q,R⟩:=Zeg N;obtain⟨S,Y⟩:=Zeg P;obtain⟨q1,q2⟩:=Zcm u1 u2 Q R I;obtain⟨r1,r2⟩:=Zcm v1 v2 S Y I;have h4:=k x;have j:(c:Rat)<=-1\/1<=(c:Rat):=by
    rcases nX Z with h|h
    .left;have:((c:Int):Rat)<=((-1:Int):Rat):=by exact_mod_cast (show c<=-1 by omega)
     rwa [show(((-1:Int)):Rat)=-1 from rfl]at this
    .right;have:1<=c:=O;exact_mod_cast this
   have a3:0<ε:=by
    rcases(show ε=0\/0<ε by grind)with h|h
    .rw [h]at l;grind
    .exact h
   rcases j with j|j<;>grind
theorem two_pow_pos(e:Nat):(0:Rat)<((2^e:Nat):Rat):=by have:0<2^e:=cH O3;exact_mod_cast this
theorem Ysb  {A n e:Nat} (hx:Tr xs) (h0:xs≠[]) (hC:Ax F xs) (hK:0<K) (hA:0<A) (hn:(sqf F xs).length=n) (h2:2<=n) (Z:∀i,(cf (sqf F xs) i).natAbs<=A) (nb:∀i,(cf (Yy (sqf F xs)) i).natAbs<=A) (hs:Yal K A n e=true)
  {u v:Rat} (h1:-(K:Rat)<=u) (Y:u<=v) (h3:v<=(K:Rat)) (hh:v-u<=1/((2^e:Nat):Rat)) :
  vat ((chn F xs).map Zf) u-vat ((chn F xs).map Zf) v=crs (Zf (sqf F xs)) u v:=by
 have H:=hC.1.2.2.1;obtain⟨f1,f2,f3,f4,f5,f6⟩:=Ou F hx h0 H;have g:=Nm f2;have G:=Oc (sqf F xs);have hd:Yy (sqf F xs)≠[]:=λe=>by rw [e]at G;simp at G;omega
 have V:1<=Ys (Yy (sqf F xs)):=by have h1:=Cw g hd;have h2:=Nr (Yy (sqf F xs));omega
 have a2:(1:Rat)<=(Ys (Yy (sqf F xs)):Rat):=by exact_mod_cast V
 have I:∀i,(cf (Zw (Yy (sqf F xs))) i).natAbs<=A:=λi=>by have h5:=Gp (Yy (sqf F xs)) i;have h6:=nb i;rw [<-h5,cJ]at h6;have:(cf (Zw (Yy (sqf F xs))) i).natAbs*1<=(cf (Zw (Yy (sqf F xs))) i).natAbs*(Ys (Yy (sqf F xs))).natAbs:=bB _ O;omega
 have l:∀q,Tr q->Ed q (sqf F xs)->Ed q (Zw (Yy (sqf F xs)))->q.length<=1:=λq hq a b=>Zf8 hx h0 H hq a (b.sim (Ql g));have S:(Zw (Yy (sqf F xs))).length+1=(sqf F xs).length:=by rw [Zy];omega
 have j:=big_or (e:=e) hK hA f2 (Yv g) hn h2 S Z I l;unfold Yal at hs;simp only [aR,Nat.ble_eq]at hs;obtain⟨s1,s2⟩:=hs;generalize (2*(2*n-3)*A)^(2*n-4)=X at *;generalize eB K X (n-1)=W at *;have hD:(0:Rat)<((2*W+1:Nat):Rat):=by
   have:(((0:Nat)):Rat)<((2*W+1:Nat):Rat):=by exact_mod_cast lH _
   exact this
 have hP:=two_pow_pos e;have a0:=Fh s1;have a1:=Fh s2;have c1:((2*(2*W+1)*(2*eL K A n):Nat):Rat)=2*((2*W+1:Nat):Rat)*(2*(eL K A n:Rat)):=by push_cast;rfl
 have c2:((2*(2*W+1)*eM K A n:Nat):Rat)=2*((2*W+1:Nat):Rat)*(eM K A n:Rat):=by push_cast;rfl
 rw [c1]at a0;rw [c2]at a1;have hi:=gK.2 hD;have R:=gK.2 hP;have o:((2*W+1:Nat):Rat)*((2*W+1:Nat):Rat)⁻¹=1:=O4;have w:((2^e:Nat):Rat)*((2^e:Nat):Rat)⁻¹=1:=O4;rw [jQ,oP]at hh;simp only [jQ,oP]at j;generalize ((2*W+1:Nat):Rat)=D at *;generalize ((2^e:Nat):Rat)=P at *;have k:(0:Rat)<=(eL K A n:Rat):=Fh (bD _);have Q:(0:Rat)<=(eM K A n:Rat):=Fh (bD _);refine Zi9 (s:=-(K:Rat)) (t:=(K:Rat)) (κ:=(Ys (Yy (sqf F xs)):Rat)) (ε:=D⁻¹) (L:=(eL K A n:Rat)) (L':=(eL K A n:Rat)) (M:=(eM K A n:Rat)) (h:=P⁻¹) f2 (Yv g) hC.2.2 O4 (λx=>?_) hi j k (Zqn n _ O Z) k (Zqn n _ O I) Q (Yil n _ O Z) R ?_ ?_ h1 Y h3 hh
 .rw [<-Ij,<-Zo];exact Oy x _ _ λi=>by rw [Qq,cQ,Gp]
 .-- P⁻¹ * (2 L) ≤ D⁻¹ / 2
  have t1:=aL (a:=P⁻¹*D⁻¹) (b:=P-2*D*(2*(eL K A n:Rat))) (by have:=bC R hi;grind) O4;have N:P⁻¹*D⁻¹*(P-2*D*(2*(eL K A n:Rat)))=D⁻¹*(P*P⁻¹)-2*P⁻¹*(D*D⁻¹)*(2*(eL K A n:Rat)):=O4;rw [N,o,w]at t1;grind
 .have t1:=aL (a:=P⁻¹*D⁻¹) (b:=P-2*D*(eM K A n:Rat)) (by have:=bC R hi;grind) O4;have N:P⁻¹*D⁻¹*(P-2*D*(eM K A n:Rat))=D⁻¹*(P*P⁻¹)-2*P⁻¹*(D*D⁻¹)*(eM K A n:Rat):=O4;rw [N,o,w]at t1;have t2:=aL (a:=(Ys (Yy (sqf F xs)):Rat)-1) (b:=D⁻¹) O4 O4;grind
theorem Znl(S:Tr xs)(M:xs≠[])(Q:Ax F xs){s:Rat}(o:s<=t):vat ((chn F xs).map Zf) t<=vat ((chn F xs).map Zf) s:=by
 obtain⟨h,N,D⟩:=Znk S M Q s t;have H:∀f u v,0<=crs f u v:=λf u v=>by unfold crs;split<;>decide
 have w:∀n:Nat,∀y,s<=y->y<=t->y-s<=(n:Rat)*h->vat ((chn F xs).map Zf) y<=vat ((chn F xs).map Zf) s:=λn=>by
  induction n with
  | zero=>
    intro y e g j;have:y=s:=by simp at j;grind
    rw [this];exact eY _
  | succ n I=>
   intro y e g j;have G:((n+1:Nat):Rat)*h=(n:Rat)*h+h:=by push_cast;grind
   rcases(show y-s<=(n:Rat)*h\/(n:Rat)*h<y-s by grind)with k|k
   .exact I y e g k
   .have P:(0:Rat)<=(n:Rat)*h:=aL (by exact_mod_cast bD n) O4;rcases(show s<=y-h\/y-h<s by grind)with l|l
    .have a:=I (y-h) l O4 O4;have b:=D (y-h) y l O4 g O4;have c:=H (Zf (sqf F xs)) (y-h) y;omega
    .have b:=D s y O4 e g O4;have c:=H (Zf (sqf F xs)) s y;omega
 have e:∃n:Nat,t-s<=(n:Rat)*h:=by
  have g:0<h⁻¹:=gK.2 N;refine⟨((t-s)*h⁻¹).ceil.toNat,?_⟩;have j:=@oO ((t-s)*h⁻¹);have G:((((t-s)*h⁻¹).ceil:Int):Rat)<=((((t-s)*h⁻¹).ceil.toNat:Nat):Rat):=by have:((t-s)*h⁻¹).ceil<=((((t-s)*h⁻¹).ceil.toNat:Nat):Int):=mD _;exact_mod_cast this
  have k:=dP (mQ j G) (show 0<=h by grind);have P:(t-s)*h⁻¹*h=t-s:=O4;grind
 obtain⟨n,R⟩:=e;exact w n t o O4 R
def qv(z:R2):Rat:=(z.1:Rat)/(z.2:Rat)
theorem Zwu{x y X Y g:Nat}(j:g=Nat.gcd x y)(R:0<y)(S:0<Y)(h:x*Y=X*y):y/g∣Y/\x/g<=X:=by
 have l:0<g:=by rw [j];exact Nat.gcd_pos_of_pos_right _ R
 have Q:Nat.Coprime (x/g) (y/g):=by rw [j];exact Nat.coprime_div_gcd_div_gcd (by rw [<-j];exact l)
 have D:x/g*g=x:=nY (by rw [j];exact mM _ _);have n:y/g*g=y:=nY (by rw [j];exact oI _ _);have o:x/g*Y=X*(y/g):=by refine lN l ?_;have M:x/g*Y*g=x/g*g*Y:=O4;have N:X*(y/g)*g=X*(y/g*g):=O4;rw [M,N,D,n,h]
 have H:y/g∣Y:=Q.symm.dvd_of_dvd_mul_left (by rw [o];exact Nat.dvd_mul_left _ _);refine⟨H,?_⟩;obtain⟨k,I⟩:=H;have w:0<k:=nZ λe=>by rw [e,iG]at I;omega
 have G:0<y/g:=nZ λe=>by rw [e,gP]at n;omega
 rw [I]at o;have P:x/g*k=X:=by refine lN G ?_;have:x/g*k*(y/g)=x/g*(y/g*k):=O4;rw [this,o]
 rw [<-P];exact dW _ w
theorem Zrl{x y X Y:Int}(N:0<y)(Q:0<Y)(h:x*Y=X*y)(I:bl X.natAbs<=B)(e:bl Y.natAbs<=B)(P:B<=65536) :
  ¬Iq x y/\Fo x y∣Y/\0<Fo x y/\bl (Es x y).natAbs<=B/\bl (Fo x y).natAbs<=B/\Es x y*y=x*Fo x y:=by
 have R:Kf x y=(Nat.gcd x.natAbs y.natAbs:Int):=by rw [Yqr O];rfl
 have M:x.natAbs*Y.natAbs=X.natAbs*y.natAbs:=by rw [<-cJ,<-cJ,h]
 obtain⟨l,G⟩:=Zwu (g:=Nat.gcd x.natAbs y.natAbs) rfl (by omega:0<y.natAbs) (by omega:0<Y.natAbs) M;have n:(y/Kf x y).natAbs=y.natAbs/Nat.gcd x.natAbs y.natAbs:=by rw [mR (Zmr x y),Zda]
 have H:(x/Kf x y).natAbs=x.natAbs/Nat.gcd x.natAbs y.natAbs:=by rw [mR (Zvp x y),Zda]
 have w:bl (y/Kf x y).natAbs<=B:=aB (Of (by rw [n];exact mG O l)) e;have D:bl (x/Kf x y).natAbs<=B:=aB (Of (by rw [H];exact G)) I;have j:¬Iq x y:=λh=>by unfold Iq at h;omega
 obtain⟨o,k,-⟩:=Zfl j;refine⟨j,?_,Zyg j N,by rw [o];exact D,by rw [k];exact w,?_⟩
 .rw [k];refine fX.1 ?_;rw [n];exact l
 .rw [o,k];exact Yku x y
structure En (K Q:Nat) (d:Nat) (z:R2):Prop where
 pos:0<z.2
 dv:z.2∣((Q*2^d:Nat):Int)
 lo:-(K:Rat)<=qv z
 hi:qv z<=(K:Rat)
theorem En.up{Q d:Nat}{z:R2}(h:En K Q d z):En K Q (d+1) z:=by
 obtain⟨e,g,j,k⟩:=h;refine⟨e,?_,j,k⟩;have:((Q*2^(d+1):Nat):Int)=((Q*2^d:Nat):Int)*2:=by rw [bX];push_cast;grind
 rw [this];exact iK g (jL _ _)
theorem canc{N p s Y X D:Int}(k:p≠0)(h:N*p=s*D)(j:s*Y=X*p):N*Y=X*D:=by refine Int.eq_of_mul_eq_mul_right k ?_;have e:N*Y*p=(N*p)*Y:=O4;have g:X*D*p=(X*p)*D:=O4;rw [e,g,h,<-j];grind
theorem Gm{z:Int}(h:0<z):(0:Rat)<(z:Rat):=by exact_mod_cast h
def Zdt{n:Nat}(h:n<2^m):bl n<=m:=(Qo m n).2 h
theorem mid_en{Q d:Nat}{a b:R2}(ha:En K Q d a)(hb:En K Q d b)(hQ:0<Q)(a4:Q*2^(d+1)<2^B)(a5:2*K*(Q*2^d)<2^B)(hB:B<=65536) :
  Ze6 a b/\En K Q (d+1) (Ob a b)/\qv (Ob a b)=(qv a+qv b)/2/\bl (Ob a b).1.natAbs<=B/\bl (Ob a b).2.natAbs<=B:=by
 obtain⟨pa,⟨g,da⟩,la,ua⟩:=ha;obtain⟨pb,⟨h,db⟩,lb,ub⟩:=hb;generalize R:((Q*2^d:Nat):Int)=Y at *;have Z:0<Q*2^d:=gI hQ (cH O3);have l:0<Y:=by rw [<-R];exact_mod_cast Z
 have a7:=Gm pa;have a8:=Gm pb;have rY:=Gm l;have M:0<a.2*b.2:=iI pa pb;have j:(a.1*b.2+b.1*a.2)*Y=(a.1*g+b.1*h)*(a.2*b.2):=by have S:(a.1*g+b.1*h)*(a.2*b.2)=a.1*b.2*(a.2*g)+b.1*a.2*(b.2*h):=O4;rw [S,<-da,<-db];grind
 have a1:(a.1:Rat)*g=qv a*Y:=by
  unfold qv;have:(Y:Rat)=(a.2:Rat)*g:=by rw [da];push_cast;rfl
  rw [this];grind
 have a2:(b.1:Rat)*h=qv b*Y:=by
  unfold qv;have:(Y:Rat)=(b.2:Rat)*h:=by rw [db];push_cast;rfl
  rw [this];grind
 have hX:((a.1*g+b.1*h:Int):Rat)=(qv a+qv b)*Y:=by push_cast;rw [a1,a2];grind
 have a6:(a.1*g+b.1*h).natAbs<=2*K*(Q*2^d):=by
  have k:((2*K*(Q*2^d):Nat):Rat)=2*(K:Rat)*(Y:Rat):=by rw [<-R];push_cast;grind
  have t1:=aL (a:=2*(K:Rat)-(qv a+qv b)) (b:=(Y:Rat)) O4 O4;have t2:=aL (a:=2*(K:Rat)+(qv a+qv b)) (b:=(Y:Rat)) O4 O4;have u1:((a.1*g+b.1*h:Int):Rat)<=(((2*K*(Q*2^d):Nat):Int):Rat):=by rw [hX];push_cast at k ⊢;grind
  have u2:((-((2*K*(Q*2^d):Nat):Int):Int):Rat)<=((a.1*g+b.1*h:Int):Rat):=by rw [hX];push_cast at k ⊢;grind
  have v1:a.1*g+b.1*h<=((2*K*(Q*2^d):Nat):Int):=by exact_mod_cast u1
  have v2:-((2*K*(Q*2^d):Nat):Int)<=a.1*g+b.1*h:=by exact_mod_cast u2
  omega
 have o:Y.natAbs=Q*2^d:=by rw [<-R];rfl
 have W:Q*2^(d+1)=2*(Q*2^d):=by rw [bX];grind
 have a0:bl Y.natAbs<=B:=Zdt (by rw [o];omega);have w:bl (a.1*g+b.1*h).natAbs<=B:=Zdt O;obtain⟨f1,f2,f3,f4,f5,f6⟩:=Zrl M l j w a0 hB;have a3:=canc (Int.ne_of_gt M) f6 j;have D:bl (2*Y).natAbs<=B:=Zdt (by rw [cJ,o];show 2*(Q*2^d)<_;omega);have N:Es (a.1*b.2+b.1*a.2) (a.2*b.2)*1*(2*Y)=(a.1*g+b.1*h)*(Fo (a.1*b.2+b.1*a.2) (a.2*b.2)*2):=by rw [fH];have S:Es (a.1*b.2+b.1*a.2) (a.2*b.2)*(2*Y)=2*(Es (a.1*b.2+b.1*a.2) (a.2*b.2)*Y):=O4;rw [S,a3];grind
 have I:0<Fo (a.1*b.2+b.1*a.2) (a.2*b.2)*2:=O;obtain⟨g1,g2,V,g4,g5,g6⟩:=Zrl I (by omega:0<2*Y) N w D hB;have P:=canc (Int.ne_of_gt I) g6 N;have G:(Ob a b).1=Es (Es (a.1*b.2+b.1*a.2) (a.2*b.2)*1) (Fo (a.1*b.2+b.1*a.2) (a.2*b.2)*2):=rfl;have H:(Ob a b).2=Fo (Es (a.1*b.2+b.1*a.2) (a.2*b.2)*1) (Fo (a.1*b.2+b.1*a.2) (a.2*b.2)*2):=rfl;rw [<-G,<-H]at P;rw [<-H]at g2 V g5;rw [<-G]at g4;have hq:qv (Ob a b)=(qv a+qv b)/2:=by
  have h1:(((Ob a b).1:Int):Rat)*(2*(Y:Rat))=((a.1*g+b.1*h:Int):Rat)*(((Ob a b).2:Int):Rat):=by
   have:(((Ob a b).1*(2*Y):Int):Rat)=(((a.1*g+b.1*h)*(Ob a b).2:Int):Rat):=by rw [P]
   push_cast at this ⊢;grind
  rw [hX]at h1;have rd:=Gm V;unfold qv at *;generalize (((Ob a b).1:Int):Rat)=n at *;generalize (((Ob a b).2:Int):Rat)=m at *;generalize (a.1:Rat)/(a.2:Rat)=p at *;generalize (b.1:Rat)/(b.2:Rat)=q at *;generalize (Y:Rat)=y at *;grind
 refine⟨⟨f1,g1⟩,⟨V,?_,by rw [hq];grind,by rw [hq];grind⟩,hq,g4,g5⟩;have e:((Q*2^(d+1):Nat):Int)=2*Y:=by rw [W,<-R];push_cast;rfl
 rw [e];exact g2
end Go.Sky

