/- Rules, arithmetic and contracts: part 7. No conditions but those that each theorem names. -/
import Derived.Test.YteikicbnfbgpnaaGreatEa205
set_option linter.all false
namespace Go.Sky
variable{a b m:R2}{x lo:Rat}{c p o xs r rest before q z:List Int}{d y ov:Int}{v:Value}{t i M N k fuel:Nat}{ls cs:List (SL×List Int)}{ds:List (List Int)}{ti ts:TypeId}
theorem Zgp{a b:List Int}(h:Sim a b):∃c d:Int,c≠0/\d≠0/\∀x:Rat,(c:Rat)*Zi a x=(d:Rat)*Zi b x:=by obtain⟨c,d,f,g,e⟩:=h;exact⟨c,d,f,g,λx=>by rw [<-Zu,<-Zu];exact Nb x _ _ λi=>by rw [Pk,Pk];exact e i⟩
theorem Fi(h:x≠0):0<x*x:=by
 rcases(show 0<x\/x<0 by grind)with q|q
 .exact aT q q
 .have:=aT (a:=-x) (b:=-x) O5 O5;grind
theorem Ol{c:Int}(h:c≠0):(c:Rat)≠0:=λe=>h (by exact_mod_cast e)
theorem Zhc{a b e f c d:Rat}(j:c≠0)(l:d≠0)(n:c*e=d*a)(s:c*f=d*b)(h:a*b<0):e*f<0:=by
 have u:(c*c)*(e*f)=(d*d)*(a*b):=O5;have w:=Fi j;have g:=Fi l;rcases(show e*f<0\/0<=e*f by grind)with q|q
 .exact q
 .have B:=aE (a:=c*c) (b:=e*f) O5 q;have D:=aT (a:=d*d) (b:=-(a*b)) g O5;grind
theorem Yla{g j e f:Rat}(h:g*(e*e)*(j*(f*f))<0):g*j<0:=by
 rcases(show g*j<0\/0<=g*j by grind)with q|q
 .exact q
 .have n:0<=e*f*(e*f):=by
   by_cases l:e*f=0
   .rw [l];grind
   .exact cS (Fi l)
  have s:=aE q n;grind
theorem Zpy{F n:Nat}(h:Tr p)(l:p≠[])(hs:Sz n p)(V:n<=220)(S:p.length<=11)(P:p.length<=F+1)(ho:o=Bh F p.length (Xj p))(f:Tr o)(Z:o≠[])(H:Zac F o){a b:Rat}(a0:a<b)(h1:Dq p.length p a=1)(h2:Zi p b<0):vch F o b<vch F o a:=by
 have w:=Dp.start h l;have g:=(w.ok h l hs V S P).2;have j:De F p:=by unfold De at g ⊢;rwa [w.2.2.1]at g
 obtain⟨⟨B,G⟩,I⟩:=Eb h l hs V S P p.length (Xj p) w (by rw [Pt h];exact aF _);rw [<-ho]at G I;rw [Ch w.2.2.1]at I;obtain⟨-,Y⟩:=Zv6 h l hs V S P f Z H.1.2.2.1 j I;obtain⟨δ,d1,d2⟩:=Zae p.length p a (aF _);obtain⟨s,s1,s2,s3⟩:∃s,a<s/\s<=a+δ/\s<b:=by
  rcases(show a+δ<b\/b<=a+δ by grind)with q|q
  .exact⟨a+δ,O5,O5,q⟩
  .exact⟨(a+b)/2,O5,O5,O5⟩
 have W:0<Zi p s:=by
  have:=d2 s s1 s2;rw [h1]at this;rcases Po (Zi p s)with⟨D,u⟩|⟨D,u⟩|⟨D,u⟩
  .exact D
  .rw [u]at this;exact absurd this O4
  .rw [u]at this;exact absurd this O4
 have k1:Zi p s*Zi p b<0:=by have:=aT (a:=Zi p s) (b:=-Zi p b) W O5;grind
 obtain⟨c,d,hc,hd,e⟩:=Zgp ((Ht (Yb p)).trans (Qm h):Sim (Xj p) p);have k2:Zi (Xj p) s*Zi (Xj p) b<0:=Zhc (Ol hc) (Ol hd) (e s) (e b) k1;rw [G s,G b]at k2;have k3:=Yla k2;obtain⟨c',d',Q,R,e'⟩:=Zgp ((Ht (Yb o)).trans (Qm f):Sim (Xj o) o);have k4:Zi (Xj o) s*Zi (Xj o) b<0:=Zhc (Ol Q) (Ol R) (e' s) (e' b) k3;rw [<-Y]at k4;have m1:=Zl2 f Z H (cS s1);rcases gJ (vch F o b) (vch F o s)with q|q
 .exact Int.lt_of_lt_of_le q m1
 .exfalso;have hz:Zi (sqf F o) s≠0:=λe9=>by rw [e9]at k4;grind
  have:=Zew f Z H (cS s3) q hz b (cS s3) O5;grind
theorem Zih:∀(n:Nat) (p:List Int) (x:Rat),Tr p->p≠[]->p.length<=n->Dq n p x≠0
 | 0,p,x,_,j,D=>absurd (aC O1) j
 | n+1,p,x,u,j,D=>by
  unfold Dq;by_cases h:Zi p x≠0
  .rw [aM h];rcases Po (Zi p x)with⟨l,g⟩|⟨l,g⟩|⟨l,g⟩
   .rw [g];decide
   .rw [g];decide
   .exact absurd l h
  .rw [aK h];have w:Zi p x=0:=eW.1 h;have f:=Og p;refine Zih n (Xi p) x (Nt u) (λe=>?_) O1;rw [e]at f;have F:=aH.2 j;have s:p.length=1:=by simp at f;omega
   match p,s with
   | [c],_=>
    have B:c≠0:=u.mem O6;rw [Oh]at w;exact Ol B w
theorem Zub(n:Nat)(p:List Int)(x:Rat):-1<=Dq n p x/\Dq n p x<=1:=by
 induction n generalizing p with
 | zero=>show -1<=(0:Int)/\(0:Int)<=1;decide
 | succ n e=>unfold Dq;split;exact Yjm;exact e _
def Za0(F:Nat)(o:List Int)(a b:Rat):Prop:=0<vch F o a-vch F o b-(if Zi o b=0 then 1 else 0)
theorem Yln{F n:Nat}(f:Tr p)(g:p≠[])(hs:Sz n p)(I:n<=220)(H:p.length<=11)(G:p.length<=F+1)(P:o=Bh F p.length (Xj p))(u:Tr o)(Z:o≠[])(V:Zac F o){a b:Rat}(l:a<b) :
  (Zi p a<0\/Zi p b<0\/Dq p.length p a<0\/Za0 F o a b)↔(Dq p.length p a<0\/Za0 F o a b):=by
 constructor
 .rintro(h|h|h|h)
  .left;rw [Ya5 p.length p a O5 (aF _),Zpi h];decide
  .have r:=Zub p.length p a;have r0:=Zih p.length p a f g (aF _);rcases(show Dq p.length p a<0\/Dq p.length p a=1 by omega)with j|j
   .exact .inl j
   .right;have hv:=Zpy f g hs I H G P u Z V l j h;have W:=Dp.start f g;obtain⟨⟨B,D⟩,-⟩:=Eb f g hs I H G p.length (Xj p) W (by rw [Pt f];exact aF _);rw [<-P]at D;obtain⟨c,d,hc,Y,e⟩:=Zgp ((Ht (Yb p)).trans (Qm f):Sim (Xj p) p);have s:Zi o b≠0:=λQ=>by
     have w:(c:Rat)*Zi (Xj p) b=(d:Rat)*Zi p b:=e b;rw [D b,Q]at w;have R:=Ol Y;have S:(d:Rat)*Zi p b=0:=by rw [<-w];grind
     rcases fN.1 S with q|q
     .exact R q
     .rw [q]at h;grind
    unfold Za0;rw [aK s];omega
  .exact .inl h
  .exact .inr h
 .rintro(h|h)
  .exact .inr (.inr (.inl h))
  .exact .inr (.inr (.inr h))
theorem Ygr(p:List Int)(x:Rat)(h:Zi p x≠0):∃δ:Rat,0<δ/\∀y,x-δ<=y->y<=x->Er (Zi p y)=Er (Zi p x):=by
 obtain⟨L,B,j⟩:=Bs (x-1) x p;obtain⟨δ,g,n,s⟩:=Gj (show(0)<1 by rfl) (show 0<L+1 by grind) (show 0<(if 0<Zi p x then Zi p x else -Zi p x)/2 by grind);refine⟨δ,g,λy u w=>?_⟩;have l:=j y x O5 O5 O6;have b:=aE (a:=L) (b:=δ-(x-y)) O5 O5;rcases Po (Zi p x)with⟨e,f⟩|⟨e,f⟩|⟨e,f⟩
 .grind [Yb4]
 .grind [Zpi]
 grind
theorem rsg_1(h:Er x=1):0<x:=by grind [Po]
theorem Zq5(h:Er x=-1):x<0:=by
 rcases Po x with⟨e,f⟩|⟨e,f⟩|⟨e,f⟩
 all_goals omega
def Ya8(p:List Int)(a b:Rat):Prop:=∃x,a<=x/\x<=b/\Zi p x<0
theorem Ym5  {F:Nat} (hx:Tr xs) (h0:xs≠[]) (hC:Zac F xs) {a b σ:Rat} (hσ:σ≠0) (a0:a<b)
  (f:∀x,a<=x->x<b->∃δ:Rat,0<δ/\∀y,x<y->y<=x+δ->y<=b->0<σ*Zi (sqf F xs) y) :
  vch F xs a-vch F xs b<=(if Zi (sqf F xs) b=0 then 1 else 0):=by
 obtain⟨h,h1,S⟩:=Zn6 hx h0 hC a b;have W:∀x,a<=x->x<b->0<=σ*Zi (sqf F xs) x:=λx ha hb=>by
  rcases(show 0<=σ*Zi (sqf F xs) x\/σ*Zi (sqf F xs) x<0 by grind)with q|q
  .omega
  .exfalso;have Z:Zi (sqf F xs) x≠0:=λe=>O11;obtain⟨δ,d1,G⟩:=f x ha hb;obtain⟨ε,e1,R⟩:=Zpz (sqf F xs) x Z;obtain⟨y,P,y2,y3,y4⟩:∃y,x<y/\y<=x+δ/\y<=x+ε/\y<=b:=by
    rcases(show δ<=ε\/ε<=δ by grind)with w|w
    all_goals grind
   have k1:=G y P y2 y4;have j:=R y P y3;rcases Po (Zi (sqf F xs) x)with⟨H,g⟩|⟨H,g⟩|⟨H,g⟩
   .rw [g]at j;have I:=rsg_1 j;rcases(show σ<0\/0<σ by grind)with s|s
    .have:=aT (a:=-σ) (b:=Zi (sqf F xs) y) O5 I;grind
    grind [Rat.mul_pos]
   .rw [g]at j;have I:=Zq5 j;rcases(show σ<0\/0<σ by grind)with s|s
    .have:=aT (a:=-σ) (b:=-Zi (sqf F xs) x) O5 O5;grind
    .have:=aT (a:=σ) (b:=-Zi (sqf F xs) y) s O5;grind
   grind
 have a3:0<=σ*Zi (sqf F xs) b:=by
  rcases(show 0<=σ*Zi (sqf F xs) b\/σ*Zi (sqf F xs) b<0 by grind)with q|q
  .omega
  .exfalso;have Z:Zi (sqf F xs) b≠0:=λe=>O11;obtain⟨ε,e1,R⟩:=Ygr (sqf F xs) b Z;obtain⟨y,P,y2,y3⟩:∃y,a<=y/\y<b/\b-ε<=y:=by grind
   obtain⟨δ,d1,G⟩:=f y P y2;obtain⟨z,z1,z2,B⟩:∃z,y<z/\z<=y+δ/\z<=b:=by grind
   have k1:=G z z1 z2 B;have j:=R z O5 B;rcases Po (Zi (sqf F xs) b)with⟨H,g⟩|⟨H,g⟩|⟨H,g⟩
   .rw [g]at j;have I:=rsg_1 j;rcases(show σ<0\/0<σ by grind)with s|s
    .have:=aT (a:=-σ) (b:=Zi (sqf F xs) z) O5 I;grind
    grind [Rat.mul_pos]
   .rw [g]at j;have I:=Zq5 j;rcases(show σ<0\/0<σ by grind)with s|s
    .have:=aT (a:=-σ) (b:=-Zi (sqf F xs) b) O5 O5;grind
    .have:=aT (a:=σ) (b:=-Zi (sqf F xs) z) s O5;grind
   grind
 have l:∀u v,a<=u->u<=v->v<=b->v-u<=h/2->vch F xs u-vch F xs v<=(if v=b/\Zi (sqf F xs) b=0 then 1 else 0):=λu v D c2 Q c4=>by
  have e:=S u v D c2 Q O5;have e':vch F xs u-vch F xs v=crs (Zi (sqf F xs)) u v:=e;rw [e'];unfold crs;by_cases V:Zi (sqf F xs) u≠0/\Zi (sqf F xs) u*Zi (sqf F xs) v<=0
  .rw [aM V];have Y:u<b:=by
    rcases(show u<b\/u=b by grind)with q|q
    .omega
    .exfalso;have:v=u:=O5;subst this;have:=Fi V.1;grind
   have g1:=W u D Y;have g2:0<=σ*Zi (sqf F xs) v:=by grind
   have a4:Zi (sqf F xs) v=0:=by
    rcases(show Zi (sqf F xs) v=0\/Zi (sqf F xs) v≠0 by grind)with q|q
    .omega
    .exfalso;have m1:=aE g1 g2;have m2:=Fi hσ;have m3:(σ*σ)*(Zi (sqf F xs) u*Zi (sqf F xs) v)>=0:=O5;rcases(show Zi (sqf F xs) u*Zi (sqf F xs) v<0\/Zi (sqf F xs) u*Zi (sqf F xs) v=0 by grind)with w|w
     .have:=aT m2 (show 0 < -(Zi (sqf F xs) u*Zi (sqf F xs) v) by grind);grind
     grind
   rcases(show v<b\/v=b by grind)with q|q
   .exfalso;obtain⟨δ,d1,G⟩:=f v O5 q;obtain⟨z,z1,z2,B,z4⟩:∃z,v<z/\z<=v+δ/\z<=b/\z-v<=h/2:=by
     rcases(show δ<=h/2\/h/2<=δ by grind)with w|w
     .rcases(show v+δ<=b\/b<=v+δ by grind)with t|t
      all_goals grind
     .rcases(show v+h/2<=b\/b<=v+h/2 by grind)with t|t
      all_goals grind
    have k1:=G z z1 z2 B;have a1:=S u z D O5 B O5;have a2:=S v z O5 O5 B O5;have r1:crs (Zi (sqf F xs)) u z=0:=by
     unfold crs;rw [aK];rintro⟨w1,w2⟩;have g3:0<σ*Zi (sqf F xs) u:=by grind
     have m1:=aT g3 k1;have m2:=Fi hσ;have m3:0<(σ*σ)*(Zi (sqf F xs) u*Zi (sqf F xs) z):=O5;have m4:=aE (a:=σ*σ) (b:=-(Zi (sqf F xs) u*Zi (sqf F xs) z)) O5 O5;grind
    have r2:crs (Zi (sqf F xs)) v z=0:=by unfold crs;all_goals grind
    have r3:crs (Zi (sqf F xs)) u v=1:=by unfold crs;grind
    omega
   grind
  .rw [aK V]
   all_goals omega
 have a5:∀n:Nat,∀u,a<=u->u<=b->b-u<=(n:Rat)*(h/2)->vch F xs u-vch F xs b<=(if Zi (sqf F xs) b=0 then 1 else 0):=λn=>by
  induction n with
  | zero=>
   grind
  | succ n ih=>
   intro u D c2 Q;push_cast at Q;by_cases hy:b-u<=h/2
   .grind
   .have i1:=ih (u+h/2) O5 O5 O5;have i2:=l u (u+h/2) D O5 O5 O5;rw [aK (λe=>O5)]at i2;omega
 obtain⟨n,hn⟩:=Zig (b-a) (show 0<h/2 by grind);grind
structure Odp (F n:Nat) (p o:List Int):Prop where
 tr:Tr p
 ne:p≠[]
 sz:Sz n p
 hn:n<=220
 hl:p.length<=11
 hF:p.length<=F+1
 eq:o=Bh F p.length (Xj p)
 otr:Tr o
 one:o≠[]
 ok:Zac F o
theorem Odp.sq{F n:Nat}(h:Odp F n p o):∃(c d:Int) (B:List Int),c≠0/\d≠0/\∀x:Rat,(d:Rat)*Zi p x=(c:Rat)*(Zi o x*(Zi B x*Zi B x)):=by have g:=Dp.start h.tr h.ne;obtain⟨⟨B,f⟩,-⟩:=Eb h.tr h.ne h.sz h.hn h.hl h.hF p.length _ g (by rw [Pt h.tr];omega);rw [<-h.eq]at f;obtain⟨c,d,j,l,e⟩:=Zgp ((Ht _).trans (Qm h.tr));exact⟨c,d,B,j,l,λx=>by rw [<-f x];exact(e x).symm⟩
theorem Odp.sqf{F n:Nat}(h:Odp F n p o):Go.Sky.sqf F o=Xj o:=by
 have g:=Dp.start h.tr h.ne;have e:=(g.ok h.tr h.ne h.sz h.hn h.hl h.hF).2;have f:De F p:=by unfold De at e ⊢;rwa [g.2.2.1]at e
 obtain⟨-,j⟩:=Eb h.tr h.ne h.sz h.hn h.hl h.hF p.length _ g (by rw [Pt h.tr];omega);rw [<-h.eq]at j;rw [Ch g.2.2.1]at j;exact(Zv6 h.tr h.ne h.sz h.hn h.hl h.hF h.otr h.one h.ok.1.2.2.1 f j).2
theorem Odp.srt{F n:Nat}(h:Odp F n p o):∃c d:Int,c≠0/\d≠0/\∀x:Rat,(c:Rat)*Zi (Go.Sky.sqf F o) x=(d:Rat)*Zi o x:=by rw [h.sqf];exact Zgp ((Ht _).trans (Qm h.otr))
theorem Odp.zero{F n:Nat}(h:Odp F n p o)(x:Rat):Zi (Go.Sky.sqf F o) x=0↔Zi o x=0:=by obtain⟨c,d,f,g,e⟩:=h.srt;grind [Rat.mul_eq_zero,Ol]
theorem Odp.nz{F n:Nat}(h:Odp F n p o)(j:Zi p x≠0):Zi o x≠0:=λz=>by obtain⟨c,d,B,f,g,e⟩:=h.sq;grind [Rat.mul_eq_zero,Ol]
theorem Odp.opp{F n:Nat}(h:Odp F n p o){y:Rat}(j:Zi p x*Zi p y<0):Zi o x*Zi o y<0/\Zi (Go.Sky.sqf F o) x*Zi (Go.Sky.sqf F o) y<0:=by obtain⟨c,d,B,u,w,e⟩:=h.sq;have D:=Zhc (Ol u) (Ol w) (e x).symm (e y).symm j;have s:=Yla D;obtain⟨G,H,f,g,l⟩:=h.srt;exact⟨s,Zhc (Ol f) (Ol g) (l x) (l y) s⟩
theorem Odp.sem{F n:Nat}(h:Odp F n p o){a b:Rat}(j:a<b):(Dq p.length p a<0\/Za0 F o a b)↔Ya8 p a b:=by
 have I:=Yln h.tr h.ne h.sz h.hn h.hl h.hF h.eq h.otr h.one h.ok j;constructor
 .rintro(l|l)
  .obtain⟨δ,P,D⟩:=Zae p.length p a (aF _);have r:=Zub p.length p a;have hm:Dq p.length p a=-1:=O1;rcases(show a+δ<=b\/b<=a+δ by grind)with q|q
   .exact⟨a+δ,O5,q,Zq5 O5⟩
   .exact⟨b,O5,O6,Zq5 O5⟩
  .rcases Classical.em (Ya8 p a b)with q|q
   .omega
   .exfalso;have a0:∀x,a<=x->x<=b->0<=Zi p x:=λx u v=>by
     rcases(show 0<=Zi p x\/Zi p x<0 by grind)with w|w
     .omega
     .exact absurd ⟨x,u,v,w⟩ q
    have g:∀x,a<=x->x<b->∃δ:Rat,0<δ/\∀y,x<y->y<=x+δ->y<=b->0<Zi p y:=λx u v=>by obtain⟨δ,P,D⟩:=Zae p.length p x (aF _);have r:=Zub p.length p x;have r0:=Zih p.length p x h.tr h.ne (aF _);grind [Po,r0]
    obtain⟨δ,P,D⟩:=g a O6 j;obtain⟨z,z1,z2,z3⟩:∃z,a<z/\z<=a+δ/\z<=b:=by grind
    have hz:=D z z1 z2 z3;have hσ:Zi (Go.Sky.sqf F o) z≠0:=λe=>h.nz (x:=z) O5 ((h.zero z).1 e);have hf:=Ym5 h.otr h.one h.ok (σ:=Zi (Go.Sky.sqf F o) z) hσ j (λx u v=>by
     obtain⟨ε,Y,Z⟩:=g x u v;refine⟨ε,Y,λy S V W=>?_⟩;have hy:=Z y S V W;have a1:Zi (Go.Sky.sqf F o) y≠0:=λe=>h.nz (x:=y) O5 ((h.zero y).1 e);rcases(show 0<Zi (Go.Sky.sqf F o) z*Zi (Go.Sky.sqf F o) y\/Zi (Go.Sky.sqf F o) z*Zi (Go.Sky.sqf F o) y<0\/Zi (Go.Sky.sqf F o) z*Zi (Go.Sky.sqf F o) y=0 by grind)with w|w|w
     .omega
     .exfalso;obtain⟨c,d,B,hc,hd,e⟩:=h.sq;obtain⟨c',d',G,H,Q⟩:=h.srt;have w1:Zi o z*Zi o y<0:=Zhc (Ol H) (Ol G) (Q z).symm (Q y).symm w;have p1:=aT hz hy;have R:((d:Rat)*(d:Rat))*(Zi p z*Zi p y)=((c:Rat)*(c:Rat))*((Zi o z*Zi o y)*((Zi B z*Zi B y)*(Zi B z*Zi B y))):=by grind
      have s:=aT (Fi (Ol hd)) p1;have q3:0<=(Zi B z*Zi B y)*(Zi B z*Zi B y):=by grind [Rat.le_of_lt,Fi]
      have q4:=aE (cS (Fi (Ol hc))) (aE (show 0<=-(Zi o z*Zi o y) by grind) q3);grind
     grind)
    unfold Za0 at l;by_cases f:Zi o b=0
    .grind
    .rw [aK f]at l;rw [aK (λe=>f ((h.zero b).1 e))]at hf;omega
 .rintro⟨x,x1,x2,x3⟩;rcases(show x=a\/x=b\/(a<x/\x<b) by grind)with q|q|⟨R,s⟩
  .grind
  .grind
  .have r:=Zub p.length p a;have r0:=Zih p.length p a h.tr h.ne (aF _);rcases(show Dq p.length p a<0\/Dq p.length p a=1 by omega)with l|l
   .omega
   .right;have hv:=Zpy h.tr h.ne h.sz h.hn h.hl h.hF h.eq h.otr h.one h.ok R l x3;have m1:=Zl2 h.otr h.one h.ok (cS s);unfold Za0;by_cases f:Zi o b=0
    .rw [aM f];have hx:Zi (Go.Sky.sqf F o) x≠0:=λe=>h.nz (x:=x) O5 ((h.zero x).1 e);rcases gJ (vch F o b) (vch F o x)with w|w
     .omega
     .exfalso;have:=Zew h.otr h.one h.ok (cS s) w hx b (cS s) O6;rw [(h.zero b).2 f]at this;grind
    grind
theorem Zw0(g:Rat->Rat){h:Rat}(f:0<h):∀(n:Nat) (u v:Rat),u<v->v-u<=(n:Rat)*h->g u*g v<0->∃x y,u<=x/\x<y/\y<=v/\y-x<=h/\g x≠0/\g x*g y<=0
 | 0,u,v,a,b,_=>O5
 | n+1,u,v,a,b,c=>by
  have j:g u≠0:=λe=>O11;by_cases B:v-u<=h
  .grind
  .rcases(show g u*g (u+h)<=0\/0<g u*g (u+h) by grind)with q|q
   .grind
   .have l:g (u+h)*g v<0:=by
     have s:=Fi j;rcases(show g (u+h)*g v<0\/0<=g (u+h)*g v by grind)with w|w
     .omega
     .have Q:=aT q (show 0 < -(g u*g v) by grind);have R:=aE (cS s) w;grind
    obtain⟨x,y,D,F,G,H,I,P⟩:=Zw0 g f n _ v O5 O5 l;grind
theorem Zpw{a b c:Rat}(h:a*b<0)(e:a-b<=c)(f:b-a<=c):-c<=a/\a<=c:=by
 rcases(show 0<a\/a<0\/a=0 by grind)with q|q|q
 .have:b<0:=by
   rcases(show b<0\/0<=b by grind)with w|w
   .omega
   .have:=aE (cS q) w;grind
  grind
 .have:0<b:=by
   rcases(show 0<b\/b<=0 by grind)with w|w
   .omega
   .have:=aE (show 0<=-a by grind) (show 0<=-b by grind);grind
  grind
 grind
theorem Zxi{F:Nat}(hx:Tr xs)(h0:xs≠[])(hC:Zac F xs)(ho:Tr o)(o0:o≠[])(hE:Ed o (sqf F xs)){u v:Rat}(g:u<v)(hu:Zi (sqf F xs) u≠0)(h:Zi o u*Zi o v<0):vch F xs v<vch F xs u:=by
 rcases gJ (vch F xs v) (vch F xs u)with q|q
 .omega
 .exfalso;have hk:=Zew hx h0 hC (cS g) q hu;obtain⟨k,w,Q,hw⟩:=hE;have H:=Ol Q;have f:∀d,Tr d->Ed d o->Ed d (tzl w)->d.length<=1:=λd hd e1 G=>by
   obtain⟨R,s1,D,r1⟩:=e1;obtain⟨k2,s2,Y,r2⟩:=G;refine Zgn hx h0 hC.1.2.2.1 hd ⟨k*R,lmul w s1,bB Q D,λx=>?_⟩ ⟨k*R*k2,Mw ((lmul (ld w) s1).map λa=>k2*a) ((lmul s2 (ld o)).map λa=>R*a),bB (bB Q D) Y,λx=>?_⟩
   .grind [Ym,r1]
   .rw [Xt,Zu,Zu,Ym,Ym,Ik];have a0:=Cv ((sqf F xs).map λa=>k*a) (lmul w o) (λy=>by grind [Zu,Ym]) x;grind [Zao,Bt,r1,r2,Ll]
  obtain⟨ε,e1,G⟩:=Yed ho (Qn w) o0 f u v;obtain⟨s,l1,l2⟩:=Bs u v o;obtain⟨B,m1,m2⟩:=Bs u v w;obtain⟨j,Z,-,d3⟩:=Gj (show(0:Rat)<1 by rfl) (show 0<s+B by grind) (show 0<ε/2 by grind);obtain⟨n,hn⟩:=Zig (v-u) Z;obtain⟨x,y,l,x2,V,x4,x5,x6⟩:=Zw0 (Zi o) Z n u v g hn h;have sx:=hk x l O5;have sy:=hk y O5 V;have ox:=hw x;have oy:=hw y;have a3:Zi o y≠0:=λe=>by grind [Rat.mul_eq_zero]
  have I:Zi o x*Zi o y<0:=by grind [Rat.mul_eq_zero]
  have S:0<Zi (sqf F xs) x*Zi (sqf F xs) y:=by
   have a1:=aT sx sy;have W:=Fi hu;rcases(show 0<Zi (sqf F xs) x*Zi (sqf F xs) y\/Zi (sqf F xs) x*Zi (sqf F xs) y<=0 by grind)with t|t
   .omega
   .have:=aE (cS W) (show 0<=-(Zi (sqf F xs) x*Zi (sqf F xs) y) by grind);grind
  have P:Zi w x*Zi w y<0:=by
   have a1:(k:Rat)*k*(Zi (sqf F xs) x*Zi (sqf F xs) y)=(Zi w x*Zi w y)*(Zi o x*Zi o y):=by grind
   have W:=aT (Fi H) S;rcases(show Zi w x*Zi w y<0\/0<=Zi w x*Zi w y by grind)with t|t
   .omega
   .have:=aE t (show 0<=-(Zi o x*Zi o y) by grind);grind
  have D:=l2 x y l O5 V;have Y:=m2 x y l O5 V;have n1:=aE (a:=s) (b:=j-(y-x)) O5 O5;have n2:=aE (a:=B) (b:=j-(y-x)) O5 O5;have n3:=aE (a:=s) (b:=j) O5 O5;have n4:=aE (a:=B) (b:=j) O5 O5;obtain⟨b1,b2⟩:=Zpw (c:=ε/2) I O5 O5;obtain⟨b3,b4⟩:=Zpw (c:=ε/2) P O5 O5;rcases G x l O5 with t|t
  .unfold Big at t;grind
  .unfold Big at t;grind [Ll]
theorem Zpl{F:Nat}(j:Tr xs)(f:xs≠[])(g:Zac F xs){u v:Rat}(e:u<v)(h:Zi (sqf F xs) u≠0)(l:Zi (sqf F xs) v=0):vch F xs v<vch F xs u:=by
 rcases gJ _ _ with q|q
 .omega
 .have:=Zew j f g (cS e) q h v (cS e) O6;simp_all
theorem Odp.ed{F n:Nat}(h:Odp F n p o):Ed o (Go.Sky.sqf F p):=by have e:=Dp.start h.tr h.ne;obtain⟨-,f⟩:=Eb h.tr h.ne h.sz h.hn h.hl h.hF p.length _ e (by rw [Pt h.tr];omega);rw [<-h.eq]at f;rwa [Ch e.2.2.1]at f
theorem Yil{F:Nat}(l:Tr xs)(f:xs≠[])(j:Zac F xs)(x:Rat):Zi xs x=0↔Zi (sqf F xs) x=0:=by
 constructor
 .intro h;have n:(x.den:Int)≠0:=by exact_mod_cast x.den_nz
  have e:((x.num))/((x.den:Int))=x:=by grind [Rat.divInt_eq_div,Rat.num_divInt_den]
  have:=Yin l f j.1.2.2.1 n (r:=x.num) O5;grind
 .obtain⟨g,s⟩:=Yq2 l f j.1.2.2.1;grind
theorem Yr0 {F n:Nat}  (h:Odp F n p o) (f:Zac F p) {K:Nat} {e:Nat} (l:∀u v:Rat,-(K:Rat)<=u->u<=v->v<=(K:Rat)->v-u<=1/((2^e:Nat):Rat)->vch F p u-vch F p v<=1)
  {s t:Rat} (h1:-(K:Rat)+1<=s) (Q:t<=(K:Rat)) (hs:0<=Zi p s) (ht:0<=Zi p t) (V:Ya8 p s t):1/((2^(e+1):Nat):Rat)<t-s:=by
 obtain⟨x,x1,x2,x3⟩:=V;have B:s<x:=O5;have D:x<t:=O5;obtain⟨f1,f2,f3,f4,f5,f6⟩:=Ow F h.tr h.ne f.1.2.2.1;have j:Zi (Go.Sky.sqf F p) x≠0:=λz=>by have:=(Yil h.tr h.ne f x).2 z;grind
 rcases(show 1/((2^(e+1):Nat):Rat)<t-s\/t-s<=1/((2^(e+1):Nat):Rat) by grind)with q|q
 .omega
 .exfalso;have W:=two_pow_pos e;have Y:=two_pow_pos (e+1);have I:((2^(e+1):Nat):Rat)=2*((2^e:Nat):Rat):=O5;have hi:0<((2^e:Nat):Rat)⁻¹:=fR.2 W;have R:1/((2^(e+1):Nat):Rat)=((2^e:Nat):Rat)⁻¹/2:=by rw [I];grind
  have P:1/((2^e:Nat):Rat)=((2^e:Nat):Rat)⁻¹:=O5;have S:((2^e:Nat):Rat)⁻¹<=1:=by
   have g1:(1:Rat)<=((2^e:Nat):Rat):=by have:1<=2^e:=dK e;exact_mod_cast this
   have g2:=aE (a:=((2^e:Nat):Rat)-1) (b:=((2^e:Nat):Rat)⁻¹) O5 O5;grind [Rat.mul_inv_cancel]
  obtain⟨u,u1,u2,u3⟩:∃u,s-((2^e:Nat):Rat)⁻¹/2<=u/\u<=s/\vch F p x<vch F p u:=by
   by_cases z:Zi (Go.Sky.sqf F p) s=0
   .obtain⟨δ,d1,H⟩:=Zae (Go.Sky.sqf F p).length (Go.Sky.sqf F p) (s-((2^e:Nat):Rat)⁻¹/2) (aF _);have G:=Zih (Go.Sky.sqf F p).length (Go.Sky.sqf F p) (s-((2^e:Nat):Rat)⁻¹/2) f2 f3 (aF _);obtain⟨u,w1,w2,w3⟩:∃u,s-((2^e:Nat):Rat)⁻¹/2<u/\u<=s-((2^e:Nat):Rat)⁻¹/2+δ/\u<s:=by
     rcases(show s-((2^e:Nat):Rat)⁻¹/2+δ<s\/s<=s-((2^e:Nat):Rat)⁻¹/2+δ by grind)with w|w
     .grind
     .exact⟨s-((2^e:Nat):Rat)⁻¹/4,O5,O5,O5⟩
    have Z:Zi (Go.Sky.sqf F p) u≠0:=λc=>by have:=H u w1 w2;rw [c]at this;exact G this.symm
    have m1:=Zpl h.tr h.ne f w3 Z z;have m2:=Zl2 h.tr h.ne f (cS B);grind
   .have g:0<Zi p s:=by have:Zi p s≠0:=λc=>z ((Yil h.tr h.ne f s).1 c);grind
    have k:=h.opp (x:=s) (y:=x) (by have:=aT g (show 0 < -Zi p x by grind);grind);exact⟨s,O5,O6,Zxi h.tr h.ne f h.otr h.one h.ed B z k.1⟩
  have u4:vch F p t<vch F p x:=by
   by_cases z:Zi (Go.Sky.sqf F p) t=0
   .exact Zpl h.tr h.ne f D j z
   .have g:0<Zi p t:=by have:Zi p t≠0:=λc=>z ((Yil h.tr h.ne f t).1 c);grind
    have k:=h.opp (x:=x) (y:=t) (by have:=aT g (show 0 < -Zi p x by grind);grind);exact Zxi h.tr h.ne f h.otr h.one h.ed D j k.1
  have:=l u t O5 O5 Q O5;omega
def Zdc(xs:List Int)(m:Nat):Prop:=xs.length=0\/(xs.length+2)*(xs.length+2)*(Qc xs+m+2*(xs.length-1)+32)<=65536
instance (xs:List Int) (m:Nat):Decidable (Zdc xs m):=by unfold Zdc;infer_instance
def sgf_t{m:Nat}(h:xs.length=0):Value.bool (decide (Zdc xs m))= .bool true:=aD _ (aG (.inl h))
theorem sgf_i{m:Nat}{n:Int}(h:xs.length≠0)(e:n=(((xs.length+2)*(xs.length+2)*(Qc xs+m+2*(xs.length-1)+32):Nat):Int)):Value.bool (decide (Zdc xs m))= .bool (decide (n<=65536)):=aD _ (bF.2 (by show(xs.length=0\/_<=65536)↔_;omega))
def efit(z:R2):Bool:=decide (max (bl z.1.natAbs) (bl z.2.natAbs)<=512)
def Zkp:List Int->Int
 | []=>0
 | x::r=>if x=0 then Zkp r else x
theorem Zw6{s:Int}(h:s≠0):∀{L:List Int} {i:Nat},i<L.length->(∀k,k<i->L.getD k 0=0)->L.getD i 0=s->Zkp L=s
 | [],i,hi,_,_=>absurd hi O6
 | x::r,0,_,_,hs=>by have e:x=s:=hs;unfold Zkp;omega
 | x::r,i+1,hi,hz,hs=>by have e:x=0:=hz 0 O6;unfold Zkp;rw [aM e];exact Zw6 h O5 (λk f=>hz (k+1) O1) hs
theorem Zp8:∀{L:List Int},(∀k,k<L.length->L.getD k 0=0)->Zkp L=0
 | [],_=>rfl
 | x::r,hz=>by have e:x=0:=hz 0 O6;unfold Zkp;rw [aM e];exact Zp8 λk f=>hz (k+1) (by simpa using f)
def aft(e:List (List Int))(m:R2):Int:=Zkp (e.map (Ck m.1 m.2))
def vlu(e:List (List Int))(m:R2):Int:=if e.length=0 then 0 else Ck m.1 m.2 (e.getD 0 [])
def chv(e:List (List Int))(m:R2):Int:=chg (e.map (Ck m.1 m.2))
def crb(e:List (List Int))(a b:R2):Bool:=if e.length=0 then false else decide (0<chv e a-chv e b-if Ck b.1 b.2 (e.getD 0 [])=0 then 1 else 0)
def cmp(a b:R2):Int:=(a.1*b.2-b.1*a.2).sign
def ngb(ds cs:List (List Int))(a b:R2):Bool:=if cmp a b=0 then decide (vlu ds a<0)else(decide (aft ds a<0) || crb cs a b)
theorem Yfb(ls:List (SL×List Int))(x y:Int):aft (ls.map Prod.snd) (x,y)=Zkp (sgx ls (Ck x y)):=by unfold aft;grind [Ybp]
theorem Yts(ls:List (SL×List Int))(x y:Int):chv (ls.map Prod.snd) (x,y)=chg (sgx ls (Ck x y)):=by unfold chv;grind [Ybp]
theorem Zis(h:i<ls.length):(ls.map Prod.snd).getD i []=(ls.getD i Z0).2:=by grind
theorem Yep(e:List (List Int))(m:R2):0<=chv e m/\chv e m<=(e.length:Int):=by have:=Zb4 (e.map (Ck m.1 m.2));rw [bA]at this;exact this
theorem Zvg(h:Er x=0):x=0:=by
 rcases Po x with⟨e,f⟩|⟨e,f⟩|⟨e,f⟩
 all_goals omega
theorem sgm_i{x l:Int}(f:-1<=x/\x<=1)(e:-1<=l/\l<=1):Nc (x*l):=by
 rcases(show x=-1\/x=0\/x=1 by omega)with h|h|h<;>subst h
 .exact⟨O1,O1⟩
 .exact⟨O6,O6⟩
 .exact⟨O1,O1⟩
theorem Ybr{x l:Int}(f:-1<=x/\x<=1)(e:-1<=l/\l<=1)(h:x*l<0):x=-l:=by rcases(show x=-1\/x=0\/x=1 by omega)with h|h|h<;>subst h<;>omega
theorem Ybq{x l:Int}(g:-1<=x/\x<=1)(f:-1<=l/\l<=1)(h:¬x*l<0)(e:x≠0):¬x=-l:=by rcases(show x=-1\/x=0\/x=1 by omega)with h|h|h<;>subst h<;>omega
def Ybs{x l:Int}(h:x=0):¬x*l<0:=O5
theorem crb_t{x e f:Int}(h:cs.length≠0)(g:Ck e f (cs.getD 0 Z0).2=0):Value.bool (crb (cs.map Prod.snd) (x,y) (e,f))= .bool (decide (0<chv (cs.map Prod.snd) (x,y)-chv (cs.map Prod.snd) (e,f)-1)):=by unfold crb;rw [bA,aK h,Zis O1,aM g]
theorem crb_f{x e f:Int}(h:cs.length≠0)(g:¬Ck e f (cs.getD 0 Z0).2=0):Value.bool (crb (cs.map Prod.snd) (x,y) (e,f))= .bool (decide (0<chv (cs.map Prod.snd) (x,y)-chv (cs.map Prod.snd) (e,f))):=by unfold crb;rw [bA,aK h,Zis O1,aK g,fP]
theorem ngb_t{cs:List (List Int)}(h:¬cmp a b=0)(e:aft ds a<0):Value.bool (ngb ds cs a b)= .bool true:=by unfold ngb;grind
theorem ngb_f{cs:List (List Int)}(h:¬cmp a b=0)(e:¬aft ds a<0):Value.bool (ngb ds cs a b)= .bool (crb cs a b):=by unfold ngb;grind
def Zf4:Nat->List Int->List (List Int)
 | 0,_=>[]
 | n+1,p=>if p.length=0 then []else p::Zf4 n (Xi p)
theorem Zxm{m:R2}(h:0<m.2):∀(n:Nat) (p:List Int),p.length<=n->aft (Zf4 n p) m=Dq n p (qv m)
 | 0,p,s=>rfl
 | n+1,p,s=>by
  unfold Zf4;by_cases g:p.length=0
  .have:=aC g;subst this;have f:∀n,Dq n [] (qv m)=0:=λn=>by
    induction n with
    | zero=>rfl
    | succ n j=>assumption
   rw [f];rfl
  .rw [aK g];have u:=Og p;have j:=Zxm h n (Xi p) O1;unfold aft at j ⊢;rw [bZ];unfold Zkp Dq;have l:Ck m.1 m.2 p=Er (Zi p (qv m)):=Zez h p;rw [l];by_cases f:Zi p (qv m)=0
   .simp_all [aM,Zvh,aK]
   .rw [aK (λe=>f (Zvg e)),aM f]
structure Cvd (xs:List Int):Prop where
 v:Vp xs
 s:Sz 205 xs
 l:xs.length<=11
theorem Zh0(h:Cvd xs)(e:xs≠[])(f:Dp xs r):Sz 220 r/\r.length<=11:=by obtain⟨g,j⟩:=f.sz h.v.tr e h.s (by have:=h.l;omega);exact⟨g,by have:=h.l;omega⟩
theorem Zek(h:Cvd xs)(j:xs≠[])(e:Dp xs r) :
  Vp r/\r≠[]/\(∀i,bl (cf r (i+1)*((i:Int)+1)).natAbs<=65536)/\Vp (Xi r)/\¬Zp6 r (Xi r)/\eok 13 (gA r (Xi r)) (gB r (Xi r))/\Nq 13 r (Xi r)=On 13 r/\Vp (On 13 r)/\
  Bz r (On 13 r)=0/\pdv r (On 13 r)/\Kg r (On 13 r)=sqf 13 r/\Vp (sqf 13 r)/\Sz 235 (sqf 13 r)/\(sqf 13 r).length<=11/\Dp xs (On 13 r)/\sqf 13 r≠[]/\((sqf 13 r).length≠1->(On 13 r).length<r.length)/\De 13 r:=by
 obtain⟨G,W⟩:=Zh0 h j e;have u:Vp r:=⟨G.mono O6,e.1,O1⟩;have f:=e.ok h.v.tr j h.s O6 (by have:=h.l;omega) (show xs.length<=13+1 by have:=h.l;omega);obtain⟨⟨V,I,P,D,F⟩,-,-⟩:=f.1;have R:=e.2.2.1;have n:=(chG 13 e.1 e.2.1 G O6 O1 O1).2.1;have Q:=(chG 13 e.1 e.2.1 G O6 O1 O1).2.2.1;have B:=Zlz u e.2.1 f.1.1;have H:On 13 r=Nq 13 r (Xi r):=by unfold On;grind
 have l:=e.next f.2;have w:Vp (On 13 r):=by obtain⟨t1,t2⟩:=Zh0 h j l;exact⟨t1.mono O6,l.1,O1⟩
 have s:sqf 13 r=Kg r (On 13 r):=by unfold sqf On;grind
 obtain⟨f1,f2,f3,f4,f5,f6⟩:=Ow 13 e.1 e.2.1 f.2;have g:∀i,bl (cf r (i+1)*((i:Int)+1)).natAbs<=65536:=λi=>by
  by_cases hi:i<r.length
  .grind
  .rw [Yr O1];simp [Ip]
 rw [R]at I P D F;rw [<-H]at D F;refine⟨u,e.2.1,g,Zgf u (λi _=>g i),I,P,H.symm,w,D,F,s.symm,B,n,O1,l,f3,λS=>?_,f.2⟩;refine Znl e.1 e.2.1 f.2 ?_;grind [Pp,List.length_pos_iff]
def Ix(xs:List Int):List Int:=Zr5 13 xs.length [1] (Xj xs)
structure OddI (xs:List Int) (t:Nat) (rest out before:List Int):Prop where
 ex:∃f q,Dp xs q/\q.length<=f/\Zr5 13 f out q=Ix xs/\Tr out/\Op xs out q/\((t%2=1/\rest=q)\/(t%2=0/\rest=On 13 q/\before=sqf 13 q/\(sqf 13 q).length≠1))
theorem OddI.start{b:List Int}(h:Cvd xs)(e:xs≠[]):OddI xs 1 (Xj xs) [1] b:=
 ⟨xs.length,Xj xs,Dp.start h.v.tr e,by rw [Pt h.v.tr];omega,rfl,.inr O4,Op.start h.v.tr,.inl ⟨rfl,rfl⟩⟩
theorem OddI.dp{e:List Int}(h:Cvd xs)(j:xs≠[])(g:OddI xs t rest e before):Dp xs rest:=by
 obtain⟨f,q,l,n,s,u,w,B|⟨-,rfl,-⟩⟩:=g.ex
 all_goals simp_all [Zek]
theorem OddI.out{e:List Int}(h:Cvd xs)(l:xs≠[])(u:OddI xs t rest e before):Vp e/\Sz 220 e/\e.length<=11:=by obtain⟨f,q,n,w,B,g,s,-⟩:=u.ex;obtain⟨j,D,F⟩:=s.sz h.v.tr l h.s (by have:=h.l;omega) g n.1;have:=h.l;exact⟨⟨j.mono O6,g,O1⟩,j,O1⟩
theorem OddI.odd_end{e:List Int}(h:Cvd xs)(l:xs≠[])(j:OddI xs t rest e before)(F:t%2=1)(D:(sqf 13 rest).length=1):e=Ix xs:=by
 obtain⟨f,q,n,s,g,u,w,⟨-,rfl⟩|⟨B,-⟩⟩:=j.ex
 .cases f with
  | zero=>assumption
  | succ f=>unfold Zr5 at g;grind
 omega
theorem OddI.odd_next{e:List Int}(s:OddI xs t rest e before)(B:t%2=1)(u:(sqf 13 rest).length≠1):OddI xs (t+1) (On 13 rest) e (sqf 13 rest):=by
 obtain⟨f,q,g,h,j,l,n,⟨-,rfl⟩|⟨w,-⟩⟩:=s.ex
 .exact⟨f,rest,g,h,j,l,n,.inr ⟨O1,rfl,rfl,u⟩⟩
 omega
theorem OddI.even{g:List Int}(h:Cvd xs)(u:xs≠[])(hI:OddI xs t rest g before)(ht:t%2=0) :
  Vp before/\Bz before (sqf 13 rest)=0/\pdv before (sqf 13 rest)/\Vp (Kg before (sqf 13 rest))/\¬Zar g (Kg before (sqf 13 rest))/\
  ((sqf 13 rest).length=1->Qx g (Kg before (sqf 13 rest))=Ix xs)/\((sqf 13 rest).length≠1->OddI xs (t+1) (On 13 rest) (Qx g (Kg before (sqf 13 rest))) (sqf 13 rest))/\Vp (Qx g (Kg before (sqf 13 rest))):=by
 obtain⟨f,q,j,h2,D,h4,Z,⟨h7,-⟩|⟨-,rfl,rfl,hq⟩⟩:=hI.ex
 .omega
 obtain⟨a1,a2,a3,a4,a5,a6,a7,a8,a9,a0,b0,F,G,c0,H,c5,I,l⟩:=Zek h u j;obtain⟨b1,b2,b3,b4,b5,b6,b7,b8,b9,c6,c7,c8,P,c9,n,Q,R,s⟩:=Zek h u H;obtain⟨c1,c2,Y,c4⟩:=Cy j.1 j.2.1 l s;have S:=Z.next j.1 j.2.1 j.2.2.1 l s;have ho:=h.l;obtain⟨s1,s2,s3⟩:=S.sz h.v.tr u h.s O1 (Qo _ _) n.1;obtain⟨o1,o2,o3⟩:=Z.sz h.v.tr u h.s O1 h4 j.1;have d0:(Bl 13 q).length<=11:=by have e:=aD List.length c2;grind [Ox,List.length_pos_iff]
 have B:Sz 450 (Bl 13 q):=by obtain⟨a,ha,e⟩:=S;have e2:Xj xs=Qx (Qx (Qx a (On 13 (On 13 q))) g) (Bl 13 q):=e.trans ((Qo _ _).ext (Qo _ _) λi=>Nv (λx=>by grind [Xb]) i);exact(Zz6 h.v.tr u h.s O1 (Qo _ _) Y e2).1.mono O6
 have hd:Bz (sqf 13 q) (sqf 13 (On 13 q))=0:=by
  have m1:=Qy G;have m2:=Qy P;have l1:=aH.2 Q;unfold Bz;rw [aK O1];split
  .rfl
  .have:((sqf 13 q).length-(sqf 13 (On 13 q)).length+1)*(Qc (sqf 13 (On 13 q))+1)<=12*240:=aP O1 O1;omega
 have W:Vp (Bl 13 q):=⟨B.mono O6,Y,O1⟩;have hm:¬Zar g (Bl 13 q):=λhF=>by have m1:=Qy o1;have m2:=Qy B;rcases hF.2.2 with w|w<;>omega
 refine⟨F,hd,c1,W,hm,λV=>?_,λV=>?_,⟨s1.mono O6,Qo _ _,aB s2 O1⟩⟩
 .cases f with
  | zero=>omega
  | succ f=>unfold Zr5 at D;grind
 .cases f with
  | zero=>omega
  | succ f=>
   unfold Zr5 at D;rw [aK hq,aK V]at D;have l1:=I hq;have l2:=R V;exact⟨f,On 13 (On 13 q),n,O1,D,Qo _ _,S,.inl ⟨O1,rfl⟩⟩
theorem Ygh(h:Cvd xs)(f:xs≠[]):Ix xs=Bh 13 xs.length (Xj xs):=by have e:=Dp.start h.v.tr f;have j:=h.l;have g:=(e.ok h.v.tr f h.s O6 O1 (show xs.length<=13+1 by omega)).2;unfold Ix;rw [Ycw h.v.tr f h.s O6 O1 O1 _ [1] _ (.inr (show cf [1] 0≠0 by decide)) e (by rw [Pt h.v.tr];omega),Yco (Zla xs e.1 e.2.1 g)]
theorem Zco(h:Cvd xs)(f:xs≠[]):Odp 13 205 xs (Ix xs)/\Vp (Ix xs)/\Sz 220 (Ix xs)/\(Ix xs).length<=xs.length/\Zbn (Ix xs):=by
 have g:=Dp.start h.v.tr f;have I:=h.l;have n:=(g.ok h.v.tr f h.s O6 O1 (show xs.length<=13+1 by omega)).2;have s:=Ygh h f;have j:Tr (Ix xs):=by rw [s];exact Zla xs g.1 g.2.1 n
 obtain⟨⟨B,H⟩,-⟩:=Eb h.v.tr f h.s O6 O1 (show xs.length<=13+1 by omega) xs.length (Xj xs) g (by rw [Pt h.v.tr];omega);have e:Xj xs=Qx (Qx B B) (Ix xs):=g.1.ext (Qo _ _) λi=>Nv (λx=>by grind [Xb]) i;obtain⟨l,F,u⟩:=Zz6 h.v.tr f h.s O1 (Qo _ _) j e;have D:=(chG 13 j u l O6 O1 O1).1;refine⟨⟨h.v.tr,f,h.s,O6,O1,O1,s,j,u,D⟩,⟨l.mono O6,j,O1⟩,l,F,.inr ?_⟩;have P:=Qy l;have w:((Ix xs).length+2)*((Ix xs).length+2)<=13*13:=aP O1 O1;have G:((Ix xs).length+2)*((Ix xs).length+2)*(Qc (Ix xs)+16)<=13*13*236:=aP w O1;omega
def Aj(xs:List Int):List (List Int):=if xs.length=0 then []else chn 13 (Ix xs)
def Pr(xs:List Int):List (List Int):=Zf4 xs.length xs
theorem Zxl:∀(n k:Nat) (p:List Int),Tr p->p.length<=25->Sz k p->∀q∈Zf4 n p,Tr q/\q.length<=p.length/\Sz (k+5*n) q
 | 0,_,_,_,_,_,q,e=>absurd e (by simp [Zf4])
 | n+1,k,p,f,h,hs,q,e=>by
  unfold Zf4 at e;by_cases g:p.length=0
  .grind
  .rw [aK g]at e;rcases aX.1 e with rfl|e
   .exact⟨f,aF _,hs.mono O6⟩
   .have j:=Og p;obtain⟨l,s,u⟩:=Zxl n _ _ (Nt f) O1 (Gz hs h) q e;grind
theorem Ce(h:Cvd xs):∀q∈Pr xs,Vp q/\Qc q<=6150/\q.length<=11:=λq g=>by have l:=h.l;obtain⟨f,j,e⟩:=Zxl _ 205 xs h.v.tr O1 h.s q g;have:=Qy e;exact⟨⟨e.mono O1,f,O1⟩,O1,O1⟩
theorem Zh7(h:Cvd xs):∀q∈Aj xs,Vp q/\Qc q<=6150/\q.length<=11:=λq f=>by
 have H:=h.l;unfold Aj at f;by_cases l:xs.length=0
 .grind
 .rw [aK l]at f;have j:xs≠[]:=λe=>l O5;obtain⟨g,n,s,B,D⟩:=Zco h j;obtain⟨u,F,G,w⟩:=chG 13 g.otr g.one s O6 O1 (show(Ix xs).length<=13+1 by omega);exact⟨Yhw n g.one u q f,(w q f).1,O5⟩
theorem Zlq(xs:List Int):(Aj xs).length<=1000:=by
 unfold Aj;split
 .simp
 .have:=Zbb 13 (sqf 13 (Ix xs)) (Yb (Xi (sqf 13 (Ix xs))));unfold chn;omega
theorem Zu0(g:Qc p<=6150)(h:p.length<=11)(a:bl m.1.natAbs<=5300)(b:bl m.2.natAbs<=5300):¬Ig p m.1 m.2:=λf=>by
 have e:=by show max (bl m.1.natAbs) (max (bl m.2.natAbs) 0)<=5300;omega
 have j:(p.length-1)*Qc [m.1,m.2]<=10*5300:=aP O1 e;have:=f.2;omega
def Zdz(h:Cvd xs)(a:bl m.1.natAbs<=5300)(b:bl m.2.natAbs<=5300):(∀p∈Pr xs,¬Ig p m.1 m.2)/\(∀p∈Aj xs,¬Ig p m.1 m.2):=
 ⟨λp e=>Zu0 (Ce h p e).2.1 (Ce h p e).2.2 a b,λp e=>Zu0 (Zh7 h p e).2.1 (Zh7 h p e).2.2 a b⟩
theorem Ykj(e:0<a.2)(f:0<b.2):((a.1*b.2-b.1*a.2:Int):Rat)=(qv a-qv b)*((a.2:Rat)*(b.2:Rat)):=by have g:=Gp e;have h:=Gp f;unfold qv;grind
theorem Ytj(g:0<a.2)(j:0<b.2):cmp a b<0↔qv a<qv b:=by
 have e:=Ykj g j;have l:=aT (Gp g) (Gp j);unfold cmp;rw [sign_neg_iff];constructor
 .intro h;have f:((a.1*b.2-b.1*a.2):Rat)<0:=by exact_mod_cast h
  rcases(show qv a<qv b\/qv b<=qv a by grind)with q|q
  .omega
  .have:=aE (show 0<=qv a-qv b by grind) (Rat.le_of_lt l);grind
 .intro h;have:=aT (show 0<qv b-qv a by grind) l;have f:((a.1*b.2-b.1*a.2):Rat)<0:=O5;exact_mod_cast f
theorem Ztp(f:0<a.2)(g:0<b.2):cmp a b=0↔qv a=qv b:=by
 have e:=Ykj f g;have l:=aT (Gp f) (Gp g);unfold cmp;rw [dW];constructor
 .intro h;rw [h]at e;grind [Rat.mul_eq_zero]
 .intro h;have j:((a.1*b.2-b.1*a.2):Rat)=0:=O5;exact_mod_cast j
theorem Zto(e:0<a.2)(f:0<b.2):cmp a b<=0↔qv a<=qv b:=by have g:=Ytj e f;grind [Ztp,Rat.le_of_lt,Int.le_of_lt,Int.le_of_eq]
def Ym4(e:0<m.2)(p:List Int):Ck m.1 m.2 p=Er (Zi p (qv m)):=Zez e p
theorem Ytr(h:Cvd xs)(g:xs≠[])(B:0<a.2)(j:0<b.2):crb (Aj xs) a b=true↔Za0 13 (Ix xs) (qv a) (qv b):=by
 obtain⟨f,n,s,u,w⟩:=Zco h g;unfold crb Za0 Aj;have D:∃r,chn 13 (Ix xs)=sqf 13 (Ix xs)::r:=by unfold chn Mg;split<;>exact⟨_,rfl⟩
 have F:∀m:R2,0<m.2->chv _ m=vch 13 (Ix xs) _:=λm l=>(cvc_v l);rw [Ym4 j];have G:Er _=0↔Zi _ (qv b)=0:=⟨λe=>(f.zero _).1 (Zvg e),λe=>Zvh ((f.zero _).2 e)⟩;grind
theorem Zl1(f:0<m.2):vlu (Pr xs) m=Er (Zi xs (qv m)):=by
 unfold vlu Pr;by_cases e:xs.length=0
 .have:=aC e;subst this;rfl
 .obtain⟨n,g⟩:∃n,xs.length=n+1:=⟨xs.length-1,O1⟩;unfold Zf4;simp_all [aK,Ym4]
theorem Zhf(h:Cvd xs)(f:0<a.2)(B:0<b.2)(j:qv a<=qv b):ngb (Pr xs) (Aj xs) a b=true↔Ya8 xs (qv a) (qv b):=by
 unfold ngb;by_cases l:cmp a b=0
 .rw [aM l,Zl1 f,fW];have e:=(Ztp f B).1 l;constructor
  .intro s;refine⟨qv a,kQ,j,?_⟩;rcases Po (Zi xs (qv a))with⟨u,w⟩|⟨u,w⟩|⟨u,w⟩
   all_goals omega
  .rintro⟨x,F,G,H⟩;grind [Zpi]
 .rw [aK l];have n:qv a<qv b:=by grind [Ztp]
  by_cases g:xs=[]
  .subst g;constructor
   .intro s;exact absurd s (by show ¬(decide ((0)<0) || false)=true;simp)
   .rintro⟨x,F,G,H⟩;assumption
  .obtain⟨D,I,P,Q,R⟩:=Zco h g;rw [<-D.sem n,lH,fW,Ytr h g f B,show aft (Pr xs) a=Dq _ xs _ from Zxm f _ _ (aF _)]
theorem Zxu(h:Cvd xs){m:Nat}(j:m<=100):Zdc xs m:=by refine .inr ?_;have g:=h.l;have l:=Qy h.s;have e:(xs.length+2)*(xs.length+2)<=13*13:=aP O1 O1;have f:(xs.length+2)*(xs.length+2)*(Qc xs+m+2*(xs.length-1)+32)<=13*13*357:=aP e O1;omega
theorem Zqc(h:xs.length=0):Pr xs=[]:=by unfold Pr;rw [h];rfl
theorem Ytq(h:xs.length=0):Aj xs=[]:=by unfold Aj;grind
theorem Ztt(h:xs.length≠0):Aj xs=chn 13 (Ix xs):=by unfold Aj;grind
theorem Zqd:∀(n m:Nat) (p:List Int),p.length<=n->p.length<=m->Zf4 n p=Zf4 m p
 | 0,m,p,f,g=>by
  cases m with
  | zero=>rfl
  | succ m=>unfold Zf4;grind
 | n+1,m,p,f,g=>by
  have h:=Og p;cases m with
  | zero=>unfold Zf4;grind
  | succ m=>
   unfold Zf4;by_cases e:p.length=0
   .grind
   .rw [aK e,aK e,Zqd n m _ O1 O1]
theorem Ze1(h:p.length≠0):Pr p=p::Pr (Xi p):=by have f:=Og p;unfold Pr;obtain⟨n,e⟩:∃n,p.length=n+1:=⟨p.length-1,O1⟩;rw [e,show Zf4 _ p=if p.length=0 then []else p::Zf4 n _ from rfl,aK h,Zqd n _ _ O1 (aF _)]
def Ab(M:Nat)(p:List Int):Prop:=∀i,(cf p i).natAbs<=M
def Ab.sz{n:Nat}(h:Ab M p)(e:M<2^n):Sz n p:=λi=>(Qs n _).2 (aV (h i) e)
def Ab.mono(h:Ab M p)(e:M<=N):Ab N p:=λi=>aB (h i) e
theorem Zaf(h:Ab M p)(c:Int):Ab (M*c.natAbs) (Zt p c):=λi=>by rw [Yo,bT];exact aJ _ (h i)
theorem Zuw{f:Nat->Int}{M n:Nat}(h:∀k,(f k).natAbs<=M)(e:∀k,n<=k->f k=0):∀m,(Yl f m).natAbs<=min m n*M
 | 0=>by show(0:Int).natAbs<=_;simp
 | m+1=>by
  have g:=Zuw h e m;rw [Yp];rcases aW m n with q|q
  .grind [Nat.succ_mul]
  grind
theorem Ypa{n:Nat}(e:Ab M p)(f:Ab N q)(h:p.length<=n):Ab (n*(M*N)) (Qx p q):=λi=>by
 rw [Gv];exact aB (Zuw (λk=>by rw [bT];exact aP (e k) (f _)) (λk g=>by show cf p k*_=0;rw [Yr O1,cK]) _) (aJ _ (Nat.min_le_right _ _))
theorem Ya6(e:Ab M p)(f:Ab N q):Ab (M+N) (Gb p q):=λi=>by rw [Dh];have:=e i;have:=f i;omega
theorem Yo9(e:Ab M p)(f:Ab N q):Ab (M+N) (Ek p q):=λi=>by rw [Im];have:=e i;have:=f i;omega
theorem Yfd(h:∀a∈c,Nc a):Ab (2^63) (tzl c):=λi=>by rw [Ly];obtain⟨e,f⟩:=Kb h i;show(c.getD i 0).natAbs<=_;omega
theorem Zso{n:Nat}(e:p.length<=n)(f:q.length<=n):(Gb p q).length<=n:=by unfold Gb;grind [Nat.le_trans,Ns,Xa]
theorem Ydd{n:Nat}(e:p.length<=n)(f:q.length<=n):(Ek p q).length<=n:=by unfold Ek;grind [Nat.le_trans,Ns,Xa]
theorem Yde{n m:Nat}(j:Tr p)(l:Tr q)(g:p.length<=n)(h:q.length<=m):(Qx p q).length<=n+m-1:=by
 by_cases e:p=[]
 .simp_all [Fr,bE]
 .by_cases f:q=[]
  .simp_all [Zcn,bE]
  grind [Ox]
def dN:Nat->List Int->List Int
 | 0,p=>p
 | n+1,p=>Xi (dN n p)
def axQ(o:Nat)(c:List Int):List Int:=Zt (dN o (tzl c)) (1000^o)
def sqQ(o:Nat)(c:List Int):List Int:=Qx (axQ o c) (axQ o c)
def sumQ(o:Nat)(x y z:List Int):Nat->List Int
 | 0=>[]
 | i+1=>Gb (sumQ o x y z i) (sqQ o (Zs i x y z))
def kilo(o:Nat):Int:=Zap (List.replicate o 1000)
def timC(o:Nat)(m ov T:Int):Int:=Zap (m::ov::List.replicate o T)
def oneQ(o:Nat)(m ov T:Int):List Int:=Zt [1] (timC o m ov T)
def formP(o:Nat)(m ov T:Int)(x y z:List Int):List Int:=Yb (Ek (Qx (oneQ o m ov T) (oneQ o m ov T)) (sumQ o x y z 3))
structure Sgo (fr to ov:Int) (x y z:List Int):Prop where
 t1:0<=fr
 t2:fr<to
 t3:to<=3600000
 o1:1<=ov
 o2:ov<=4294967296
 hx:∀a∈x,Nc a
 hy:∀a∈y,Nc a
 hz:∀a∈z,Nc a
 lx:1<=x.length/\x.length<=6
 ly:1<=y.length/\y.length<=6
 lz:1<=z.length/\z.length<=6
def Sgo.hc{fr e:Int}{x y:List Int}(h:Sgo fr e ov x y z)(i:Nat):∀a∈Zs i x y z,Nc a:=Il h.hx h.hy h.hz i
def Sgo.lc{fr e:Int}{x y:List Int}(h:Sgo fr e ov x y z)(i:Nat):1<=(Zs i x y z).length/\(Zs i x y z).length<=6:=Cr (p:=λl:List Int=>1<=l.length/\l.length<=6) h.lx h.ly h.lz
theorem Sgo.of{fr j:Int}{x y:List Int}(B:∀a∈x,Nc a)(D:∀a∈y,Nc a)(F:∀a∈z,Nc a)(h:Bf fr j ov x y z=true):Sgo fr j ov x y z:=by unfold Bf Yfl axB at h;simp only [aN,cF]at h;obtain⟨⟨⟨⟨⟨⟨⟨⟨l,n⟩,s⟩,u⟩,w⟩,e⟩,f⟩,g⟩,-⟩:=h;exact⟨l,n,s,u,w,B,D,F,⟨e.1.1.1,e.1.1.2⟩,⟨f.1.1.1,f.1.1.2⟩,⟨g.1.1.1,g.1.1.2⟩⟩
def Mk:Nat->Nat
 | 0=>2^63
 | 1=>5*2^63
 | _=>4*(5*2^63)
theorem Zqq(h:c.length<=6):¬25<(tzl c).length:=by grind [Ns]
def Lw(z:R2):Prop:=0<z.2/\Int.gcd z.1 z.2=1
theorem Zsj{x:Int}(e:0<y):Qi x y=(Int.gcd x y:Int):=by unfold Qi;omega
theorem Yl4 (x:Int)(e:0<y):Lw (x/Qi x y,y/Qi x y):=by have f:0<Int.gcd x y:=Int.gcd_pos_of_ne_zero_right _ O1;rw [Zsj e];refine⟨Int.ediv_pos_of_pos_of_dvd e O6 (jJ ..),?_⟩;grind [Int.gcd_ediv_gcd_ediv_gcd]
theorem Zsd(e:0<a.2)(h:¬Kc a.1 a.2):Lw (slow a):=by obtain⟨f,g,-⟩:=Zba h;have:=Yl4 a.1 e;unfold slow;grind
theorem Yl3(h:Zfe a b)(e:0<a.2)(f:0<b.2):Lw (Oo a b):=by obtain⟨j,l,-⟩:=Zba h.2;have g:0<Gn _ _*2:=eZ (Zr8 h.1 (eZ e f)) O1;have:=Yl4 (Et (a.1*b.2+b.1*a.2) (a.2*b.2)*1) g;unfold Oo;grind
structure Hv (n Q j:Nat) (W:Rat) (a b:R2):Prop where
 hQ:0<Q
 hQ2:Q<2^(2*n)
 ea:En (2^n) Q j a
 eb:En (2^n) Q j b
 wd:(qv b-qv a)*((2^j:Nat):Rat)=W
 le:qv a<=qv b
 la:Lw a
 lb:Lw b
theorem Hv.start{n:Nat}(g:0<a.2)(h:0<b.2)(l:bl a.1.natAbs<=n)(w:bl a.2.natAbs<=n)(s:bl b.1.natAbs<=n)(B:bl b.2.natAbs<=n)(u:n<=65536)(G:qv a<=qv b):∃Q,Hv n Q 0 (qv b-qv a) (slow a) (slow b):=by
 obtain⟨H,I,Z,P,s5⟩:=Zdb g l w u;obtain⟨t1,t2,t3,t4,t5⟩:=Zdb h s B u;have S:=(Qs n _).1 P;have V:=(Qs n _).1 t4;have W:=Zrq g (dH ((Qs n _).1 l));have Y:=Zrq h (dH ((Qs n _).1 s));have e:0<(slow a).2.natAbs*(slow b).2.natAbs:=iK O1 O1;have f:(slow a).2.natAbs*(slow b).2.natAbs<2^(2*n):=by rw [show 2*n=n+n by omega,bW];simp_all [iN,dH,cD]
 generalize R:(slow a).2.natAbs*(slow b).2.natAbs=Q at *;have j:((Q*2^0))=(slow a).2*(slow b).2:=by grind
 have D:En (2^n) Q 0 _:=⟨I,O11,O5,O5⟩;have F:En (2^n) Q 0 _:=⟨t2,O11,O5,O5⟩;exact⟨Q,e,f,D,F,O5,O5,Zsd g H,Zsd h t1⟩
theorem Hv.mid{n Q j B:Nat}{W:Rat}(h:Hv n Q j W a b)(Z:3*n+2+j<=B)(g:B<=65536) :
  Zfe a b/\(bl (Oo a b).1.natAbs<=B/\bl (Oo a b).2.natAbs<=B/\0<(Oo a b).2)/\qv (Oo a b)=(qv a+qv b)/2/\(bl a.1.natAbs<=B/\bl a.2.natAbs<=B/\0<a.2)/\(bl b.1.natAbs<=B/\bl b.2.natAbs<=B/\0<b.2)/\
  Hv n Q (j+1) W a (Oo a b)/\Hv n Q (j+1) W (Oo a b) b:=by
 have w:∀m,m<=B->2^m<=2^B:=λm h=>cY O1 h;have f:Q*2^(j+1)<2^B:=by have:Q*2^(j+1)<2^(2*n)*2^(j+1):=dM h.hQ2 (cD O1);rw [<-bW]at this;grind
 have l:2*2^n*(Q*2^j)<2^B:=by
  have G:Q*2^j<2^(2*n)*2^j:=dM h.hQ2 (cD O1);have V:2*2^n*(Q*2^j)<2*2^n*(2^(2*n)*2^j):=kF G (iK O1 (cD O1));have Y:2*2^n*(2^(2*n)*2^j)=2^(3*n+1+j):=by rw [<-bW,<-mH,<-bW];grind
  grind
 obtain⟨F,s,u,I,P⟩:=mid_en h.ea h.eb h.hQ f l g;obtain⟨R,S⟩:=Ynd j 0 B h.ea h.hQ h.hQ2 O1;obtain⟨r1,r2⟩:=Ynd j 0 B h.eb h.hQ h.hQ2 O1;have e:=Yl3 F h.ea.pos h.eb.pos;have D:((2^(j+1):Nat))=2*((2^j:Nat)):=O5;have H:=h.le;refine⟨F,⟨I,P,s.pos⟩,u,⟨R,S,h.ea.pos⟩,⟨r1,r2,h.eb.pos⟩,⟨h.hQ,h.hQ2,h.ea.up,s,?_,O5,h.la,e⟩,⟨h.hQ,h.hQ2,s,h.eb.up,?_,O5,e,h.lb⟩⟩
 .rw [u,D,<-h.wd];grind
 .rw [u,D,<-h.wd];grind
def Yfn{n:Nat}(h:Sz k p)(e:k<=n)(i:Nat):(cf p i).natAbs<=2^n:=aB (Ziq h i) (cY O1 e)
theorem Yqp(h:Cvd xs)(g:xs≠[]):Zac 13 xs/\∀u v:Rat,-((2^34:Nat):Rat)<=u->u<=v->v<=((2^34:Nat):Rat)->v-u<=1/((2^5000:Nat):Rat)->vch 13 xs u-vch 13 xs v<=1:=by have G:=h.l;obtain⟨j,e,D,F⟩:=chG 13 h.v.tr g h.s O6 O1 O1;have l:=Gz e O1;have f:∀n,n<=11->2<=n->Ybv (2^34) (2^225) n 5000=true:=O7;obtain⟨n,w⟩:∃n:Nat,n=225:=⟨_,rfl⟩;rw [<-w]at f;have l:Sz n (Xi (sqf 13 xs)):=O5;have B:∀i,(cf _ i).natAbs<=2^n:=λi=>Yfn e O1 i;exact⟨j,λu v=>sep_of h.v.tr g j (cD O1) (cD O1) B (λi=>Ziq l i) (λs=>f _ O1 s) u v⟩
theorem Ygd{j e w:Nat}{W:Rat}(u:1/((2^(e+1):Nat):Rat)<x)(B:x*((2^j:Nat):Rat)=W)(D:W<=((2^w:Nat):Rat)):j<e+1+w:=by
 have f:=two_pow_pos (e+1);have g:=two_pow_pos j;rcases aW j _ with q|q
 .omega
 .have hi:=fR.2 f;have h:((2^(e+1)))*((2^w))<=((2^j):Rat):=by
   have:2^(e+1)*2^w<=2^j:=by rw [<-bW];simp_all [cY]
   exact_mod_cast this
  have l:=aT (show 0<x-((2^(e+1)))⁻¹ by grind) g;have n:=aE (cS hi) (show 0<=((2^j))-((2^(e+1)))*((2^w)) by grind);have s:((2^(e+1)):Rat)⁻¹*(((2^(e+1)))*((2^w)))=((2^w)):=by grind
  grind
structure NIn (xs:List Int) (s t:Rat) (j:Nat) (a b:R2):Prop where
 ex:∃Q W,Hv 34 Q j W a b/\W<=((2^34:Nat):Rat)
 lo:s<=qv a
 hi:qv b<=t
 l0:-((2^33:Nat):Rat)<=s
 h0:t<=((2^33:Nat):Rat)
 pa:0<=Zi xs (qv a)
 pb:0<=Zi xs (qv b)
 ng:Ya8 xs (qv a) (qv b)
theorem NIn.j{hi:Rat}{j:Nat}(g:Cvd xs)(f:xs≠[])(h:NIn xs lo hi j a b):j<5035:=by obtain⟨Q,W,l,n⟩:=h.ex;obtain⟨u,hs⟩:=Yqp g f;have B:=h.lo;have D:=h.hi;have F:=h.l0;have G:=h.h0;have:=Yr0 (Zco g f).1 u (K:=2^34) (e:=5000) hs (s:=qv a) (t:=qv b) O5 O5 h.pa h.pb h.ng;exact Ygd (e:=5000) (w:=34) this l.wd n
theorem NIn.start(e:0<a.2)(f:0<b.2)(h:bl a.1.natAbs<=32)(w:bl a.2.natAbs<=32)(j:bl b.1.natAbs<=32)(B:bl b.2.natAbs<=32)(g:qv a<=qv b)(F:0<=Zi xs (qv a))(G:0<=Zi xs (qv b))(D:Ya8 xs (qv a) (qv b)) :
  NIn xs (qv a) (qv b) 0 (slow a) (slow b):=by
 obtain⟨Q,l⟩:=Hv.start (n:=34) e f O1 O1 O1 O1 O6 g;obtain⟨-,-,-,-,H⟩:=Zdb e O1 O1 O6;obtain⟨-,-,-,-,t5⟩:=Zdb f O1 O1 O6;have s:=Zrq (K:=2^33) e (aB (dH ((Qs 32 _).1 h)) O1);have u:=Zrq (K:=2^33) f (aB (dH ((Qs 32 _).1 j)) O1);exact⟨⟨Q,_,l,O5⟩,O5,O5,s.1,u.2,O5,O5,O5⟩
structure Fnd (xs:List Int) (s t:Rat) (m:R2):Prop where
 ng:Zi xs (qv m)<0
 lo:s<=qv m
 hi:qv m<=t
 b1:bl m.1.natAbs<=5200
 b2:bl m.2.natAbs<=5200
 lw:Lw m
theorem NIn.round{hi:Rat}{j:Nat}(G:Cvd xs)(R:xs≠[])(h:NIn xs lo hi j a b) :
  Zfe a b/\(bl (Oo a b).1.natAbs<=5200/\bl (Oo a b).2.natAbs<=5200/\0<(Oo a b).2)/\(bl a.1.natAbs<=5200/\bl a.2.natAbs<=5200/\0<a.2)/\(bl b.1.natAbs<=5200/\bl b.2.natAbs<=5200/\0<b.2)/\
  (vlu (Pr xs) (Oo a b)<0->Fnd xs lo hi (Oo a b))/\(¬vlu (Pr xs) (Oo a b)<0->ngb (Pr xs) (Aj xs) a (Oo a b)=true->NIn xs lo hi (j+1) a (Oo a b))/\
  (¬vlu (Pr xs) (Oo a b)<0->ngb (Pr xs) (Aj xs) a (Oo a b)=false->NIn xs lo hi (j+1) (Oo a b) b):=by
 have hj:=h.j G R;obtain⟨Q,W,s,u⟩:=h.ex;obtain⟨H,l,m3,n,I,Z,m7⟩:=s.mid (B:=5200) O1 O6;have S:=s.le;have V:=h.lo;have Y:=h.hi;have hv:=Zl1 (xs:=xs) l.2.2;have g:¬vlu (Pr xs) (Oo a b)<0->0<=Zi xs (qv (Oo a b)):=λf=>by grind [Po,Rat.le_of_lt,Rat.le_refl]
 have e:=Zhf G n.2.2 l.2.2 (show qv a<=qv _ by grind);refine⟨H,l,n,I,λf=>?_,λf F=>?_,λf F=>?_⟩
 .have:Zi xs (qv (Oo a b))<0:=by
   rcases Po (Zi xs (qv (Oo a b)))with⟨w,D⟩|⟨w,D⟩|⟨w,D⟩
   all_goals omega
  exact⟨this,O5,O5,l.1,l.2.1,Yl3 H n.2.2 I.2.2⟩
 .exact⟨⟨Q,W,Z,u⟩,V,O5,h.l0,h.h0,h.pa,g f,e.1 F⟩
 .refine⟨⟨Q,W,m7,u⟩,O5,Y,h.l0,h.h0,g f,h.pb,?_⟩;obtain⟨x,x1,x2,P⟩:=h.ng;rcases(show x<=qv (Oo a b)\/qv (Oo a b)<=x by grind)with q|q
  .have:=e.2 ⟨x,x1,q,P⟩;grind
  .exact⟨x,q,x2,P⟩
def frs(xs:List Int):Nat->R2->R2->R2×R2
 | 0,a,b=>(a,b)
 | n+1,a,b=>if ngb (Pr xs) (Aj xs) a (Oo a b)then frs xs n a (Oo a b)else frs xs n (Oo a b) b
structure E32 (a:R2):Prop where
 p:0<a.2
 b1:bl a.1.natAbs<=32
 b2:bl a.2.natAbs<=32
theorem E32.slow(h:E32 a):E32 (slow a)/\qv (Go.Sky.slow a)=qv a/\Lw (Go.Sky.slow a)/\¬Kc a.1 a.2:=by obtain⟨e,f,g,j,l⟩:=Zdb (n:=32) h.p h.b1 h.b2 O1;exact⟨⟨f,g,j⟩,l,Zsd h.p e,e⟩
theorem Zku(g:0<m.2):vlu (Pr xs) m<0↔Zi xs (qv m)<0:=by
 rw [Zl1 g];rcases Po (Zi xs (qv m))with⟨f,e⟩|⟨f,e⟩|⟨f,e⟩
 .rw [e];constructor
  .intro h;exact absurd h O4
  .intro h;grind
 .rw [e];exact⟨λ_=>f,λ_=>O4⟩
 .rw [e,f];constructor
  .intro h;exact absurd h O4
  .intro h;grind
theorem end_l(l:E32 a)(e:qv a<=qv b)(h:vlu (Pr xs) (slow a)<0):Fnd xs (qv a) (qv b) (slow a):=by obtain⟨f,g,n,s⟩:=l.slow;have j:=(Zku f.p).1 h;exact⟨j,by rw [g];exact kQ,by rw [g];exact e,aB f.b1 O4,aB f.b2 O4,n⟩
theorem end_r(l:E32 b)(e:qv a<=qv b)(h:vlu (Pr xs) (slow b)<0):Fnd xs (qv a) (qv b) (slow b):=by obtain⟨f,g,n,s⟩:=l.slow;have j:=(Zku f.p).1 h;exact⟨j,by rw [g];exact e,by rw [g];exact kQ,aB f.b1 O4,aB f.b2 O4,n⟩
theorem Ygi(n:Cvd xs)(f:E32 a)(g:E32 b)(h:qv a<=qv b)(j:¬vlu (Pr xs) (slow a)<0)(l:¬vlu (Pr xs) (slow b)<0)(s:ngb (Pr xs) (Aj xs) a b=true) :
  NIn xs (qv a) (qv b) 0 (slow a) (slow b):=by
 obtain⟨B,D,F,G⟩:=f.slow;obtain⟨t1,t2,t3,t4⟩:=g.slow;have u:¬Zi xs (qv (slow a))<0:=λe=>j ((Zku B.p).2 e);have w:¬Zi xs (qv (slow b))<0:=λe=>l ((Zku t1.p).2 e);rw [D]at u;rw [t2]at w;exact NIn.start f.p g.p f.b1 f.b2 g.b1 g.b2 h O5 O5 ((Zhf n f.p g.p h).1 s)
theorem ngb_ne(h:ngb (Pr xs) (Aj xs) a b=true):xs≠[]:=λe=>by
 subst e;unfold ngb at h;split at h
 .exact absurd h (by show ¬decide ((0:Int)<0)=true;decide)
 .exact absurd h (by show ¬(decide ((0:Int)<0) || false)=true;decide)
theorem E32.efit(h:E32 a):efit a=true:=by have:=h.b1;have:=h.b2;unfold Go.Sky.efit;exact aG O1
structure FIn (xs:List Int) (j:Nat) (a b:R2):Prop where
 ex:∃Q W,Hv 34 Q j W a b
 bj:j<=200
theorem FIn.start(e:E32 a)(f:E32 b)(g:qv a<=qv b):FIn xs 0 (slow a) (slow b):=by obtain⟨Q,h⟩:=Hv.start (n:=34) e.p f.p (aB e.b1 O4) (aB e.b2 O4) (aB f.b1 O4) (aB f.b2 O4) O1 g;exact⟨⟨Q,_,h⟩,O1⟩
theorem FIn.round{j:Nat}(h:FIn xs j a b) :
  Zfe a b/\(bl (Oo a b).1.natAbs<=5200/\bl (Oo a b).2.natAbs<=5200/\0<(Oo a b).2)/\(bl a.1.natAbs<=5200/\bl a.2.natAbs<=5200/\0<a.2)/\(bl b.1.natAbs<=5200/\bl b.2.natAbs<=5200/\0<b.2)/\
  (j<200->FIn xs (j+1) a (Oo a b)/\FIn xs (j+1) (Oo a b) b):=by
 obtain⟨Q,W,e⟩:=h.ex;have D:=h.bj;obtain⟨g,l,F,n,s,u,w⟩:=e.mid (B:=5200) O1 O1;exact⟨g,l,n,s,λf=>⟨⟨⟨Q,W,u⟩,O1⟩,⟨⟨Q,W,w⟩,O1⟩⟩⟩
theorem Yrz(g:E32 a)(j:E32 b)(f:qv a<=qv b)(hi:i<2)(h:vlu (Pr xs) ([slow a,slow b].getD i (0,0))<0):Fnd xs (qv a) (qv b) ([slow a,slow b].getD i (0,0)):=by
 rcases(show i=0\/i=1 by omega)with e|e
 .subst e;exact end_l g f h
 .subst e;exact end_r j f h
theorem Ysz(f:E32 a)(g:E32 b)(i:Nat)(hi:i<2):E32 ([slow a,slow b].getD i (0,0)):=by
 rcases(show i=0\/i=1 by omega)with e|e
 .subst e;exact f.slow.1
 .subst e;exact g.slow.1
def Ytk(e:E32 a)(f:E32 b)(h:¬0<cmp a b):qv a<=qv b:=(Zto e.p f.p).1 O1
def Zka:E32 (0,1):=⟨O4,O4,O4⟩
def Zj9:E32 (1,1):=⟨O4,O4,O4⟩
def Zh6:¬0<cmp (0,1) (1,1):=O7
def It(xs:List Int):Bool:=ngb (Pr xs) (Aj xs) (0,1) (1,1)
def slS(d:List Int):Nat->Int
 | 0=>0
 | k+1=>slS d k+Zap [d.getD k 0,(k:Int)+1]
def fsS(d:List Int)(k:Nat):Int:=if k=0 then 0 else d.getD 0 0
def qr(a b:Int):R2:=(Et a b,Gn a b)
def bgS(c:List Int):Int:=fsS (c.drop 1) (c.drop 1).length
def enS(c:List Int):Int:=slS (c.drop 1) (c.drop 1).length
def bS(ov T:Int)(x y z:List Int):Nat->List R2
 | 0=>List.replicate 3 (0,0)
 | i+1=>(bS ov T x y z i).set i (qr (bgS (Zs i x y z)) (Zap [ov,T]))
def eS(ov T:Int)(x y z:List Int):Nat->List R2
 | 0=>List.replicate 3 (0,0)
 | i+1=>(eS ov T x y z i).set i (qr (enS (Zs i x y z)) (Zap [ov,T]))
def joinB(fr h ov:Int)(x y z:List Int)(e g f:Int)(j l n:List Int):Bool:=
 decide (qr (bgS j) (Zap [f,g-e])=qr (enS x) (Zap [ov,h-fr])/\qr (bgS l) (Zap [f,g-e])=qr (enS y) (Zap [ov,h-fr])/\qr (bgS n) (Zap [f,g-e])=qr (enS z) (Zap [ov,h-fr]))
def plT(c:List Int)(a d:Int)(k:Nat):Int:=c.getD k 0*(a^k*d^(5-(k:Int)).toNat)
def plS(c:List Int)(a d:Int):Nat->Int
 | 0=>0
 | k+1=>plS c a d k+plT c a d k
def pl(c:List Int)(a d:Int):Int:=plS c a d c.length
def atS(a d:Int)(x y z:List Int):Nat->List Int
 | 0=>List.replicate 3 0
 | i+1=>(atS a d x y z i).set i (pl (Zs i x y z) a d)
def gS(ov a d:Int)(x y z:List Int):Nat->Int
 | 0=>ov*d^5
 | i+1=>(Int.gcd (gS ov a d x y z i) (pl (Zs i x y z) a d):Int)
abbrev plV (p q r o:Int):Value:= .agg #[.bool (decide (p<0)),.string (Qp p.natAbs),.bool (decide (q<0)),.string (Qp q.natAbs),.bool (decide (r<0)),.string (Qp r.natAbs),.bool (decide (o<0)),.string (Qp o.natAbs)]
theorem Bw(a d:Int)(x y z:List Int):∀i,(atS a d x y z i).length=3
 | 0=>rfl
 | i+1=>by show(List.set _ _ _).length=3;rw [bK];exact Bw a d x y z i
theorem Yo3(a d:Int)(x y z:List Int)(h:i<3):atS a d x y z i=(atS a d x y z i).set i 0:=by
 match i,h with
 | 0,_=>rfl
 | 1,_=>rfl
 | 2,_=>rfl
theorem Zu8{l:List Int}{v:Int}(h:i<l.length):(l.set i v).getD i 0=v:=by rw [aL,List.getElem?_set_self h];rfl
theorem Ycq(h:∀x∈c,Nc x){a:Int}(j:0<=a/\a<=3600000)(l:1<=d/\d<=3600000)(n:k<=5):(a^k*d^(5-(k:Int)).toNat).natAbs<=3600000^5/\(plT c a d k).natAbs<=9223372036854775808*3600000^5:=by
 have e:(a^k*d^(5-(k:Int)).toNat).natAbs<=3600000^5:=by rw [bT,kG,kG];refine aB (aP (gM (show a.natAbs<=3600000 by omega) k) (gM (show d.natAbs<=3600000 by omega) _)) ?_;rw [<-bW,show k+(5-(k:Int)).toNat=5 by omega];exact aF _
 obtain⟨f,g⟩:=Kb h k;refine⟨e,?_⟩;unfold plT;rw [bT];exact aP O1 e
theorem Ycs{c:List Int}(h:∀x∈c,Nc x){a d:Int}(e:0<=a/\a<=3600000)(f:1<=d/\d<=3600000):∀k,k<=6->(plS c a d k).natAbs<=k*(9223372036854775808*3600000^5)
 | 0,_=>by show(0:Int).natAbs<=_;decide
 | k+1,g=>by have j:=Ycs h e f k O1;have:=(Ycq h e f (k:=k) O1).2;show(plS c a d k+plT c a d k).natAbs<=_;rw [dG];omega
def Zd4(h:∀x∈c,Nc x){a:Int}(f:0<=a/\a<=3600000)(g:1<=d/\d<=3600000)(e:k<=6):bl (plS c a d k).natAbs<=180:=
 (Qs 180 _).2 (aV (Ycs h f g k e) (aV (aJ _ e) O4))
theorem Zt3(h:∀x∈c,Nc x){a:Int}(g:0<=a/\a<=3600000)(j:1<=d/\d<=3600000)(l:k<=5):bl (a^k*d^(5-(k:Int)).toNat).natAbs<=180/\bl (plT c a d k).natAbs<=180:=by obtain⟨e,f⟩:=Ycq h g j l;exact⟨(Qs 180 _).2 (aV e O4),(Qs 180 _).2 (aV f O4)⟩
theorem Zjk (a:Int)(f:0<=a/\a<=3600000)(e:k<=5):bl (a^k).natAbs<=180:=by refine(Qs 180 _).2 ?_;rw [kG];exact aV (aB (gM (show a.natAbs<=3600000 by omega) k) (cY O4 e)) O4
theorem Znn{fr l ov:Int}{x y z:List Int}(h:Sgo fr l ov x y z){a d:Int}(e:0<=a/\a<=3600000)(f:1<=d/\d<=3600000):∀i,0<gS ov a d x y z i/\bl (gS ov a d x y z i).natAbs<=180
 | 0=>by have g:=h.o1;have j:=h.o2;refine⟨eZ O1 (jD O1),(Qs 180 _).2 ?_⟩;show(ov*d^5).natAbs<_;rw [bT,kG];exact aV (aP (show ov.natAbs<=4294967296 by omega) (gM (show d.natAbs<=3600000 by omega) 5)) O4
 | i+1=>by obtain⟨g,j⟩:=Znn h e f i;have n:0<Int.gcd (gS ov a d x y z i) (pl (Zs i x y z) a d):=kB _ O1;have s:=Zic (gS ov a d x y z i) (pl (Zs i x y z) a d);have u:bl (pl (Zs i x y z) a d).natAbs<=180:=Zd4 (h.hc i) e f (h.lc i).2;show 0<((Int.gcd _ _:Nat):Int)/\bl ((Int.gcd _ _:Nat):Int).natAbs<=180;exact⟨O1,O1⟩
def Yjj(ov a d:Int)(x y z:List Int)(e g f:Int)(h j l:List Int):Bool:=
 decide (pl x a d/gS ov a d x y z 3=pl h g f/gS e g f h j l 3/\pl y a d/gS ov a d x y z 3=pl j g f/gS e g f h j l 3/\pl z a d/gS ov a d x y z 3=pl l g f/gS e g f h j l 3/\ov*d^5/gS ov a d x y z 3=e*f^5/gS e g f h j l 3)
def Zj7(g ov:Int)(x y z:List Int)(e f:Int)(h j l:List Int):Bool:=decide (g=e) && Yjj ov 1 1 x y z f 0 1 h j l
structure Gin (g:Zk):Prop where
 f:Nc g.1.1
 t:Nc g.1.2.1
 o:Nc g.1.2.2
 x:∀a∈g.2.1.2,Nc a
 y:∀a∈g.2.2.1.2,Nc a
 z:∀a∈g.2.2.2.2,Nc a
def seB(g:Zk):Bool:=Bf g.1.1 g.1.2.1 g.1.2.2 g.2.1.2 g.2.2.1.2 g.2.2.2.2
def meG(g h:Zk):Bool:=Zj7 g.1.2.1 g.1.2.2 g.2.1.2 g.2.2.1.2 g.2.2.2.2 h.1.1 h.1.2.2 h.2.1.2 h.2.2.1.2 h.2.2.2.2
abbrev SgG (g:Zk):Prop:=Sgo g.1.1 g.1.2.1 g.1.2.2 g.2.1.2 g.2.2.1.2 g.2.2.2.2
theorem Oj{g:Zk}(h:Gin g)(e:seB g=true):SgG g:=Sgo.of h.x h.y h.z e
def Ze4(ps:List Zk)(i:Nat):Bool:=seB (ps.getD i G0) && (decide (i=0) || meG (ps.getD (i-1) G0) (ps.getD i G0))
def Yf(ps:List Zk):Bool:=(List.range ps.length).all (Ze4 ps) && decide (1<=ps.length) && decide (ps.length<=256)
theorem Nx{ps:List Zk}(h:Ze4 ps i=true):seB (ps.getD i G0)=true:=by unfold Ze4 at h;rw [aN]at h;exact h.1
theorem Yle{ps:List Zk}(h:seB (ps.getD i G0)=false):Ze4 ps i=false:=by unfold Ze4;rw [h];rfl
theorem Ylf{ps:List Zk}(h:seB (ps.getD i G0)=true)(e:i=0):Ze4 ps i=true:=by unfold Ze4;rw [h,aG e];rfl
theorem Zdn{ps:List Zk}(h:seB (ps.getD i G0)=true)(e:0<i):Ze4 ps i=meG (ps.getD (i-1) G0) (ps.getD i G0):=by unfold Ze4;rw [h,aI O1];rfl
theorem Zhb (i:Nat){ps:List Zk}(hi:i<ps.length)(h:Ze4 ps i=false):Yf ps=false:=by
 unfold Yf;have:(List.range ps.length).all (Ze4 ps)=false:=by
  cases hb:(List.range ps.length).all (Ze4 ps)with
  | false=>rfl
  | true=>have:=cI.1 hb i (fX.2 hi);rw [h]at this;cases this
 rw [this];rfl
theorem Zlb{ps:List Zk}(h:∀i,i<ps.length->Ze4 ps i=true):Yf ps=decide (1<=ps.length/\ps.length<=256):=by unfold Yf;rw [cI.2 λi hi=>h i (fX.1 hi)];simp
theorem Zph(g:Zk)(i:Nat):seB g=false\/(seB g=true/\i=0)\/(seB g=true/\0<i):=by
 cases seB g
 .exact .inl rfl
 .exact .inr (by rcases aU i with h|h;exact .inl ⟨rfl,h⟩;exact .inr ⟨rfl,h⟩)
theorem Qd{ps:List Zk}(h:Yf ps=true):(∀i,i<ps.length->Ze4 ps i=true)/\1<=ps.length/\ps.length<=256:=by unfold Yf at h;simp only [aN,cF]at h;exact⟨λi hi=>cI.1 h.1.1 i (fX.2 hi),h.1.2,h.2⟩
open Go.ChangeShapes Go.WideShapes Go.ChangeAt Go.RowKit Go.Joins Go.Deep
open Go.Proofs
variable {P:Program} {W:World} {H:Type} {enc:TypeId×Value->H}
theorem Zz1{n:Int}(h:(Lit.int .i64 n).wf=true):Nc n:=by simp [Lit.wf,IntKind.has,IntKind.min,IntKind.max,IntKind.bits,IntKind.signed]at h;exact⟨O1,O1⟩
theorem Yhh{w:World}{a:Addr}(h:w.cell? a=some v):a.spot=none/\a.block<w.heap.size:=by
 unfold World.cell? at h;split at h
 .rename_i c t f e;refine⟨?_,(aS.1 e).1⟩;cases hs:a.spot with
  | none=>rfl
  | some x=>rw [hs]at h;simp at h
 .cases h
theorem Zi7{t e:TypeId}{c:Value}{x:DataW H×List MemPlace}(hs:P.underlying t=some (.slice e))(he:P.underlying e=some (.int .i64))(hc:P.cellsOf e=1)(h:DataW.trod enc P W 0 (λ_=>true) true fuel t [c]=some x) :
  ∃(s:SL) (l:List Int),c=Xk s/\(Yx 1 Yj (Xk s) l).holds W/\∀a∈l,Nc a:=by
 rcases open_ints hs he hc h with⟨F,_⟩|⟨a,f,n,zs,F,_,hl,hm,hz,_,w,a1⟩
 .cases F;exact⟨(none,0,0),[],rfl,Ag 1 Yj W,λx S=>by cases S⟩
 .cases F;have a2:zs.length=n:=by simpa using hz
  have G:(zs.take f).length=f:=by rw [cL];omega
  by_cases hn:f=0
  .subst hn;exact⟨(some a,0,n),[],rfl,⟨⟨some a,n,rfl,hl,hm,.inl rfl⟩,λb V=>absurd rfl V.1⟩,λx S=>by cases S⟩
  .have c0:=w 0 O1;obtain⟨g,B,D⟩:=a;rw [show(⟨g,B,D⟩:Addr).add 0=⟨g,B,D⟩from rfl]at c0;obtain⟨R,Q⟩:=Yhh c0;simp only at R Q;subst R;refine⟨(some ⟨g,B,none⟩,f,n),zs.take f,rfl,⟨⟨some ⟨g,B,none⟩,n,by rw [G],by rw [G];exact hl,hm,.inr ⟨g,B,rfl,λi x hi j u Z=>?_⟩⟩,λb V=>by cases V.2;exact Q⟩,λx S=>?_⟩
   .have Y:i<f:=by
     rcases aW i f with h|h
     .exact h
     .rw [bX (by rw [G];exact h)]at hi;cases hi
    have a0:j=0:=by
     rcases j with _|j
     .rfl
     .simp [Value.cells]at Z
    subst a0;have I:=w i O1;rw [Ov]at I;rw [List.getElem?_take_of_lt Y]at hi;rw [aL,hi]at I;simp [Value.cells]at Z;subst Z;simpa using I
   .have I:=a1 x (fG S);have h3:=bounds_i64 I;exact⟨O1,O1⟩
theorem Yfx {t e:TypeId} {f0 f1 f2 f3 f4 f5:Field} {cs:List Value}  {x:DataW H×List MemPlace} (ht:P.underlying t=some (.struct #[f0,f1,f2,f3,f4,f5]))
  (h0:f0.type=ti) (h1:f1.type=ti) (h2:f2.type=ti) (h3:f3.type=ts) (h4:f4.type=ts) (h5:f5.type=ts) (o0:f0.offset=0) (o1:f1.offset=1) (o2:f2.offset=2) (o3:f3.offset=3) (o4:f4.offset=4) (o5:f5.offset=5)
  (hi:P.underlying ti=some (.int .i64)) (hs:P.underlying ts=some (.slice e)) (B:P.underlying e=some (.int .i64)) (w:P.cellsOf e=1) (j:P.cellsOf ti=1) (l:P.cellsOf ts=1) (hC:P.cellsOf t=6)
  (h:DataW.trod enc P W 0 (λ_=>true) true fuel t cs=some x):∃g:Zk,cs=[.int .i64 g.1.1,.int .i64 g.1.2.1,.int .i64 g.1.2.2,Xk g.2.1.1,Xk g.2.2.1.1,Xk g.2.2.2.1]/\(qG g).holds W/\Gin g:=by
 obtain⟨xs,n,_,hx,hl,s,f⟩:=DataW.trod_struct ht h;rw [hC]at hl
 match cs,hl with
 | [c0,c1,c2,c3,c4,c5],_=>
 match xs,s with
 | [y0,y1,y2,y3,y4,y5],_=>
 have S:=f 0 f0 rfl;have V:=f 1 f1 rfl;have Y:=f 2 f2 rfl;have Z:=f 3 f3 rfl;have e4:=f 4 f4 rfl;have e5:=f 5 f5 rfl;rw [h0,o0,j]at S;rw [h1,o1,j]at V;rw [h2,o2,j]at Y;rw [h3,o3,l]at Z;rw [h4,o4,l]at e4;rw [h5,o5,l]at e5;obtain⟨m0,q0,w0⟩:=DataW.trod_int hi S;obtain⟨m1,q1,w1⟩:=DataW.trod_int hi V;obtain⟨m2,q2,w2⟩:=DataW.trod_int hi Y;obtain⟨sx,x,rfl,D,F⟩:=Zi7 (enc:=enc) hs B w (c:=c3) (x:=y3) Z;obtain⟨sy,y,rfl,G,I⟩:=Zi7 (enc:=enc) hs B w (c:=c4) (x:=y4) e4;obtain⟨sz,z,rfl,Q,R⟩:=Zi7 (enc:=enc) hs B w (c:=c5) (x:=y5) e5;simp at q0 q1 q2;subst q0;subst q1;subst q2;exact⟨((m0,m1,m2),(sx,x),(sy,y),(sz,z)),rfl,λu hu=>by
  simp only [aX,cM,fO]at hu;rcases hu with rfl|rfl|rfl
  .exact D
  .exact G
  .exact Q,⟨Zz1 w0.2,Zz1 w1.2,Zz1 w2.2,F,I,R⟩⟩
theorem Zpx {t0 t e:TypeId} {f0 f1 f2 f3 f4 f5:Field}  {d:DataW H} {p:List MemPlace} (l:P.underlying t0=some (.slice t)) (ht:P.underlying t=some (.struct #[f0,f1,f2,f3,f4,f5]))
  (h0:f0.type=ti) (h1:f1.type=ti) (h2:f2.type=ti) (h3:f3.type=ts) (h4:f4.type=ts) (h5:f5.type=ts) (o0:f0.offset=0) (o1:f1.offset=1) (o2:f2.offset=2) (o3:f3.offset=3) (o4:f4.offset=4) (o5:f5.offset=5)
  (hi:P.underlying ti=some (.int .i64)) (hs:P.underlying ts=some (.slice e)) (he:P.underlying e=some (.int .i64)) (hc:P.cellsOf e=1) (S:P.cellsOf ti=1) (V:P.cellsOf ts=1) (hC:P.cellsOf t=6)
  {r:Reach} {b0:Nat} (hv:Value.okWide P W r b0 t0 v) (h:DataW.Trod enc P W 0 (λ_=>true) true t0 v d p):∃ps:List Zk,(Xn 6 Xv qG v ps).holds W/\∀g∈ps,Gin g:=by
 obtain⟨a0,Q,a7,rfl⟩:=okWide_slice l hv;obtain⟨fuel,hf⟩:=h;rcases open_slice l hf with⟨F,_⟩|⟨a,a5,a4,m,n,D,Pl,F,_,hl,hm,B,hx,Y⟩
 .simp [Value.cells]at F;obtain⟨rfl,rfl,rfl⟩:=F;exact⟨[],⟨Ag 6 Xv W,λz hz=>by cases hz⟩,λg w=>by cases w⟩
 .simp [Value.cells]at F;obtain⟨rfl,rfl,rfl⟩:=F;simp at B;subst B
  haveI:Inhabited Zk:=⟨G0⟩
  obtain⟨xs,a2,I⟩:=Zkc (p:=λi (g:Zk)=>W.cells? 0 (a.add (i*6)) 6=some [.int .i64 g.1.1,.int .i64 g.1.2.1,.int .i64 g.1.2.2,Xk g.2.1.1,Xk g.2.2.1.1,Xk g.2.2.2.1]/\(qG g).holds W/\Gin g) Q λi f=>by obtain⟨a8,k2,k3⟩:=Y i O1;rw [hC]at k2;obtain⟨g,rfl,k4,k5⟩:=Yfx ht h0 h1 h2 h3 h4 h5 o0 o1 o2 o3 o4 o5 hi hs he hc S V hC k3;exact⟨g,k2,k4,k5⟩
  have s:∀g∈xs,(qG g).holds W/\Gin g:=λg w=>by obtain⟨i,f,rfl⟩:=jU w;exact(I i _ (aO f)).2
  refine⟨xs,⟨⟨⟨some a,m,by rw [a2],O1,hm,?_⟩,λb hb=>?_⟩,λg w=>(s g w).1⟩,λg w=>(s g w).2⟩
  .rcases aU Q with hz|hz
   .exact .inl (aC O1)
   .right;obtain⟨g,a3,a6⟩:=a;obtain⟨G,_⟩:=Zm1 l hv;simp only at G;subst G;refine⟨g,a3,rfl,λi x f j u Z=>?_⟩;obtain⟨_,_,R⟩:=World.cells?_some (I i x f).1;have a1:j<6:=by
     rcases aW j 6 with h|h
     .exact h
     .rw [bX (by simp [Value.cells];omega)]at Z;cases Z
    have:=R j a1;simp only [Ov]at this;rw [this];simpa [Value.cells]using Z
  .cases hb.2;exact(Zm1 l hv).2
end Go.Sky
namespace Go.Proofs.YteikicbnfbgpnaaGreat
open Go Go.Joins Go.Sky
def Kj{a b:Bool}(h:a=true)(c:b=true):(a && b)=true:=by rw [h,c];rfl
def cf0:(λ(P:Program) (f:FuncId) (fn:Func) (s:ChangeSpec) (c:OpenClaim)=>c.wf (OpenSpec.ofChange s)) Tryz.checked.prog 9 Tryz.f9 Rows.separateApartSpec Rows.separateApartRow=true:=O8
def cf1:(λ(P:Program) (f:FuncId) (fn:Func) (s:ChangeSpec) (c:OpenClaim)=>laidOutB P) Tryz.checked.prog 9 Tryz.f9 Rows.separateApartSpec Rows.separateApartRow=true:=O8
def cf2:(λ(P:Program) (f:FuncId) (fn:Func) (s:ChangeSpec) (c:OpenClaim)=>mapsRowed P) Tryz.checked.prog 9 Tryz.f9 Rows.separateApartSpec Rows.separateApartRow=true:=O8
def cf3:(λ(P:Program) (f:FuncId) (fn:Func) (s:ChangeSpec) (c:OpenClaim)=>fn.params.all (P.readableRec ·)) Tryz.checked.prog 9 Tryz.f9 Rows.separateApartSpec Rows.separateApartRow=true:=O8
def cf4:(λ(P:Program) (f:FuncId) (fn:Func) (s:ChangeSpec) (c:OpenClaim)=>namedTie P c.named s.vars) Tryz.checked.prog 9 Tryz.f9 Rows.separateApartSpec Rows.separateApartRow=true:=O8
def cf5:(λ(P:Program) (f:FuncId) (fn:Func) (s:ChangeSpec) (c:OpenClaim)=>c.stops == []) Tryz.checked.prog 9 Tryz.f9 Rows.separateApartSpec Rows.separateApartRow=true:=O8
def cf6:(λ(P:Program) (f:FuncId) (fn:Func) (s:ChangeSpec) (c:OpenClaim)=>P.stops == []) Tryz.checked.prog 9 Tryz.f9 Rows.separateApartSpec Rows.separateApartRow=true:=O8
def cf7:(λ(P:Program) (f:FuncId) (fn:Func) (s:ChangeSpec) (c:OpenClaim)=>c.knobs == []) Tryz.checked.prog 9 Tryz.f9 Rows.separateApartSpec Rows.separateApartRow=true:=O8
def cf8:(λ(P:Program) (f:FuncId) (fn:Func) (s:ChangeSpec) (c:OpenClaim)=>P.stopKnobs == []) Tryz.checked.prog 9 Tryz.f9 Rows.separateApartSpec Rows.separateApartRow=true:=O8
def cf9:(λ(P:Program) (f:FuncId) (fn:Func) (s:ChangeSpec) (c:OpenClaim)=>c.inPlace == P.inPlace f) Tryz.checked.prog 9 Tryz.f9 Rows.separateApartSpec Rows.separateApartRow=true:=O8
def cf10:(λ(P:Program) (f:FuncId) (fn:Func) (s:ChangeSpec) (c:OpenClaim)=>c.unfollowed == P.unfollowed f) Tryz.checked.prog 9 Tryz.f9 Rows.separateApartSpec Rows.separateApartRow=true:=O8
def cf11:(λ(P:Program) (f:FuncId) (fn:Func) (s:ChangeSpec) (c:OpenClaim)=>c.recurses == P.recurses f) Tryz.checked.prog 9 Tryz.f9 Rows.separateApartSpec Rows.separateApartRow=true:=O8
def cf12:(λ(P:Program) (f:FuncId) (fn:Func) (s:ChangeSpec) (c:OpenClaim)=>c.named == P.varsNamed f) Tryz.checked.prog 9 Tryz.f9 Rows.separateApartSpec Rows.separateApartRow=true:=O8
def cf13:(λ(P:Program) (f:FuncId) (fn:Func) (s:ChangeSpec) (c:OpenClaim)=>(c.maps == (fn.params.toList ++ s.plain.varTypes P).any (P.mapsRec ·))) Tryz.checked.prog 9 Tryz.f9 Rows.separateApartSpec Rows.separateApartRow=true:=O8
def cf14:(λ(P:Program) (f:FuncId) (fn:Func) (s:ChangeSpec) (c:OpenClaim)=>(c.ifaces == (fn.params.toList ++ s.plain.varTypes P).any (P.ifacesRec ·))) Tryz.checked.prog 9 Tryz.f9 Rows.separateApartSpec Rows.separateApartRow=true:=O8
def cf15:(λ(P:Program) (f:FuncId) (fn:Func) (s:ChangeSpec) (c:OpenClaim)=>c.mapsOut == P.mapsAmong fn.resultTypes.toList) Tryz.checked.prog 9 Tryz.f9 Rows.separateApartSpec Rows.separateApartRow=true:=O8
def cf16:(λ(P:Program) (f:FuncId) (fn:Func) (s:ChangeSpec) (c:OpenClaim)=>(c.loops == (fn.params.toList ++ s.plain.varTypes P).any (P.loopsFrom ·))) Tryz.checked.prog 9 Tryz.f9 Rows.separateApartSpec Rows.separateApartRow=true:=O8
def cf17:(λ(P:Program) (f:FuncId) (fn:Func) (s:ChangeSpec) (c:OpenClaim)=>(c.wideKeys == (fn.params.toList ++ s.plain.varTypes P ++ fn.resultTypes.toList).any (P.wideKeysFrom ·))) Tryz.checked.prog 9 Tryz.f9 Rows.separateApartSpec Rows.separateApartRow=true:=O8
def cf18:(λ(P:Program) (f:FuncId) (fn:Func) (s:ChangeSpec) (c:OpenClaim)=>s.vars.all (P.varReadable ·)) Tryz.checked.prog 9 Tryz.f9 Rows.separateApartSpec Rows.separateApartRow=true:=O8
def cf19:(λ(P:Program) (f:FuncId) (fn:Func) (s:ChangeSpec) (c:OpenClaim)=>fn.resultTypes.all (λt=>P.readableRec t && decide (t<P.types.size))) Tryz.checked.prog 9 Tryz.f9 Rows.separateApartSpec Rows.separateApartRow=true:=O8
def cf20:(λ(P:Program) (f:FuncId) (fn:Func) (s:ChangeSpec) (c:OpenClaim)=>(c.ifacesOut == fn.resultTypes.toList.any (P.ifacesRec ·))) Tryz.checked.prog 9 Tryz.f9 Rows.separateApartSpec Rows.separateApartRow=true:=O8
def cf21:(λ(P:Program) (f:FuncId) (fn:Func) (s:ChangeSpec) (c:OpenClaim)=>(c.loopsOut == fn.resultTypes.toList.any (P.loopsFrom ·))) Tryz.checked.prog 9 Tryz.f9 Rows.separateApartSpec Rows.separateApartRow=true:=O8
def cf22:(λ(P:Program) (f:FuncId) (fn:Func) (s:ChangeSpec) (c:OpenClaim)=>c.plainKeys == P.plainKeys) Tryz.checked.prog 9 Tryz.f9 Rows.separateApartSpec Rows.separateApartRow=true:=O8
def cf23:(λ(P:Program) (f:FuncId) (fn:Func) (s:ChangeSpec) (c:OpenClaim)=>c.shortTexts.isNone) Tryz.checked.prog 9 Tryz.f9 Rows.separateApartSpec Rows.separateApartRow=true:=O8
def cf24:(λ(P:Program) (f:FuncId) (fn:Func) (s:ChangeSpec) (c:OpenClaim)=>P.stopsHeard) Tryz.checked.prog 9 Tryz.f9 Rows.separateApartSpec Rows.separateApartRow=true:=O8
def cf25:(λ(P:Program) (f:FuncId) (fn:Func) (s:ChangeSpec) (c:OpenClaim)=>P.mayEnter) Tryz.checked.prog 9 Tryz.f9 Rows.separateApartSpec Rows.separateApartRow=true:=O8
def cf26:(λ(P:Program) (f:FuncId) (fn:Func) (s:ChangeSpec) (c:OpenClaim)=>c.lifted == P.liftsFinal) Tryz.checked.prog 9 Tryz.f9 Rows.separateApartSpec Rows.separateApartRow=true:=O8
def cf27:(λ(P:Program) (f:FuncId) (fn:Func) (s:ChangeSpec) (c:OpenClaim)=>P.make == some c.make) Tryz.checked.prog 9 Tryz.f9 Rows.separateApartSpec Rows.separateApartRow=true:=O8
def cf28:(λ(P:Program) (f:FuncId) (fn:Func) (s:ChangeSpec) (c:OpenClaim)=>c.kinds == (if c.domain.isEmpty then []else fn.params.toList.map λt=>match P.underlying t with|some (.int k)=>some k|_=>none)) Tryz.checked.prog 9 Tryz.f9 Rows.separateApartSpec Rows.separateApartRow=true:=O8
def cf29:(λ(P:Program) (f:FuncId) (fn:Func) (s:ChangeSpec) (c:OpenClaim)=>c.pinned == c.pinnedBy) Tryz.checked.prog 9 Tryz.f9 Rows.separateApartSpec Rows.separateApartRow=true:=O8
def cf30:(λ(P:Program) (f:FuncId) (fn:Func) (s:ChangeSpec) (c:OpenClaim)=>(c.veiled == (fn.params.toList ++ s.plain.varTypes P ++ fn.resultTypes.toList).any (P.veiledRec ·))) Tryz.checked.prog 9 Tryz.f9 Rows.separateApartSpec Rows.separateApartRow=true:=O8
def cf31:(λ(P:Program) (f:FuncId) (fn:Func) (s:ChangeSpec) (c:OpenClaim)=>c.veiledFits P fn.params.toList (fn.params.toList ++ s.plain.varTypes P ++ fn.resultTypes.toList)) Tryz.checked.prog 9 Tryz.f9 Rows.separateApartSpec Rows.separateApartRow=true:=O8
set_option maxRecDepth 100000 in
def closed:joinedFacts Tryz.checked.prog 9 Tryz.f9 Rows.separateApartSpec Rows.separateApartRow=true:=(Kj (Kj (Kj (Kj (Kj (Kj (Kj (Kj (Kj (Kj (Kj (Kj (Kj (Kj (Kj (Kj (Kj (Kj (Kj (Kj (Kj (Kj (Kj (Kj (Kj (Kj (Kj (Kj (Kj (Kj (Kj cf0 cf1) cf2) cf3) cf4) cf5) cf6) cf7) cf8) cf9) cf10) cf11) cf12) cf13) cf14) cf15) cf16) cf17) cf18) cf19) cf20) cf21) cf22) cf23) cf24) cf25) cf26) cf27) cf28) cf29) cf30) cf31)
end Go.Proofs.YteikicbnfbgpnaaGreat
namespace Go.Sky
variable {P:Program} {N:Nat} {sc:Nat->Prop} {env env':Pw} {H H':Hp} {Q Q':Exit->Act->World->Prop} {M:Nat->Prop}
@[reducible] def lk2 {α:Type} : List (Nat×α)->Nat->Option α
 | [],_=>none
 | (k,v)::r,n=>match Nat.beq k n with
  | true=>some v
  | false=>lk2 r n
theorem Zzu{α:Type} : ∀(e:List (Nat×α)) (n:Nat),lk2 e n=lk e n
 | [],_=>rfl
 | (k,v)::r,n=>by unfold lk2 lk;cases Nat.beq k n<;>simp [Zzu r n]
@[reducible] def ev2 (e:Pw):Operand->Option Value
 | .tmp t=>lk2 e t
 | .const v=>some v
 | .global g=>some (.pointer (some ⟨g,0,none⟩))
 | .func f=>some (.func (.func f) #[] #[])
theorem ev2_eq(e:Pw)(x:Operand):ev2 e x=ev e x:=by cases x<;>simp [ev2,ev,Zzu]
@[reducible] def nth {α:Type} : List α->Nat->Option α
 | [],_=>none
 | x::r,n=>match n with
  | 0=>some x
  | n+1=>nth r n
theorem Zzn{α:Type} : ∀(l:List α) (n:Nat),nth l n=l[n]?
 | [],n=>by rfl
 | x::r,0=>by rfl
 | x::r,n+1=>by simp [nth,Zzn r n]
@[reducible] def ltb (a b:Nat):Bool:=match Nat.ble b a with
 | true=>false
 | false=>true
theorem Ny{a b:Nat}(h:ltb a b=true):Nat.blt a b=true:=by
 cases hb:Nat.ble b a with
 | true=>grind
 | false=>
  have c:¬b<=a:=λd=>by grind [Nat.ble_eq_true_of_le]
  simp_all
@[reducible] def neb (a b:Nat):Bool:=match Nat.beq a b with
 | true=>false
 | false=>true
theorem Zcp{a b:Nat}(h:neb a b=true):a≠b:=λe=>by grind [Nat.beq_refl]
class Som {α:Type} (a:Option α) (b:outParam α):Prop where h:a=some b
instance {α:Type} {b:α} : Som (some b) b:=⟨rfl⟩
class TB (a:Bool):Prop where h:a=true
instance:TB true:=⟨rfl⟩
def Som.e{x:Operand}{v:Value}(h:Som (ev2 env x) v):ev env x=some v:=(ev2_eq env x).symm.trans h.h
def Som.l{α:Type}{e:List (Nat×α)}{n:Nat}{v:α}(h:Som (lk2 e n) v):lk e n=some v:=(Zzu e n).symm.trans h.h
theorem Som.n{α:Type}{l:List α}{n:Nat}{v:α}(h:Som (nth l n) v):l.toArray[n]? = some v:=by have:=(Zzn l n).symm.trans h.h;simpa using this
class AndO (s q:Prop) (r:outParam Prop):Prop where h:r->s/\q
instance (priority:=low) {s q:Prop} : AndO s q (s/\q):=⟨id⟩
instance {q:Prop} : AndO True q q:=⟨λh=>⟨aA,h⟩⟩
class Und (P:Program) (t:TypeId) (d:outParam TypeDesc):Prop where h:P.underlying t=some d
class Siz (P:Program) (t:TypeId) (k:outParam Nat):Prop where h:∀w,(sizeOf t).run P w= .ok k w
class Agg (P:Program) (t:TypeId) (b:outParam Bool):Prop where h:∀w,(isAgg t).run P w= .ok b w
class EncT {α:Type} (P:Program) (t:TypeId) (k:Nat) (enc:α->Value):Prop where h:Enc P t k enc
class RdI (P:Program) (H:Hp) (v:Value) (i:outParam Nat) {α:outParam Type} (k:outParam Nat) (enc:outParam (α->Value)) (xs:outParam (List α)):Prop where
 h:∃p,lk H i=some p/\Rd p k enc v xs
instance {α:Type} {v:Value} {i k:Nat} {enc:α->Value} {xs:List α} : RdI P ((i,Yx k enc v xs)::H) v i k enc xs:=⟨_,Ys _ _ _,Zr⟩
instance {α:Type} {v:Value} {i k:Nat} {enc:α->Value} {xs:List α} {e:TypeId} [h:EncT P e k enc]:RdI P ((i,Oe k e enc v xs)::H) v i k enc xs:=⟨_,Ys _ _ _,Zz h.h⟩
instance {β:Type} {v:Value} {i k:Nat} {enc:β->Value} {q:β->Pc} {zs:List β} : RdI P ((i,Xn k enc q v zs)::H) v i k enc zs:=⟨_,Ys _ _ _,Zc⟩
instance (priority:=low) {α:Type} {v:Value} {i j k:Nat} {p:Pc} {enc:α->Value} {xs:List α} [h:RdI P H v i k enc xs] [hn:TB (neb j i)]:RdI P ((j,p)::H) v i k enc xs:=
 ⟨by obtain⟨q,h1,h2⟩:=h.h;exact⟨q,by rw [Zx _ _ (Zcp hn.h)];exact h1,h2⟩⟩
class BxI (H:Hp) (b:Nat) (i:outParam Nat) (t:outParam TypeId) (l:outParam (List Value)):Prop where h:lk H i=some (box b t l.toArray)
instance {b i:Nat} {t:TypeId} {l:List Value} : BxI ((i,box b t l.toArray)::H) b i t l:=⟨Ys _ _ _⟩
instance (priority:=low) {b i j:Nat} {t:TypeId} {p:Pc} {l:List Value} [h:BxI H b i t l] [hn:TB (neb j i)]:BxI ((j,p)::H) b i t l:=⟨by rw [Zx _ _ (Zcp hn.h)];exact h.h⟩
class RxI (H:Hp) (b:Nat) (i:outParam Nat) (t:outParam TypeId) (l:outParam (List Value)):Prop where h:lk H i=some (Ku b t l.toArray)
instance {b i:Nat} {t:TypeId} {l:List Value} : RxI ((i,Ku b t l.toArray)::H) b i t l:=⟨Ys _ _ _⟩
instance (priority:=low) {b i j:Nat} {t:TypeId} {p:Pc} {l:List Value} [h:RxI H b i t l] [hn:TB (neb j i)]:RxI ((j,p)::H) b i t l:=⟨by rw [Zx _ _ (Zcp hn.h)];exact h.h⟩
class DI (P:Program) (N:Nat) (sc:Nat->Prop) (op:Go.Op) (env:Pw) (H:Hp) (v:outParam Value) (s:outParam Prop):Prop where
 h:s->∀{d:Option Tmp} {ty:TypeId} {pos:String} {af:Array Edge} {g:Option (Nat×Bool)},Lk P N sc ⟨d,op,ty,pos,af,g⟩ env H v
section
variable {x y c:Operand} {v u:Value} {t t':TypeId} {k:IntKind} {m n:Int}
instance [h:Som (ev2 env x) v]:DI P N sc (.move x) env H v True:=⟨λ_=>Zbd rfl h.e⟩
instance [h:Som (ev2 env x) v]:DI P N sc (.assign x) env H v True:=⟨λ_=>d_as rfl h.e⟩
instance {i:Nat} {vs:List Value} [h:Som (ev2 env x) (.tuple vs.toArray)] [h2:Som (nth vs i) v]:DI P N sc (.extract x i) env H v True:=⟨λ_=>Yai rfl h.e h2.n⟩
instance {ad:Addr} [h:Som (ev2 env x) (.pointer (some ad))]:DI P N sc (.nilCheck x) env H (.pointer (some ad)) True:=⟨λ_=>d_nc rfl h.e⟩
instance {p:Prop} [Decidable p] [h:Som (ev2 env x) (.bool (decide p))]:DI P N sc (.unOp .not t x) env H (.bool (decide (¬p))) True:=⟨λ_=>Ynr rfl h.e⟩
instance (priority:=low) {b:Bool} [h:Som (ev2 env x) (.bool b)]:DI P N sc (.unOp .not t x) env H (.bool (!b)) True:=⟨λ_=>Yq rfl h.e⟩
instance (priority:=high) [h:Som (ev2 env x) (.bool true)]:DI P N sc (.unOp .not t x) env H (.bool false) True:=⟨λ_=>Yq rfl h.e⟩
instance (priority:=high) [h:Som (ev2 env x) (.bool false)]:DI P N sc (.unOp .not t x) env H (.bool true) True:=⟨λ_=>Yq rfl h.e⟩
instance [h:Som (ev2 env c) (.bool true)] [h1:Som (ev2 env x) v]:DI P N sc (.pick c x y) env H v True:=⟨λ_=>Aa rfl h.e h1.e⟩
instance [h:Som (ev2 env c) (.bool false)] [h1:Som (ev2 env y) v]:DI P N sc (.pick c x y) env H v True:=⟨λ_=>Ys8 rfl h.e h1.e⟩
instance [h:Som (ev2 env x) (.int k m)] [h1:Som (ev2 env y) (.int k n)]:DI P N sc (.binOp .lss t x y t') env H (.bool (decide (m<n))) True:=⟨λ_=>Yns rfl h.e h1.e⟩
instance [h:Som (ev2 env x) (.int k m)] [h1:Som (ev2 env y) (.int k n)]:DI P N sc (.binOp .leq t x y t') env H (.bool (decide (m<=n))) True:=⟨λ_=>d_leq rfl h.e h1.e⟩
instance [h:Som (ev2 env x) (.int k m)] [h1:Som (ev2 env y) (.int k n)]:DI P N sc (.binOp .gtr t x y t') env H (.bool (decide (n<m))) True:=⟨λ_=>Zb0 rfl h.e h1.e⟩
instance [h:Som (ev2 env x) (.int k m)] [h1:Som (ev2 env y) (.int k n)]:DI P N sc (.binOp .geq t x y t') env H (.bool (decide (n<=m))) True:=⟨λ_=>d_geq rfl h.e h1.e⟩
instance [h:Som (ev2 env x) (.int k m)] [h1:Som (ev2 env y) (.int k n)]:DI P N sc (.binOp .eql t x y t') env H (.bool (decide (m=n))) True:=⟨λ_=>Ynu rfl h.e h1.e⟩
instance [h:Som (ev2 env x) (.int k m)] [h1:Som (ev2 env y) (.int k n)]:DI P N sc (.binOp .neq t x y t') env H (.bool (decide (m≠n))) True:=⟨λ_=>Znz rfl h.e h1.e⟩
instance {a b:Bool} [h:Som (ev2 env x) (.bool a)] [h1:Som (ev2 env y) (.bool b)] [h2:Und P t .bool]:DI P N sc (.binOp .eql t x y t') env H (.bool (a == b)) True:=⟨λ_=>d_eqb rfl h.e h1.e h2.h⟩
instance {a b:Bool} [h:Som (ev2 env x) (.bool a)] [h1:Som (ev2 env y) (.bool b)] [h2:Und P t .bool]:DI P N sc (.binOp .neq t x y t') env H (.bool (a != b)) True:=⟨λ_=>d_neb rfl h.e h1.e h2.h⟩
instance [h:Som (ev2 env x) (.int .i64 m)] [h1:Som (ev2 env y) (.int .i64 n)]:DI P N sc (.binOp .add t x y t') env H (.int .i64 (m+n)) (-9223372036854775808<=m+n/\m+n<=9223372036854775807):=⟨λs=>Ynw rfl h.e h1.e s⟩
instance [h:Som (ev2 env x) (.int .i64 m)] [h1:Som (ev2 env y) (.int .i64 n)]:DI P N sc (.binOp .sub t x y t') env H (.int .i64 (m-n)) (-9223372036854775808<=m-n/\m-n<=9223372036854775807):=⟨λs=>d_sub rfl h.e h1.e s⟩
instance [h:Som (ev2 env x) (.int .i64 m)] [h1:Som (ev2 env y) (.int .i64 n)]:DI P N sc (.binOp .mul t x y t') env H (.int .i64 (m*n)) (-9223372036854775808<=m*n/\m*n<=9223372036854775807):=⟨λs=>d_mul rfl h.e h1.e s⟩
instance {i kk:Nat} {α:Type} {enc:α->Value} {xs:List α} {e:TypeId} [h:Som (ev2 env x) v] [h1:RdI P H v i kk enc xs] [h2:Und P t (.slice e)]:DI P N sc (.call { callee:= .builtin .len,args:=#[x],argTypes:=#[t] }) env H (.int .i64 xs.length) True:=
 ⟨λ_=>by obtain⟨p,h3,h4⟩:=h1.h;exact d_len rfl h.e h3 h4 h2.h⟩
instance {s:ByteArray} [h:Som (ev2 env x) (.string s)] [h2:Und P t .string]:DI P N sc (.call { callee:= .builtin .len,args:=#[x],argTypes:=#[t] }) env H (.int .i64 s.size) True:=⟨λ_=>d_lens rfl h.e h2.h⟩
end
@[reducible] def eqb (a b:Nat):Bool:=match Nat.beq a b with
 | true=>true
 | false=>false
theorem eqb_eq{a b:Nat}(h:eqb a b=true):a=b:=by grind [Nat.eq_of_beq_eq_true]
@[reducible] def lenq {α:Type} : List α->Nat->Bool
 | [],n=>match n with
  | 0=>true
  | _+1=>false
 | _::r,n=>match n with
  | 0=>false
  | n+1=>lenq r n
theorem Zhm{α:Type} : ∀{l:List α} {n:Nat},lenq l n=true->l.length=n
 | [],0,_=>rfl
 | [],n+1,h=>O5
 | _::r,0,h=>O5
 | _::r,n+1,h=>by have:=Zhm (by simpa [lenq]using h);simp [this]
@[reducible] def fit0 {α β:Type} : List α->List β->Bool
 | _,[]=>true
 | l,_::vs=>match l with
  | []=>false
  | _::r=>fit0 r vs
@[reducible] def fits {α β:Type} : List α->Nat->List β->Bool
 | [],j,a=>match j with
  | 0=>fit0 ([]:List α) a
  | _+1=>false
 | x::r,j,a=>match j with
  | 0=>fit0 (x::r) a
  | j+1=>fits r j a
theorem Zsy{α β:Type} : ∀{vs:List β} {l:List α},fit0 l vs=true->vs.length<=l.length
 | [],_,_=>O6
 | _::vs,[],h=>O5
 | _::vs,_::r,h=>by simp_all [Zsy]
theorem Yds{α β:Type} : ∀{l:List α} {j:Nat} {vs:List β},fits l j vs=true->j+vs.length<=l.length
 | [],0,vs,h=>by have:=Zsy O1;omega
 | [],j+1,vs,h=>O5
 | x::r,0,vs,h=>by have:=Zsy O1;omega
 | x::r,j+1,vs,h=>by have:=Yds (l:=r) O1;grind
@[reducible] def seg {α:Type} : List α->Nat->Nat->List α
 | [],_,_=>[]
 | x::r,j,k=>match j with
  | j+1=>seg r j k
  | 0=>match k with
   | 0=>[]
   | k+1=>x::seg r 0 k
theorem Zk2{α:Type} : ∀(l:List α) (j k n:Nat) (u:α),(seg l j k)[n]? = some u->l[j+n]? = some u
 | [],_,_,_,_,h=>O5
 | x::r,j+1,k,n,u,h=>by have:=Zk2 r j k n u (by simpa [seg]using h);rw [show j+1+n=(j+n)+1 by omega];simpa using this
 | x::r,0,0,n,u,h=>O5
 | x::r,0,k+1,0,u,h=>O5
 | x::r,0,k+1,n+1,u,h=>by have:=Zk2 r 0 k n u O5;grind
class LEv {α:Type} (l:List α) (r:outParam (List α)):Prop where h:l=r
instance {α:Type} : LEv ([]:List α) []:=⟨rfl⟩
instance {α:Type} {a:α} {l r:List α} [h:LEv l r]:LEv (a::l) (a::r):=⟨by rw [h.h]⟩
class AddN (a b:Nat) (c:outParam Nat):Prop where h:a+b=c
instance (priority:=low) {a b:Nat} : AddN a b (a+b):=⟨rfl⟩
instance {b:Nat} : AddN 0 b b:=⟨cH b⟩
instance {a:Nat} : AddN a 0 a:=⟨rfl⟩
class Df (α:Type) (d:outParam α):Prop where t:True
instance:Df Int 0:=⟨aA⟩
instance:Df Nat 0:=⟨aA⟩
section
variable {x y:Operand} {v u:Value} {t tb:TypeId} {b j i k f:Nat} {l vs ws:List Value}
instance [h:Som (ev2 env x) (.pointer (some ⟨b,j,none⟩))] [h1:Agg P t false] [h2:BxI H b i tb l] [h3:Som (nth l j) v]:DI P N sc (.load t x) env H v True:=⟨λ_=>Yhe _ rfl h.e h2.h h1.h h3.n⟩
instance [h:Som (ev2 env x) (.pointer (some ⟨b,j,none⟩))] [h1:Agg P t true] [h2:BxI H b i tb l] [h4:Siz P t k] [h3:LEv (seg l j k) vs] [h5:TB (lenq vs k)]:DI P N sc (.load t x) env H (.agg vs.toArray) True:=
 ⟨λ_=>Zxs rfl h.e h2.h h1.h h4.h (Zhm h5.h) (λn u hu=>by rw [<-h3.h]at hu;simpa using Zk2 l j k n u hu)⟩
instance [h:Som (ev2 env x) (.pointer (some ⟨b,j,none⟩))] [h1:Agg P t false] [h2:RxI H b i tb l] [h3:Som (nth l j) v]:DI P N sc (.load t x) env H v True:=⟨λ_=>d_lr rfl h.e h2.h h1.h h3.n⟩
instance [h:Som (ev2 env x) (.pointer (some ⟨b,j,none⟩))] [h1:Agg P t true] [h2:RxI H b i tb l] [h4:Siz P t k] [h3:LEv (seg l j k) vs] [h5:TB (lenq vs k)]:DI P N sc (.load t x) env H (.agg vs.toArray) True:=
 ⟨λ_=>d_lra rfl h.e h2.h h1.h h4.h (Zhm h5.h) (λn u hu=>by rw [<-h3.h]at hu;simpa using Zk2 l j k n u hu)⟩
instance {fs:List Field} {c q bo:Nat} {nm tag pk:String} {ft:TypeId} {em:Bool} [h:Som (ev2 env x) (.pointer (some ⟨b,j,none⟩))] [h1:Und P t (.struct fs.toArray)] [h2:Som (nth fs f) ⟨nm,ft,q,em,tag,pk,bo⟩] [h3:Siz P ft k] [h5:TB (neb k 0)] [h4:AddN j q c] :
  DI P N sc (.fieldAddr t x f) env H (.pointer (some ⟨b,c,none⟩)) True:=⟨λ_=>by
 obtain⟨k,rfl⟩:=Nat.exists_eq_succ_of_ne_zero (Zcp h5.h);exact d_fa rfl h.e h1.h h2.n h3.h rfl h4.h⟩
instance {α:Type} {enc:α->Value} {xs:List α} {e:TypeId} {kd:IntKind} {n:Nat} [h:Som (ev2 env x) v] [h1:Som (ev2 env y) (.int kd (n:Int))] [h2:RdI P H v i k enc xs] [h3:Und P t (.slice e)] [h4:Siz P e k] :
  DI P N sc (.indexAddr t x y) env H (.pointer (some (ead v n k))) (n<xs.length):=⟨λs=>by obtain⟨p,h5,h6⟩:=h2.h;exact Zv _ _ rfl h.e h1.e h5 h6 h3.h h4.h rfl s⟩
instance {α:Type} {enc:α->Value} {xs:List α} {e:TypeId} {kd:IntKind} {n:Nat} [h:Som (ev2 env x) v] [h1:Som (ev2 env y) (.int kd (@OfNat.ofNat Int n (@instOfNat n)))] [hl:TB (eqb n n)] [h2:RdI P H v i k enc xs] [h3:Und P t (.slice e)] [h4:Siz P e k] :
  DI P N sc (.indexAddr t x y) env H (.pointer (some (ead v (@OfNat.ofNat Nat n (instOfNatNat n)) k))) (@OfNat.ofNat Nat n (instOfNatNat n)<xs.length):=⟨λs=>by obtain⟨p,h5,h6⟩:=h2.h;exact Zv _ _ rfl h.e h1.e h5 h6 h3.h h4.h rfl s⟩
instance {α:Type} {enc:α->Value} {xs:List α} {n:Nat} {d0:α} [h:Som (ev2 env x) (.pointer (some (ead v n k)))] [h2:RdI P H v i k enc xs] [h3:EncT P t k enc] [h4:Df α d0] :
  DI P N sc (.load t x) env H (enc (xs.getD n d0)) (n<xs.length):=⟨λs=>by obtain⟨p,h5,h6⟩:=h2.h;exact Yw _ d0 rfl h.e h5 h6 h3.h s⟩
instance {fs:List Field} {q bo:Nat} {nm tag pk:String} {ft:TypeId} {em:Bool} [h:Som (ev2 env x) (.agg l.toArray)] [h1:Und P t (.struct fs.toArray)] [h2:Som (nth fs f) ⟨nm,ft,q,em,tag,pk,bo⟩] [h3:Agg P ft false] [h4:Som (nth l q) v] :
  DI P N sc (.field t x f) env H v True:=⟨λ_=>d_fld rfl h.e h1.h h2.n h3.h h4.n⟩
end
class Adv (n:Nat) (p:Prop) (q:outParam Prop):Prop where h:q->p
def go(n:Nat){p q:Prop}[h:Adv n p q](k:q):p:=h.h k
@[reducible] def dsto (l:List Oper) (j:Nat):Option Nat:=match nth l j with
 | some o=>o.dst
 | none=>none
theorem Cl{l:List Oper}{j e:Nat}(h:Som (dsto l j) e):(l.toArray[j]?).bind (·.dst)=some e:=by
 have h:=h.h;unfold dsto at h;rw [Zzn]at h;simp only [List.getElem?_toArray];cases hb:l[j]? with
 | none=>rw [hb]at h;cases h
 | some o=>rw [hb]at h;exact h
section
variable {n:Nat} {q r s:Prop} {c x y:Code} {id:Nat} {l:List Oper} {ops:Array Oper} {rest:List Oper} {d j t:Nat} {op:Go.Op} {ty:TypeId} {pos:String} {af:Array Edge} {v:Value} {e:Exit} {b:Bool}
instance {p:Prop} : Adv 0 p p:=⟨λk=>k⟩
instance [h:Adv n (E P N sc x (Exit.then (y.wp P Q) Q) env H) q]:Adv (n+1) (E P N sc (.seq x y) Q env H) q:=⟨λk=>e_seq (h.h k)⟩
instance [h:Adv n (L P N sc l.toArray l Q env H) q]:Adv (n+1) (E P N sc (.region id l.toArray false) Q env H) q:=⟨λk=>e_reg (h.h k)⟩
instance [h:Adv n (X N sc .normal Q env H) q]:Adv (n+1) (E P N sc .skip Q env H) q:=⟨λk=>e_skip (h.h k)⟩
instance [h:Adv n (E P N sc c (Exit.inBlock id Q) env H) q]:Adv (n+1) (E P N sc (.block id c) Q env H) q:=⟨λk=>Ysy (h.h k)⟩
instance [h:Adv n (X N sc (.exit id) Q env H) q]:Adv (n+1) (E P N sc (.exit id) Q env H) q:=⟨λk=>e_exit (h.h k)⟩
instance [h:Adv n (X N sc .ret Q env H) q]:Adv (n+1) (E P N sc .ret Q env H) q:=⟨λk=>e_ret (h.h k)⟩
instance {o:Operand} [h1:Som (ev2 env o) (.bool true)] [h:Adv n (E P N sc x Q env H) q]:Adv (n+1) (E P N sc (.cond o x y) Q env H) q:=⟨λk=>Ysw h1.e (h.h k)⟩
instance {o:Operand} [h1:Som (ev2 env o) (.bool false)] [h:Adv n (E P N sc y Q env H) q]:Adv (n+1) (E P N sc (.cond o x y) Q env H) q:=⟨λk=>Ysx h1.e (h.h k)⟩
instance [h:Adv n (E P N sc y Q env H) q]:Adv (n+1) (X N sc .normal (Exit.then (y.wp P Q) Q) env H) q:=⟨λk=>x_then (h.h k)⟩
instance {K:Act->World->Prop} [h:Adv n (X N sc .ret Q env H) q]:Adv (n+1) (X N sc .ret (Exit.then K Q) env H) q:=⟨λk=>x_ret (h.h k)⟩
instance {K:Act->World->Prop} [h:Adv n (X N sc (.exit id) Q env H) q]:Adv (n+1) (X N sc (.exit id) (Exit.then K Q) env H) q:=⟨λk=>x_exit (h.h k)⟩
instance [h:Adv n (X N sc .normal Q env H) q]:Adv (n+1) (X N sc .normal (Exit.inBlock id Q) env H) q:=⟨λk=>x_bn (h.h k)⟩
instance [h:Adv n (X N sc .ret Q env H) q]:Adv (n+1) (X N sc .ret (Exit.inBlock id Q) env H) q:=⟨λk=>x_br (h.h k)⟩
instance [h:Adv n (X N sc .normal Q env H) q]:Adv (n+1) (X N sc (.exit id) (Exit.inBlock id Q) env H) q:=⟨λk=>x_be (h.h k)⟩
instance (priority:=low) {id':Nat} [hn:TB (neb id' id)] [h:Adv n (X N sc (.exit id') Q env H) q]:Adv (n+1) (X N sc (.exit id') (Exit.inBlock id Q) env H) q:=⟨λk=>x_bo (Zcp hn.h) (h.h k)⟩
instance [h:Adv n (X N sc .normal Q env H) q]:Adv (n+1) (L P N sc ops [] Q env H) q:=⟨λk=>Bn (h.h k)⟩
instance [h1:DI P N sc op env H v s] [h2:TB (ltb d N)] [h:Adv n (L P N sc ops rest Q ((d,v)::env) H) q] [h3:AndO s q r]:Adv (n+1) (L P N sc ops (⟨some d,op,ty,pos,af,none⟩::rest) Q env H) r:=
 ⟨λk=>dt (h1.h (h3.h k).1) (h.h (h3.h k).2) (Ny h2.h)⟩
instance [hj:Som (dsto l j) t] [hg:Som (lk2 env t) (.bool b)] [h4:TB (ltb t N)] [h1:DI P N sc op env H v s] [h2:TB (ltb d N)] [h:Adv n (L P N sc l.toArray rest Q ((d,v)::env) H) q] [h3:AndO s q r]:Adv (n+1) (L P N sc l.toArray (⟨some d,op,ty,pos,af,some (j,b)⟩::rest) Q env H) r:=
 ⟨λk=>Hk (h1.h (h3.h k).1) (Cl hj) hg.l (h.h (h3.h k).2) (Ny h4.h) (Ny h2.h)⟩
instance [hj:Som (dsto l j) t] [hg:Som (lk2 env t) (.bool false)] [h4:TB (ltb t N)] [h2:TB (ltb d N)] [h:Adv n (L P N sc l.toArray rest Q ((d,undef)::env) H) q]:Adv (n+1) (L P N sc l.toArray (⟨some d,op,ty,pos,af,some (j,true)⟩::rest) Q env H) q:=
 ⟨λk=>gsk (Cl hj) hg.l rfl (Ny h4.h) (Ny h2.h) (h.h k)⟩
instance [hj:Som (dsto l j) t] [hg:Som (lk2 env t) (.bool true)] [h4:TB (ltb t N)] [h2:TB (ltb d N)] [h:Adv n (L P N sc l.toArray rest Q ((d,undef)::env) H) q]:Adv (n+1) (L P N sc l.toArray (⟨some d,op,ty,pos,af,some (j,false)⟩::rest) Q env H) q:=
 ⟨λk=>gsk (Cl hj) hg.l rfl (Ny h4.h) (Ny h2.h) (h.h k)⟩
instance [hj:Som (dsto l j) t] [hg:Som (lk2 env t) undef] [h2:TB (ltb d N)] [h:Adv n (L P N sc l.toArray rest Q ((d,undef)::env) H) q]:Adv (n+1) (L P N sc l.toArray (⟨some d,op,ty,pos,af,some (j,b)⟩::rest) Q env H) q:=
 ⟨λk=>gsku (Cl hj) hg.l (Ny h2.h) (h.h k)⟩
end
end Go.Sky
namespace Go.Sky
variable {P:Program} {N:Nat} {sc:Nat->Prop} {env env':Pw} {H H':Hp} {Q Q':Exit->Act->World->Prop} {M:Nat->Prop}
class Hw (w0:World) (sc:Nat->Prop):Prop where h:∀b,w0.heap.size<=b->sc b
class EvI (env:Pw) (xs:List Operand) (vs:outParam (List Value)):Prop where h:EvL env xs vs
instance:EvI env [] []:=⟨aA⟩
instance {x:Operand} {r:List Operand} {v:Value} {vs:List Value} [h:Som (ev2 env x) v] [h2:EvI env r vs]:EvI env (x::r) (v::vs):=⟨⟨h.e,h2.h⟩⟩
class CalF (P:Program) (f:FuncId):Prop where h:∀args w,(callFunc f args).run P w= .ok (.enter f args) w
class AddI (n:Nat) (l:List Pc) (H:Hp) (H':outParam Hp):Prop where h:adds n l H=H'
instance {n:Nat} : AddI n [] H H:=⟨rfl⟩
instance {n:Nat} {p:Pc} {r:List Pc} [h:AddI (n+1) r H H']:AddI n (p::r) H ((n,p)::H'):=⟨by rw [<-h.h]⟩
class PreL (P:Program) (H:Hp) (al:Bool) (ids:List Nat) (pre:outParam (List Pc)):Prop where h:PreOk H al pre
class RoI (p:Pc):Prop where h:p.own=false
instance {α:Type} {k:Nat} {enc:α->Value} {v:Value} {xs:List α} : RoI (Yx k enc v xs):=⟨rfl⟩
instance {β:Type} {k:Nat} {enc:β->Value} {q:β->Pc} {v:Value} {zs:List β} : RoI (Xn k enc q v zs):=⟨rfl⟩
instance {b:Nat} {t:TypeId} {cs:Array Value} : RoI (Ku b t cs):=⟨rfl⟩
class LnI (P:Program) (al:Bool) (i:Nat) (p:Pc) (q:outParam Pc):Prop where
 h:i≠0->∀{H r},lk H i=some p->PreOk H al r->PreOk H al (q::r)
theorem Zyb{i:Nat}(h:i≠0):Nat.beq i 0=false:=by grind [Nat.eq_of_beq_eq_true]
instance {al:Bool} {i:Nat} {p:Pc} [h:RoI p]:LnI P al i p p:=⟨λh0 _ _ hi hr=>Zm i hi (Zyb h0) h.h hr⟩
instance {α:Type} {i k:Nat} {e:TypeId} {enc:α->Value} {v:Value} {xs:List α} [h:EncT P e k enc]:LnI P false i (Oe k e enc v xs) (Yx k enc v xs):=⟨λh0 _ _ hi hr=>Yko i hi (Zyb h0) h.h hr⟩
instance {i b:Nat} {t:TypeId} {cs:Array Value} : LnI P false i (box b t cs) (Ku b t cs):=⟨λh0 _ _ hi hr=>Zi4 i hi (Zyb h0) hr⟩
instance {al:Bool} : PreL P H al [] []:=⟨aA⟩
instance {al:Bool} {i:Nat} {ids:List Nat} {p q:Pc} {r:List Pc} [h:Som (lk2 H i) p] [h0:TB (neb i 0)] [h1:LnI P al i p q] [h2:PreL P H al ids r]:PreL P H al (i::ids) (q::r):=⟨h1.h (Zcp h0.h) h.l h2.h⟩
theorem T.conv{o:Oper}{G:Type}{φ:G->Prop}{c:G->Pw}{a b:G->Hp}(h:T P N sc M o env H φ c a)(d:∀g,a g=b g):T P N sc M o env H φ c b:=by rw [show b=a from(funext d).symm];omega
section
variable {f:FuncId} {xs:List Operand} {ats:Array TypeId} {d:Nat} {vs fs us:List Value} {pre:List Pc} {al:Bool} {G:Type} {φ:G->Prop} {Yt:G->Value} {its:G->List Pc} {w0:World} {M0:Nat->Prop} {ty:TypeId} {pos:String} {af:Array Edge} {g:Option (Nat×Bool)}
def Zl(n:Nat)(a:List Nat)(c:Cal P f vs.toArray pre al φ Yt its){b:G->Hp}[hx:EvI env xs vs][hf:CalF P f][hp:PreL P H al a pre][h0:Som (lk2 H 0) (Yy w0 M0)][hN:TB (ltb d N)][hw:Hw w0 sc][ha:∀g,AddI n (its g) H (b g)] :
  T P N sc M ⟨some d,.call { callee:= .value (.func f),args:=xs.toArray,argTypes:=ats },ty,pos,af,g⟩ env H φ (λg=>(d,Yt g)::env) b:=
 (Xe _ c rfl rfl (Ny hN.h) hx.h hf.h hp.h h0.l hw.h).conv λg=>(ha g).h
class On1 (P:Program) (N:Nat) (sc:Nat->Prop) (env:Pw) (H:Hp) (v:Value):Prop where h:One N sc env H v
instance {k:IntKind} {n:Int} : On1 P N sc env H (.int k n):=⟨Yg rfl⟩
instance {b:Bool} : On1 P N sc env H (.bool b):=⟨Yg rfl⟩
instance {s:ByteArray} : On1 P N sc env H (.string s):=⟨Yg rfl⟩
instance {a:Option Addr} : On1 P N sc env H (.pointer a):=⟨Yg rfl⟩
instance {a:Option Addr} {m n:Nat} : On1 P N sc env H (.slice a m n):=⟨Yg rfl⟩
instance (priority:=low) {α:Type} {i k:Nat} {v:Value} {enc:α->Value} {ys:List α} [h:RdI P H v i k enc ys]:On1 P N sc env H v:=⟨by obtain⟨p,h1,h2⟩:=h.h;exact Of _ h1 h2⟩
class OnL (P:Program) (N:Nat) (sc:Nat->Prop) (env:Pw) (H:Hp) (l:List Value):Prop where h:∀u∈l,One N sc env H u
instance:OnL P N sc env H []:=⟨λ_ h=>nomatch h⟩
instance {v:Value} {l:List Value} [h:On1 P N sc env H v] [h2:OnL P N sc env H l]:OnL P N sc env H (v::l):=⟨λu hu=>by
 cases hu with
 | head=>exact h.h
 | tail _ hu=>exact h2.h u hu⟩
class CeI (P:Program) (N:Nat) (sc:Nat->Prop) (env:Pw) (H:Hp) (v:Value) (l:outParam (List Value)):Prop where
 h:∀a w,Sat N sc env H a w->v.cells=l.toArray
 o:∀u∈l,One N sc env H u
instance {l:List Value} [h:OnL P N sc env H l]:CeI P N sc env H (.agg l.toArray) l:=⟨λ_ _ _=>rfl,h.h⟩
instance (priority:=low) {v:Value} [h:On1 P N sc env H v]:CeI P N sc env H v [v]:=⟨λa w hs=>Ye (h.h a w hs),λu hu=>by rw [bN.1 hu];exact h.h⟩
class ClI (v:Value) (l:outParam (List Value)):Prop where h:v.cells=l.toArray
instance {l:List Value} : ClI (.agg l.toArray) l:=⟨rfl⟩
instance {k:IntKind} {n:Int} : ClI (.int k n) [.int k n]:=⟨rfl⟩
instance {b:Bool} : ClI (.bool b) [.bool b]:=⟨rfl⟩
instance {s:ByteArray} : ClI (.string s) [.string s]:=⟨rfl⟩
instance {a:Option Addr} : ClI (.pointer a) [.pointer a]:=⟨rfl⟩
instance {a:Option Addr} {m n:Nat} : ClI (.slice a m n) [.slice a m n]:=⟨rfl⟩
class Zer (P:Program) (t:TypeId) (z:outParam Value):Prop where h:∀w,(zeroValue t).run P w= .ok z w
variable {t tb:TypeId} {l l':List Value} {v z:Value} {x y:Operand} {i j k b:Nat}
def Zw(n:Nat)[hz:Zer P t z][hc:ClI z l][h0:Som (lk2 H 0) (Yy w0 M0)][hN:TB (ltb d N)][hw:Hw w0 sc] :
  T P N sc M ⟨some d,.alloc t,ty,pos,af,g⟩ env H (G:=Nat) (λ_=>True) (λb=>(d,.pointer (some ⟨b,0,none⟩))::env) (λb=>(n,box b t l.toArray)::H):=Zkw _ rfl rfl (Ny hN.h) hz.h hc.h h0.l hw.h
def Yk(n:Nat)[hx:Som (ev2 env x) v][hc:ClI v l][h0:Som (lk2 H 0) (Yy w0 M0)][hN:TB (ltb d N)][hw:Hw w0 sc] :
  T P N sc M ⟨some d,.box t x,ty,pos,af,g⟩ env H (G:=Nat) (λ_=>True) (λb=>(d,.pointer (some ⟨b,0,none⟩))::env) (λb=>(n,box b t l.toArray)::H):=t_box rfl rfl (Ny hN.h) hx.e hc.h h0.l hw.h
@[reducible] def lay2 {α:Type} : List α->Nat->List α->List α
 | [],_,_=>[]
 | c::r,j,vs=>match j with
  | j+1=>c::lay2 r j vs
  | 0=>match vs with
   | []=>c::r
   | v::vs=>v::lay2 r 0 vs
theorem Zsp{α:Type} : ∀(l:List α) (j:Nat) (vs:List α),j+vs.length<=l.length->lay2 l j vs=l.take j ++ vs ++ l.drop (j+vs.length)
 | [],j,vs,h=>by simp_all
 | c::r,j+1,vs,h=>by rw [show j+1+vs.length=(j+vs.length)+1 by omega];simp only [lay2,jV,List.drop_succ_cons,iQ];rw [Zsp r j vs (by simp at h;omega)]
 | c::r,0,[],h=>by rfl
 | c::r,0,v::vs,h=>by have a:0+vs.length<=r.length:=O5;have:=Zsp r 0 vs a;grind
theorem Yh7 [hx:Som (ev2 env x) (.pointer (some ⟨b,j,none⟩))] [hy:Som (ev2 env y) v] [hB:BxI H b i tb l] [hi:TB (neb i 0)] [hv:CeI P N sc env H v vs] [hk:Siz P t k] [hl:TB (lenq vs k)] [hf:TB (fits l j vs)] [hr:LEv (lay2 l j vs) l']
  [h0:Som (lk2 H 0) (Yy w0 M0)] [hw:Hw w0 sc] (e:M b):T P N sc M ⟨none,.store t x y,ty,pos,af,g⟩ env H (G:=Unit) (λ_=>True) (λ_=>env) (λ_=>(i,box b tb l'.toArray)::H):=λa w hs=>by
 have c:=Yds hf.h;refine Zjt rfl rfl hx.e hy.e hB.h (Zcp hi.h) (hv.h a w hs) hk.h (Zhm hl.h) O1 hv.o ?_ h0.l hw.h e a w hs;unfold Fe;rw [<-hr.h,Zsp l j vs c]
variable {ops:Array Oper} {rest:List Oper} {op:Go.Op} {genv:G->Pw} {gH:G->Hp} {dd:Option Tmp}
def Yd(a:T P N sc (λ_=>True) ⟨dd,op,ty,pos,af,none⟩ env H φ genv gH)(h:∀g,φ g->L P N sc ops rest Q (genv g) (gH g)):L P N sc ops (⟨dd,op,ty,pos,af,none⟩::rest) Q env H:=tt a h
def gt' {c:List Oper} {e:Nat} {a:Bool} (m:T P N sc (λ_=>True) ⟨dd,op,ty,pos,af,some (j,a)⟩ env H φ genv gH) [hj:Som (dsto c j) e] [he:Som (lk2 env e) (.bool a)] [hN:TB (ltb e N)]
  (h:∀g,φ g->L P N sc c.toArray rest Q (genv g) (gH g)):L P N sc c.toArray (⟨dd,op,ty,pos,af,some (j,a)⟩::rest) Q env H:=gtt m rfl (Cl hj) he.l (Ny hN.h) h
instance {n:Nat} {q:Prop} [hx:Som (ev2 env x) (.pointer (some ⟨b,j,none⟩))] [hy:Som (ev2 env y) v] [hB:BxI H b i tb l] [hi:TB (neb i 0)] [hv:CeI P N sc env H v vs] [hk:Siz P t k] [hl:TB (lenq vs k)] [hf:TB (fits l j vs)] [hr:LEv (lay2 l j vs) l']
  [h0:Som (lk2 H 0) (Yy w0 M0)] [hw:Hw w0 sc] [h:Adv n (L P N sc ops rest Q env ((i,box b tb l'.toArray)::H)) q]:Adv (n+1) (L P N sc ops (⟨none,.store t x y,ty,pos,af,none⟩::rest) Q env H) q:=
 ⟨λq=>Yd (Yh7 aA) λ_ _=>h.h q⟩
end
end Go.Sky

