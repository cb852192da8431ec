/- Rules, arithmetic and contracts: part 7. No conditions but those that each theorem names. -/
import Derived.Test.YthennaflbbajkaaGreatAf05
import Derived.RangeFuncFrom
import Derived.RangeFuncLeaves
import Derived.OrdersIn
import Derived.TacticsIn
import Derived.RangeFuncCalls
set_option linter.all false
namespace Go.Sky
variable{a b m:R2}{x lo:Rat}{c p o xs r rest before q z:List Int}{d y ov:Int}{v:Value}{t i M N k fuel:Nat}{ls cs:List (SL×List Int)}{ds:List (List Int)}{ti ts:TypeId}
theorem Zfe{a b:List Int}(h:Sim a b):∃c d:Int,c≠0/\d≠0/\∀x:Rat,(c:Rat)*Zc a x=(d:Rat)*Zc b x:=by obtain⟨c,d,f,g,e⟩:=h;exact⟨c,d,f,g,λx=>by rw [<-Zj,<-Zj];exact Ng x _ _ λi=>by rw [Qt,Qt];exact e i⟩
theorem Gz(h:x≠0):0<x*x:=by
 rcases(show 0<x\/x<0 by grind)with q|q
 .exact aV q q
 .have:=aV (a:=-x) (b:=-x) O4 O4;grind
theorem Po{c:Int}(h:c≠0):(c:Rat)≠0:=λe=>h (by exact_mod_cast e)
theorem Zft{a b a' e c d:Rat}(g:c≠0)(j:d≠0)(l:c*a'=d*a)(n:c*e=d*b)(h:a*b<0):a'*e<0:=by
 have s:(c*c)*(a'*e)=(d*d)*(a*b):=O4;have u:=Gz g;have f:=Gz j;rcases(show a'*e<0\/0<=a'*e by grind)with q|q
 .exact q
 .have w:=aG (a:=c*c) (b:=a'*e) O4 q;have B:=aV (a:=d*d) (b:=-(a*b)) f O4;grind
theorem Yfo{g j e f:Rat}(h:g*(e*e)*(j*(f*f))<0):g*j<0:=by
 rcases(show g*j<0\/0<=g*j by grind)with q|q
 .exact q
 .have n:0<=e*f*(e*f):=by
   by_cases l:e*f=0
   .rw [l];grind
   .exact dE (Gz l)
  have s:=aG q n;grind
theorem Zm7{F n:Nat}(h:Tr p)(l:p≠[])(hs:Sz n p)(V:n<=220)(S:p.length<=11)(P:p.length<=F+1)(ho:o=Zep F p.length (Xr p))(f:Tr o)(Z:o≠[])(H:Ak F o){a b:Rat}(a0:a<b)(h1:Et p.length p a=1)(h2:Zc p b<0):vch F o b<vch F o a:=by
 have w:=Dp.start h l;have g:=(w.ok h l hs V S P).2;have j:Za1 F p:=by unfold Za1 at g ⊢;rwa [w.2.2.1]at g
 obtain⟨⟨B,G⟩,I⟩:=Fm h l hs V S P p.length (Xr p) w (by rw [Pn h];exact aI _);rw [<-ho]at G I;rw [Zog w.2.2.1]at I;obtain⟨-,Y⟩:=Zsj h l hs V S P f Z H.1.2.2.1 j I;obtain⟨δ,d1,d2⟩:=Aa p.length p a (aI _);obtain⟨s,s1,s2,s3⟩:∃s,a<s/\s<=a+δ/\s<b:=by
  rcases(show a+δ<b\/b<=a+δ by grind)with q|q
  .exact⟨a+δ,O4,O4,q⟩
  .exact⟨(a+b)/2,O4,O4,O4⟩
 have W:0<Zc p s:=by
  have:=d2 s s1 s2;rw [h1]at this;rcases Pe (Zc p s)with⟨D,u⟩|⟨D,u⟩|⟨D,u⟩
  .exact D
  .rw [u]at this;exact absurd this O3
  .rw [u]at this;exact absurd this O3
 have k1:Zc p s*Zc p b<0:=by have:=aV (a:=Zc p s) (b:=-Zc p b) W O4;grind
 obtain⟨c,d,hc,hd,e⟩:=Zfe ((Iy (Yu p)).trans (Qu h):Sim (Xr p) p);have k2:Zc (Xr p) s*Zc (Xr p) b<0:=Zft (Po hc) (Po hd) (e s) (e b) k1;rw [G s,G b]at k2;have k3:=Yfo k2;obtain⟨c',d',Q,R,e'⟩:=Zfe ((Iy (Yu o)).trans (Qu f):Sim (Xr o) o);have k4:Zc (Xr o) s*Zc (Xr o) b<0:=Zft (Po Q) (Po R) (e' s) (e' b) k3;rw [<-Y]at k4;have m1:=Zjj f Z H (dE s1);rcases iO (vch F o b) (vch F o s)with q|q
 .exact Int.lt_of_lt_of_le q m1
 .exfalso;have hz:Zc (sqf F o) s≠0:=λe9=>by rw [e9]at k4;grind
  have:=Zdn f Z H (dE s3) q hz b (dE s3) O4;grind
theorem Zgp:∀(n:Nat) (p:List Int) (x:Rat),Tr p->p≠[]->p.length<=n->Et n p x≠0
 | 0,p,x,_,j,D=>absurd (aH O) j
 | n+1,p,x,u,j,D=>by
  unfold Et;by_cases h:Zc p x≠0
  .rw [aO h];rcases Pe (Zc p x)with⟨l,g⟩|⟨l,g⟩|⟨l,g⟩
   .rw [g];decide
   .rw [g];decide
   .exact absurd l h
  .rw [aJ h];have w:Zc p x=0:=cD.1 h;have f:=Nt p;refine Zgp n (Xd p) x (Mh u) (λe=>?_) O;rw [e]at f;have F:=aL.2 j;have s:p.length=1:=by simp at f;omega
   match p,s with
   | [c],_=>
    have B:c≠0:=u.mem O7;rw [Pt]at w;exact Po B w
theorem Zq1(n:Nat)(p:List Int)(x:Rat):-1<=Et n p x/\Et n p x<=1:=by
 induction n generalizing p with
 | zero=>show -1<=(0:Int)/\(0:Int)<=1;decide
 | succ n e=>unfold Et;split;exact Yes;exact e _
def Zah(F:Nat)(o:List Int)(a b:Rat):Prop:=0<vch F o a-vch F o b-(if Zc o b=0 then 1 else 0)
theorem Yfz{F n:Nat}(f:Tr p)(g:p≠[])(hs:Sz n p)(I:n<=220)(H:p.length<=11)(G:p.length<=F+1)(P:o=Zep F p.length (Xr p))(u:Tr o)(Z:o≠[])(V:Ak F o){a b:Rat}(l:a<b) :
  (Zc p a<0\/Zc p b<0\/Et p.length p a<0\/Zah F o a b)↔(Et p.length p a<0\/Zah F o a b):=by
 constructor
 .rintro(h|h|h|h)
  .left;rw [Zxg p.length p a O4 (aI _),Zmy h];decide
  .have r:=Zq1 p.length p a;have r0:=Zgp p.length p a f g (aI _);rcases(show Et p.length p a<0\/Et p.length p a=1 by omega)with j|j
   .exact .inl j
   .right;have hv:=Zm7 f g hs I H G P u Z V l j h;have W:=Dp.start f g;obtain⟨⟨B,D⟩,-⟩:=Fm f g hs I H G p.length (Xr p) W (by rw [Pn f];exact aI _);rw [<-P]at D;obtain⟨c,d,hc,Y,e⟩:=Zfe ((Iy (Yu p)).trans (Qu f):Sim (Xr p) p);have s:Zc o b≠0:=λQ=>by
     have w:(c:Rat)*Zc (Xr p) b=(d:Rat)*Zc p b:=e b;rw [D b,Q]at w;have R:=Po Y;have S:(d:Rat)*Zc p b=0:=by rw [<-w];grind
     rcases Rat.mul_eq_zero.1 S with q|q
     .exact R q
     .rw [q]at h;grind
    unfold Zah;rw [aJ s];omega
  .exact .inl h
  .exact .inr h
 .rintro(h|h)
  .exact .inr (.inr (.inl h))
  .exact .inr (.inr (.inr h))
theorem Yb6(p:List Int)(x:Rat)(h:Zc p x≠0):∃δ:Rat,0<δ/\∀y,x-δ<=y->y<=x->Ep (Zc p y)=Ep (Zc p x):=by
 obtain⟨L,B,j⟩:=Cx (x-1) x p;obtain⟨δ,g,n,s⟩:=Gb (show(0)<1 by rfl) (show 0<L+1 by grind) (show 0<(if 0<Zc p x then Zc p x else -Zc p x)/2 by grind);refine⟨δ,g,λy u w=>?_⟩;have l:=j y x O4 O4 O7;have b:=aG (a:=L) (b:=δ-(x-y)) O4 O4;rcases Pe (Zc p x)with⟨e,f⟩|⟨e,f⟩|⟨e,f⟩
 .grind [Zx7]
 .grind [Zmy]
 grind
theorem rsg_1(h:Ep x=1):0<x:=by grind [Pe]
theorem Zom(h:Ep x=-1):x<0:=by
 rcases Pe x with⟨e,f⟩|⟨e,f⟩|⟨e,f⟩
 all_goals omega
def Yc2(p:List Int)(a b:Rat):Prop:=∃x,a<=x/\x<=b/\Zc p x<0
theorem Yhr  {F:Nat} (hx:Tr xs) (h0:xs≠[]) (hC:Ak F xs) {a b σ:Rat} (hσ:σ≠0) (a0:a<b)
  (f:∀x,a<=x->x<b->∃δ:Rat,0<δ/\∀y,x<y->y<=x+δ->y<=b->0<σ*Zc (sqf F xs) y) :
  vch F xs a-vch F xs b<=(if Zc (sqf F xs) b=0 then 1 else 0):=by
 obtain⟨h,h1,S⟩:=Zlt hx h0 hC a b;have W:∀x,a<=x->x<b->0<=σ*Zc (sqf F xs) x:=λx ha hb=>by
  rcases(show 0<=σ*Zc (sqf F xs) x\/σ*Zc (sqf F xs) x<0 by grind)with q|q
  .omega
  .exfalso;have Z:Zc (sqf F xs) x≠0:=λe=>O10;obtain⟨δ,d1,G⟩:=f x ha hb;obtain⟨ε,e1,R⟩:=Zm8 (sqf F xs) x Z;obtain⟨y,P,y2,y3,y4⟩:∃y,x<y/\y<=x+δ/\y<=x+ε/\y<=b:=by
    rcases(show δ<=ε\/ε<=δ by grind)with w|w
    all_goals grind
   have k1:=G y P y2 y4;have j:=R y P y3;rcases Pe (Zc (sqf F xs) x)with⟨H,g⟩|⟨H,g⟩|⟨H,g⟩
   .rw [g]at j;have I:=rsg_1 j;rcases(show σ<0\/0<σ by grind)with s|s
    .have:=aV (a:=-σ) (b:=Zc (sqf F xs) y) O4 I;grind
    grind [Rat.mul_pos]
   .rw [g]at j;have I:=Zom j;rcases(show σ<0\/0<σ by grind)with s|s
    .have:=aV (a:=-σ) (b:=-Zc (sqf F xs) x) O4 O4;grind
    .have:=aV (a:=σ) (b:=-Zc (sqf F xs) y) s O4;grind
   grind
 have a3:0<=σ*Zc (sqf F xs) b:=by
  rcases(show 0<=σ*Zc (sqf F xs) b\/σ*Zc (sqf F xs) b<0 by grind)with q|q
  .omega
  .exfalso;have Z:Zc (sqf F xs) b≠0:=λe=>O10;obtain⟨ε,e1,R⟩:=Yb6 (sqf F xs) b Z;obtain⟨y,P,y2,y3⟩:∃y,a<=y/\y<b/\b-ε<=y:=by grind
   obtain⟨δ,d1,G⟩:=f y P y2;obtain⟨z,z1,z2,B⟩:∃z,y<z/\z<=y+δ/\z<=b:=by grind
   have k1:=G z z1 z2 B;have j:=R z O4 B;rcases Pe (Zc (sqf F xs) b)with⟨H,g⟩|⟨H,g⟩|⟨H,g⟩
   .rw [g]at j;have I:=rsg_1 j;rcases(show σ<0\/0<σ by grind)with s|s
    .have:=aV (a:=-σ) (b:=Zc (sqf F xs) z) O4 I;grind
    grind [Rat.mul_pos]
   .rw [g]at j;have I:=Zom j;rcases(show σ<0\/0<σ by grind)with s|s
    .have:=aV (a:=-σ) (b:=-Zc (sqf F xs) b) O4 O4;grind
    .have:=aV (a:=σ) (b:=-Zc (sqf F xs) z) s O4;grind
   grind
 have l:∀u v,a<=u->u<=v->v<=b->v-u<=h/2->vch F xs u-vch F xs v<=(if v=b/\Zc (sqf F xs) b=0 then 1 else 0):=λu v D c2 Q c4=>by
  have e:=S u v D c2 Q O4;have e':vch F xs u-vch F xs v=crs (Zc (sqf F xs)) u v:=e;rw [e'];unfold crs;by_cases V:Zc (sqf F xs) u≠0/\Zc (sqf F xs) u*Zc (sqf F xs) v<=0
  .rw [aO V];have Y:u<b:=by
    rcases(show u<b\/u=b by grind)with q|q
    .omega
    .exfalso;have:v=u:=O4;subst this;have:=Gz V.1;grind
   have g1:=W u D Y;have g2:0<=σ*Zc (sqf F xs) v:=by grind
   have a4:Zc (sqf F xs) v=0:=by
    rcases(show Zc (sqf F xs) v=0\/Zc (sqf F xs) v≠0 by grind)with q|q
    .omega
    .exfalso;have m1:=aG g1 g2;have m2:=Gz hσ;have m3:(σ*σ)*(Zc (sqf F xs) u*Zc (sqf F xs) v)>=0:=O4;rcases(show Zc (sqf F xs) u*Zc (sqf F xs) v<0\/Zc (sqf F xs) u*Zc (sqf F xs) v=0 by grind)with w|w
     .have:=aV m2 (show 0 < -(Zc (sqf F xs) u*Zc (sqf F xs) v) by grind);grind
     grind
   rcases(show v<b\/v=b by grind)with q|q
   .exfalso;obtain⟨δ,d1,G⟩:=f v O4 q;obtain⟨z,z1,z2,B,z4⟩:∃z,v<z/\z<=v+δ/\z<=b/\z-v<=h/2:=by
     rcases(show δ<=h/2\/h/2<=δ by grind)with w|w
     .rcases(show v+δ<=b\/b<=v+δ by grind)with t|t
      all_goals grind
     .rcases(show v+h/2<=b\/b<=v+h/2 by grind)with t|t
      all_goals grind
    have k1:=G z z1 z2 B;have a1:=S u z D O4 B O4;have a2:=S v z O4 O4 B O4;have r1:crs (Zc (sqf F xs)) u z=0:=by
     unfold crs;rw [aJ];rintro⟨w1,w2⟩;have g3:0<σ*Zc (sqf F xs) u:=by grind
     have m1:=aV g3 k1;have m2:=Gz hσ;have m3:0<(σ*σ)*(Zc (sqf F xs) u*Zc (sqf F xs) z):=O4;have m4:=aG (a:=σ*σ) (b:=-(Zc (sqf F xs) u*Zc (sqf F xs) z)) O4 O4;grind
    have r2:crs (Zc (sqf F xs)) v z=0:=by unfold crs;all_goals grind
    have r3:crs (Zc (sqf F xs)) u v=1:=by unfold crs;grind
    omega
   grind
  .rw [aJ V]
   all_goals omega
 have a5:∀n:Nat,∀u,a<=u->u<=b->b-u<=(n:Rat)*(h/2)->vch F xs u-vch F xs b<=(if Zc (sqf F xs) b=0 then 1 else 0):=λn=>by
  induction n with
  | zero=>
   grind
  | succ n ih=>
   intro u D c2 Q;push_cast at Q;by_cases hy:b-u<=h/2
   .grind
   .have i1:=ih (u+h/2) O4 O4 O4;have i2:=l u (u+h/2) D O4 O4 O4;rw [aJ (λe=>O4)]at i2;omega
 obtain⟨n,hn⟩:=Zgo (b-a) (show 0<h/2 by grind);grind
structure Odp (F n:Nat) (p o:List Int):Prop where
 tr:Tr p
 ne:p≠[]
 sz:Sz n p
 hn:n<=220
 hl:p.length<=11
 hF:p.length<=F+1
 eq:o=Zep F p.length (Xr p)
 otr:Tr o
 one:o≠[]
 ok:Ak F o
theorem Odp.sq{F n:Nat}(h:Odp F n p o):∃(c d:Int) (B:List Int),c≠0/\d≠0/\∀x:Rat,(d:Rat)*Zc p x=(c:Rat)*(Zc o x*(Zc B x*Zc B x)):=by have g:=Dp.start h.tr h.ne;obtain⟨⟨B,f⟩,-⟩:=Fm h.tr h.ne h.sz h.hn h.hl h.hF p.length _ g (by rw [Pn h.tr];omega);rw [<-h.eq]at f;obtain⟨c,d,j,l,e⟩:=Zfe ((Iy _).trans (Qu h.tr));exact⟨c,d,B,j,l,λx=>by rw [<-f x];exact(e x).symm⟩
theorem Odp.sqf{F n:Nat}(h:Odp F n p o):Go.Sky.sqf F o=Xr o:=by
 have g:=Dp.start h.tr h.ne;have e:=(g.ok h.tr h.ne h.sz h.hn h.hl h.hF).2;have f:Za1 F p:=by unfold Za1 at e ⊢;rwa [g.2.2.1]at e
 obtain⟨-,j⟩:=Fm h.tr h.ne h.sz h.hn h.hl h.hF p.length _ g (by rw [Pn h.tr];omega);rw [<-h.eq]at j;rw [Zog g.2.2.1]at j;exact(Zsj h.tr h.ne h.sz h.hn h.hl h.hF h.otr h.one h.ok.1.2.2.1 f j).2
theorem Odp.srt{F n:Nat}(h:Odp F n p o):∃c d:Int,c≠0/\d≠0/\∀x:Rat,(c:Rat)*Zc (Go.Sky.sqf F o) x=(d:Rat)*Zc o x:=by rw [h.sqf];exact Zfe ((Iy _).trans (Qu h.otr))
theorem Odp.zero{F n:Nat}(h:Odp F n p o)(x:Rat):Zc (Go.Sky.sqf F o) x=0↔Zc o x=0:=by obtain⟨c,d,f,g,e⟩:=h.srt;grind [Rat.mul_eq_zero,Po]
theorem Odp.nz{F n:Nat}(h:Odp F n p o)(j:Zc p x≠0):Zc o x≠0:=λz=>by obtain⟨c,d,B,f,g,e⟩:=h.sq;grind [Rat.mul_eq_zero,Po]
theorem Odp.opp{F n:Nat}(h:Odp F n p o){y:Rat}(j:Zc p x*Zc p y<0):Zc o x*Zc o y<0/\Zc (Go.Sky.sqf F o) x*Zc (Go.Sky.sqf F o) y<0:=by obtain⟨c,d,B,u,w,e⟩:=h.sq;have D:=Zft (Po u) (Po w) (e x).symm (e y).symm j;have s:=Yfo D;obtain⟨G,H,f,g,l⟩:=h.srt;exact⟨s,Zft (Po f) (Po g) (l x) (l y) s⟩
theorem Odp.sem{F n:Nat}(h:Odp F n p o){a b:Rat}(j:a<b):(Et p.length p a<0\/Zah F o a b)↔Yc2 p a b:=by
 have I:=Yfz h.tr h.ne h.sz h.hn h.hl h.hF h.eq h.otr h.one h.ok j;constructor
 .rintro(l|l)
  .obtain⟨δ,P,D⟩:=Aa p.length p a (aI _);have r:=Zq1 p.length p a;have hm:Et p.length p a=-1:=O;rcases(show a+δ<=b\/b<=a+δ by grind)with q|q
   .exact⟨a+δ,O4,q,Zom O4⟩
   .exact⟨b,O4,O7,Zom O4⟩
  .rcases Classical.em (Yc2 p a b)with q|q
   .omega
   .exfalso;have a0:∀x,a<=x->x<=b->0<=Zc p x:=λx u v=>by
     rcases(show 0<=Zc p x\/Zc p x<0 by grind)with w|w
     .omega
     .exact absurd ⟨x,u,v,w⟩ q
    have g:∀x,a<=x->x<b->∃δ:Rat,0<δ/\∀y,x<y->y<=x+δ->y<=b->0<Zc p y:=λx u v=>by obtain⟨δ,P,D⟩:=Aa p.length p x (aI _);have r:=Zq1 p.length p x;have r0:=Zgp p.length p x h.tr h.ne (aI _);grind [Pe,r0]
    obtain⟨δ,P,D⟩:=g a O7 j;obtain⟨z,z1,z2,z3⟩:∃z,a<z/\z<=a+δ/\z<=b:=by grind
    have hz:=D z z1 z2 z3;have hσ:Zc (Go.Sky.sqf F o) z≠0:=λe=>h.nz (x:=z) O4 ((h.zero z).1 e);have hf:=Yhr h.otr h.one h.ok (σ:=Zc (Go.Sky.sqf F o) z) hσ j (λx u v=>by
     obtain⟨ε,Y,Z⟩:=g x u v;refine⟨ε,Y,λy S V W=>?_⟩;have hy:=Z y S V W;have a1:Zc (Go.Sky.sqf F o) y≠0:=λe=>h.nz (x:=y) O4 ((h.zero y).1 e);rcases(show 0<Zc (Go.Sky.sqf F o) z*Zc (Go.Sky.sqf F o) y\/Zc (Go.Sky.sqf F o) z*Zc (Go.Sky.sqf F o) y<0\/Zc (Go.Sky.sqf F o) z*Zc (Go.Sky.sqf F o) y=0 by grind)with w|w|w
     .omega
     .exfalso;obtain⟨c,d,B,hc,hd,e⟩:=h.sq;obtain⟨c',d',G,H,Q⟩:=h.srt;have w1:Zc o z*Zc o y<0:=Zft (Po H) (Po G) (Q z).symm (Q y).symm w;have p1:=aV hz hy;have R:((d:Rat)*(d:Rat))*(Zc p z*Zc p y)=((c:Rat)*(c:Rat))*((Zc o z*Zc o y)*((Zc B z*Zc B y)*(Zc B z*Zc B y))):=by grind
      have s:=aV (Gz (Po hd)) p1;have q3:0<=(Zc B z*Zc B y)*(Zc B z*Zc B y):=by grind [Rat.le_of_lt,Gz]
      have q4:=aG (dE (Gz (Po hc))) (aG (show 0<=-(Zc o z*Zc o y) by grind) q3);grind
     grind)
    unfold Zah at l;by_cases f:Zc o b=0
    .grind
    .rw [aJ f]at l;rw [aJ (λe=>f ((h.zero b).1 e))]at hf;omega
 .rintro⟨x,x1,x2,x3⟩;rcases(show x=a\/x=b\/(a<x/\x<b) by grind)with q|q|⟨R,s⟩
  .grind
  .grind
  .have r:=Zq1 p.length p a;have r0:=Zgp p.length p a h.tr h.ne (aI _);rcases(show Et p.length p a<0\/Et p.length p a=1 by omega)with l|l
   .omega
   .right;have hv:=Zm7 h.tr h.ne h.sz h.hn h.hl h.hF h.eq h.otr h.one h.ok R l x3;have m1:=Zjj h.otr h.one h.ok (dE s);unfold Zah;by_cases f:Zc o b=0
    .rw [aO f];have hx:Zc (Go.Sky.sqf F o) x≠0:=λe=>h.nz (x:=x) O4 ((h.zero x).1 e);rcases iO (vch F o b) (vch F o x)with w|w
     .omega
     .exfalso;have:=Zdn h.otr h.one h.ok (dE s) w hx b (dE s) O7;rw [(h.zero b).2 f]at this;grind
    grind
theorem Ztb(g:Rat->Rat){h:Rat}(f:0<h):∀(n:Nat) (u v:Rat),u<v->v-u<=(n:Rat)*h->g u*g v<0->∃x y,u<=x/\x<y/\y<=v/\y-x<=h/\g x≠0/\g x*g y<=0
 | 0,u,v,a,b,_=>O4
 | n+1,u,v,a,b,c=>by
  have j:g u≠0:=λe=>O10;by_cases B:v-u<=h
  .grind
  .rcases(show g u*g (u+h)<=0\/0<g u*g (u+h) by grind)with q|q
   .grind
   .have l:g (u+h)*g v<0:=by
     have s:=Gz j;rcases(show g (u+h)*g v<0\/0<=g (u+h)*g v by grind)with w|w
     .omega
     .have Q:=aV q (show 0 < -(g u*g v) by grind);have R:=aG (dE s) w;grind
    obtain⟨x,y,D,F,G,H,I,P⟩:=Ztb g f n _ v O4 O4 l;grind
theorem Zm5{a b c:Rat}(h:a*b<0)(e:a-b<=c)(f:b-a<=c):-c<=a/\a<=c:=by
 rcases(show 0<a\/a<0\/a=0 by grind)with q|q|q
 .have:b<0:=by
   rcases(show b<0\/0<=b by grind)with w|w
   .omega
   .have:=aG (dE q) w;grind
  grind
 .have:0<b:=by
   rcases(show 0<b\/b<=0 by grind)with w|w
   .omega
   .have:=aG (show 0<=-a by grind) (show 0<=-b by grind);grind
  grind
 grind
theorem Zt0{F:Nat}(hx:Tr xs)(h0:xs≠[])(hC:Ak F xs)(ho:Tr o)(o0:o≠[])(hE:Ed o (sqf F xs)){u v:Rat}(g:u<v)(hu:Zc (sqf F xs) u≠0)(h:Zc o u*Zc o v<0):vch F xs v<vch F xs u:=by
 rcases iO (vch F xs v) (vch F xs u)with q|q
 .omega
 .exfalso;have hk:=Zdn hx h0 hC (dE g) q hu;obtain⟨k,w,Q,hw⟩:=hE;have H:=Po Q;have f:∀d,Tr d->Ed d o->Ed d (tzl w)->d.length<=1:=λd hd e1 G=>by
   obtain⟨R,s1,D,r1⟩:=e1;obtain⟨k2,s2,Y,r2⟩:=G;refine Zfd hx h0 hC.1.2.2.1 hd ⟨k*R,lmul w s1,bD Q D,λx=>?_⟩ ⟨k*R*k2,Ma ((lmul (ld w) s1).map λa=>k2*a) ((lmul s2 (ld o)).map λa=>R*a),bD (bD Q D) Y,λx=>?_⟩
   .grind [Zz,r1]
   .rw [Xh,Zj,Zj,Zz,Zz,Ki];have a0:=Ce ((sqf F xs).map λa=>k*a) (lmul w o) (λy=>by grind [Zj,Zz]) x;grind [Ar,Cy,r1,r2,Lk]
  obtain⟨ε,e1,G⟩:=Yae ho (Qp w) o0 f u v;obtain⟨s,l1,l2⟩:=Cx u v o;obtain⟨B,m1,m2⟩:=Cx u v w;obtain⟨j,Z,-,d3⟩:=Gb (show(0:Rat)<1 by rfl) (show 0<s+B by grind) (show 0<ε/2 by grind);obtain⟨n,hn⟩:=Zgo (v-u) Z;obtain⟨x,y,l,x2,V,x4,x5,x6⟩:=Ztb (Zc o) Z n u v g hn h;have sx:=hk x l O4;have sy:=hk y O4 V;have ox:=hw x;have oy:=hw y;have a3:Zc o y≠0:=λe=>by grind [Rat.mul_eq_zero]
  have I:Zc o x*Zc o y<0:=by grind [Rat.mul_eq_zero]
  have S:0<Zc (sqf F xs) x*Zc (sqf F xs) y:=by
   have a1:=aV sx sy;have W:=Gz hu;rcases(show 0<Zc (sqf F xs) x*Zc (sqf F xs) y\/Zc (sqf F xs) x*Zc (sqf F xs) y<=0 by grind)with t|t
   .omega
   .have:=aG (dE W) (show 0<=-(Zc (sqf F xs) x*Zc (sqf F xs) y) by grind);grind
  have P:Zc w x*Zc w y<0:=by
   have a1:(k:Rat)*k*(Zc (sqf F xs) x*Zc (sqf F xs) y)=(Zc w x*Zc w y)*(Zc o x*Zc o y):=by grind
   have W:=aV (Gz H) S;rcases(show Zc w x*Zc w y<0\/0<=Zc w x*Zc w y by grind)with t|t
   .omega
   .have:=aG t (show 0<=-(Zc o x*Zc o y) by grind);grind
  have D:=l2 x y l O4 V;have Y:=m2 x y l O4 V;have n1:=aG (a:=s) (b:=j-(y-x)) O4 O4;have n2:=aG (a:=B) (b:=j-(y-x)) O4 O4;have n3:=aG (a:=s) (b:=j) O4 O4;have n4:=aG (a:=B) (b:=j) O4 O4;obtain⟨b1,b2⟩:=Zm5 (c:=ε/2) I O4 O4;obtain⟨b3,b4⟩:=Zm5 (c:=ε/2) P O4 O4;rcases G x l O4 with t|t
  .unfold Big at t;grind
  .unfold Big at t;grind [Lk]
theorem Zmz{F:Nat}(j:Tr xs)(f:xs≠[])(g:Ak F xs){u v:Rat}(e:u<v)(h:Zc (sqf F xs) u≠0)(l:Zc (sqf F xs) v=0):vch F xs v<vch F xs u:=by
 rcases iO _ _ with q|q
 .omega
 .have:=Zdn j f g (dE e) q h v (dE e) O7;simp_all
theorem Odp.ed{F n:Nat}(h:Odp F n p o):Ed o (Go.Sky.sqf F p):=by have e:=Dp.start h.tr h.ne;obtain⟨-,f⟩:=Fm h.tr h.ne h.sz h.hn h.hl h.hF p.length _ e (by rw [Pn h.tr];omega);rw [<-h.eq]at f;rwa [Zog e.2.2.1]at f
theorem Ydz{F:Nat}(l:Tr xs)(f:xs≠[])(j:Ak F xs)(x:Rat):Zc xs x=0↔Zc (sqf F xs) x=0:=by
 constructor
 .intro h;have n:(x.den:Int)≠0:=by exact_mod_cast x.den_nz
  have e:((x.num))/((x.den:Int))=x:=by grind [Rat.divInt_eq_div,Rat.num_divInt_den]
  have:=Yd1 l f j.1.2.2.1 n (r:=x.num) O4;grind
 .obtain⟨g,s⟩:=Yli l f j.1.2.2.1;grind
theorem Yl6 {F n:Nat}  (h:Odp F n p o) (f:Ak F p) {K:Nat} {e:Nat} (l:∀u v:Rat,-(K:Rat)<=u->u<=v->v<=(K:Rat)->v-u<=1/((2^e:Nat):Rat)->vch F p u-vch F p v<=1)
  {s t:Rat} (h1:-(K:Rat)+1<=s) (Q:t<=(K:Rat)) (hs:0<=Zc p s) (ht:0<=Zc p t) (V:Yc2 p s t):1/((2^(e+1):Nat):Rat)<t-s:=by
 obtain⟨x,x1,x2,x3⟩:=V;have B:s<x:=O4;have D:x<t:=O4;obtain⟨f1,f2,f3,f4,f5,f6⟩:=Nf F h.tr h.ne f.1.2.2.1;have j:Zc (Go.Sky.sqf F p) x≠0:=λz=>by have:=(Ydz h.tr h.ne f x).2 z;grind
 rcases(show 1/((2^(e+1):Nat):Rat)<t-s\/t-s<=1/((2^(e+1):Nat):Rat) by grind)with q|q
 .omega
 .exfalso;have W:=two_pow_pos e;have Y:=two_pow_pos (e+1);have I:((2^(e+1):Nat):Rat)=2*((2^e:Nat):Rat):=O4;have hi:0<((2^e:Nat):Rat)⁻¹:=fD.2 W;have R:1/((2^(e+1):Nat):Rat)=((2^e:Nat):Rat)⁻¹/2:=by rw [I];grind
  have P:1/((2^e:Nat):Rat)=((2^e:Nat):Rat)⁻¹:=O4;have S:((2^e:Nat):Rat)⁻¹<=1:=by
   have g1:(1:Rat)<=((2^e:Nat):Rat):=by have:1<=2^e:=dJ e;exact_mod_cast this
   have g2:=aG (a:=((2^e:Nat):Rat)-1) (b:=((2^e:Nat):Rat)⁻¹) O4 O4;grind [Rat.mul_inv_cancel]
  obtain⟨u,u1,u2,u3⟩:∃u,s-((2^e:Nat):Rat)⁻¹/2<=u/\u<=s/\vch F p x<vch F p u:=by
   by_cases z:Zc (Go.Sky.sqf F p) s=0
   .obtain⟨δ,d1,H⟩:=Aa (Go.Sky.sqf F p).length (Go.Sky.sqf F p) (s-((2^e:Nat):Rat)⁻¹/2) (aI _);have G:=Zgp (Go.Sky.sqf F p).length (Go.Sky.sqf F p) (s-((2^e:Nat):Rat)⁻¹/2) f2 f3 (aI _);obtain⟨u,w1,w2,w3⟩:∃u,s-((2^e:Nat):Rat)⁻¹/2<u/\u<=s-((2^e:Nat):Rat)⁻¹/2+δ/\u<s:=by
     rcases(show s-((2^e:Nat):Rat)⁻¹/2+δ<s\/s<=s-((2^e:Nat):Rat)⁻¹/2+δ by grind)with w|w
     .grind
     .exact⟨s-((2^e:Nat):Rat)⁻¹/4,O4,O4,O4⟩
    have Z:Zc (Go.Sky.sqf F p) u≠0:=λc=>by have:=H u w1 w2;rw [c]at this;exact G this.symm
    have m1:=Zmz h.tr h.ne f w3 Z z;have m2:=Zjj h.tr h.ne f (dE B);grind
   .have g:0<Zc p s:=by have:Zc p s≠0:=λc=>z ((Ydz h.tr h.ne f s).1 c);grind
    have k:=h.opp (x:=s) (y:=x) (by have:=aV g (show 0 < -Zc p x by grind);grind);exact⟨s,O4,O7,Zt0 h.tr h.ne f h.otr h.one h.ed B z k.1⟩
  have u4:vch F p t<vch F p x:=by
   by_cases z:Zc (Go.Sky.sqf F p) t=0
   .exact Zmz h.tr h.ne f D j z
   .have g:0<Zc p t:=by have:Zc p t≠0:=λc=>z ((Ydz h.tr h.ne f t).1 c);grind
    have k:=h.opp (x:=x) (y:=t) (by have:=aV g (show 0 < -Zc p x by grind);grind);exact Zt0 h.tr h.ne f h.otr h.one h.ed D j k.1
  have:=l u t O4 O4 Q O4;omega
def Zb9(xs:List Int)(m:Nat):Prop:=xs.length=0\/(xs.length+2)*(xs.length+2)*(Pb xs+m+2*(xs.length-1)+32)<=65536
instance (xs:List Int) (m:Nat):Decidable (Zb9 xs m):=by unfold Zb9;infer_instance
def sgf_t{m:Nat}(h:xs.length=0):Value.bool (decide (Zb9 xs m))= .bool true:=aE _ (aD (.inl h))
theorem sgf_i{m:Nat}{n:Int}(h:xs.length≠0)(e:n=(((xs.length+2)*(xs.length+2)*(Pb xs+m+2*(xs.length-1)+32):Nat):Int)):Value.bool (decide (Zb9 xs m))= .bool (decide (n<=65536)):=aE _ (aZ.2 (by show(xs.length=0\/_<=65536)↔_;omega))
def efit(z:R2):Bool:=decide (max (bl z.1.natAbs) (bl z.2.natAbs)<=512)
def Zpr:List Int->Int
 | []=>0
 | x::r=>if x=0 then Zpr r else x
theorem Ztj{s:Int}(h:s≠0):∀{L:List Int} {i:Nat},i<L.length->(∀k,k<i->L.getD k 0=0)->L.getD i 0=s->Zpr L=s
 | [],i,hi,_,_=>absurd hi O7
 | x::r,0,_,_,hs=>by have e:x=s:=hs;unfold Zpr;omega
 | x::r,i+1,hi,hz,hs=>by have e:x=0:=hz 0 O7;unfold Zpr;rw [aO e];exact Ztj h O4 (λk f=>hz (k+1) O) hs
theorem Znh:∀{L:List Int},(∀k,k<L.length->L.getD k 0=0)->Zpr L=0
 | [],_=>rfl
 | x::r,hz=>by have e:x=0:=hz 0 O7;unfold Zpr;rw [aO e];exact Znh λk f=>hz (k+1) (by simpa using f)
def aft(e:List (List Int))(m:R2):Int:=Zpr (e.map (fat m.1 m.2))
def vlu(e:List (List Int))(m:R2):Int:=if e.length=0 then 0 else fat m.1 m.2 (e.getD 0 [])
def chv(e:List (List Int))(m:R2):Int:=chg (e.map (fat m.1 m.2))
def crb(e:List (List Int))(a b:R2):Bool:=if e.length=0 then false else decide (0<chv e a-chv e b-if fat b.1 b.2 (e.getD 0 [])=0 then 1 else 0)
def cmp(a b:R2):Int:=(a.1*b.2-b.1*a.2).sign
def ngb(ds cs:List (List Int))(a b:R2):Bool:=if cmp a b=0 then decide (vlu ds a<0)else(decide (aft ds a<0) || crb cs a b)
theorem Ya0(ls:List (SL×List Int))(x y:Int):aft (ls.map Prod.snd) (x,y)=Zpr (sgx ls (fat x y)):=by unfold aft;grind [Zxw]
theorem Yn4(ls:List (SL×List Int))(x y:Int):chv (ls.map Prod.snd) (x,y)=chg (sgx ls (fat x y)):=by unfold chv;grind [Zxw]
theorem Zg1(h:i<ls.length):(ls.map Prod.snd).getD i []=(ls.getD i Z0).2:=by grind
theorem chv_r(e:List (List Int))(m:R2):0<=chv e m/\chv e m<=(e.length:Int):=by have:=Zhm (e.map (fat m.1 m.2));rw [bJ]at this;exact this
theorem Zr2(h:Ep x=0):x=0:=by
 rcases Pe x with⟨e,f⟩|⟨e,f⟩|⟨e,f⟩
 all_goals omega
theorem sgm_i{x l:Int}(f:-1<=x/\x<=1)(e:-1<=l/\l<=1):My (x*l):=by
 rcases(show x=-1\/x=0\/x=1 by omega)with h|h|h<;>subst h
 .exact⟨O,O⟩
 .exact⟨O7,O7⟩
 .exact⟨O,O⟩
theorem Zxy{x l:Int}(f:-1<=x/\x<=1)(e:-1<=l/\l<=1)(h:x*l<0):x=-l:=by rcases(show x=-1\/x=0\/x=1 by omega)with h|h|h<;>subst h<;>omega
theorem Zxx{x l:Int}(g:-1<=x/\x<=1)(f:-1<=l/\l<=1)(h:¬x*l<0)(e:x≠0):¬x=-l:=by rcases(show x=-1\/x=0\/x=1 by omega)with h|h|h<;>subst h<;>omega
def Zxz{x l:Int}(h:x=0):¬x*l<0:=O4
theorem crb_t{x e f:Int}(h:cs.length≠0)(g:fat e f (cs.getD 0 Z0).2=0):Value.bool (crb (cs.map Prod.snd) (x,y) (e,f))= .bool (decide (0<chv (cs.map Prod.snd) (x,y)-chv (cs.map Prod.snd) (e,f)-1)):=by unfold crb;rw [bJ,aJ h,Zg1 O,aO g]
theorem crb_f{x e f:Int}(h:cs.length≠0)(g:¬fat e f (cs.getD 0 Z0).2=0):Value.bool (crb (cs.map Prod.snd) (x,y) (e,f))= .bool (decide (0<chv (cs.map Prod.snd) (x,y)-chv (cs.map Prod.snd) (e,f))):=by unfold crb;rw [bJ,aJ h,Zg1 O,aJ g,gX]
theorem ngb_t{cs:List (List Int)}(h:¬cmp a b=0)(e:aft ds a<0):Value.bool (ngb ds cs a b)= .bool true:=by unfold ngb;grind
theorem ngb_f{cs:List (List Int)}(h:¬cmp a b=0)(e:¬aft ds a<0):Value.bool (ngb ds cs a b)= .bool (crb cs a b):=by unfold ngb;grind
def Ze0:Nat->List Int->List (List Int)
 | 0,_=>[]
 | n+1,p=>if p.length=0 then []else p::Ze0 n (Xd p)
theorem Zt4{m:R2}(h:0<m.2):∀(n:Nat) (p:List Int),p.length<=n->aft (Ze0 n p) m=Et n p (qv m)
 | 0,p,s=>rfl
 | n+1,p,s=>by
  unfold Ze0;by_cases g:p.length=0
  .have:=aH g;subst this;have f:∀n,Et n [] (qv m)=0:=λn=>by
    induction n with
    | zero=>rfl
    | succ n j=>assumption
   rw [f];rfl
  .rw [aJ g];have u:=Nt p;have j:=Zt4 h n (Xd p) O;unfold aft at j ⊢;rw [cI];unfold Zpr Et;have l:fat m.1 m.2 p=Ep (Zc p (qv m)):=Zpy h p;rw [l];by_cases f:Zc p (qv m)=0
   .simp_all [aO,Zr3,aJ]
   .rw [aJ (λe=>f (Zr2 e)),aO f]
structure Cvd (xs:List Int):Prop where
 v:Vp xs
 s:Sz 205 xs
 l:xs.length<=11
theorem Zz2(h:Cvd xs)(e:xs≠[])(f:Dp xs r):Sz 220 r/\r.length<=11:=by obtain⟨g,j⟩:=f.sz h.v.tr e h.s (by have:=h.l;omega);exact⟨g,by have:=h.l;omega⟩
theorem Zis(h:Cvd xs)(j:xs≠[])(e:Dp xs r) :
  Vp r/\r≠[]/\(∀i,bl (cf r (i+1)*((i:Int)+1)).natAbs<=65536)/\Vp (Xd r)/\¬Znf r (Xd r)/\eok 13 (gA r (Xd r)) (gB r (Xd r))/\Mt 13 r (Xd r)=Mu 13 r/\Vp (Mu 13 r)/\
  Bc r (Mu 13 r)=0/\pdv r (Mu 13 r)/\He r (Mu 13 r)=sqf 13 r/\Vp (sqf 13 r)/\Sz 235 (sqf 13 r)/\(sqf 13 r).length<=11/\Dp xs (Mu 13 r)/\sqf 13 r≠[]/\((sqf 13 r).length≠1->(Mu 13 r).length<r.length)/\Za1 13 r:=by
 obtain⟨G,W⟩:=Zz2 h j e;have u:Vp r:=⟨G.mono O7,e.1,O⟩;have f:=e.ok h.v.tr j h.s O7 (by have:=h.l;omega) (show xs.length<=13+1 by have:=h.l;omega);obtain⟨⟨V,I,P,D,F⟩,-,-⟩:=f.1;have R:=e.2.2.1;have n:=(chG 13 e.1 e.2.1 G O7 O O).2.1;have Q:=(chG 13 e.1 e.2.1 G O7 O O).2.2.1;have B:=Zu3 u e.2.1 f.1.1;have H:Mu 13 r=Mt 13 r (Xd r):=by unfold Mu;grind
 have l:=e.next f.2;have w:Vp (Mu 13 r):=by obtain⟨t1,t2⟩:=Zz2 h j l;exact⟨t1.mono O7,l.1,O⟩
 have s:sqf 13 r=He r (Mu 13 r):=by unfold sqf Mu;grind
 obtain⟨f1,f2,f3,f4,f5,f6⟩:=Nf 13 e.1 e.2.1 f.2;have g:∀i,bl (cf r (i+1)*((i:Int)+1)).natAbs<=65536:=λi=>by
  by_cases hi:i<r.length
  .grind
  .rw [Yw O];simp [Gk]
 rw [R]at I P D F;rw [<-H]at D F;refine⟨u,e.2.1,g,Ze8 u (λi _=>g i),I,P,H.symm,w,D,F,s.symm,B,n,O,l,f3,λS=>?_,f.2⟩;refine Zpo e.1 e.2.1 f.2 ?_;grind [Oz,List.length_pos_iff]
def De(xs:List Int):List Int:=Zsr 13 xs.length [1] (Xr xs)
structure OddI (xs:List Int) (t:Nat) (rest out before:List Int):Prop where
 ex:∃f q,Dp xs q/\q.length<=f/\Zsr 13 f out q=De xs/\Tr out/\Op xs out q/\((t%2=1/\rest=q)\/(t%2=0/\rest=Mu 13 q/\before=sqf 13 q/\(sqf 13 q).length≠1))
theorem OddI.start{b:List Int}(h:Cvd xs)(e:xs≠[]):OddI xs 1 (Xr xs) [1] b:=
 ⟨xs.length,Xr xs,Dp.start h.v.tr e,by rw [Pn h.v.tr];omega,rfl,.inr O3,Op.start h.v.tr,.inl ⟨rfl,rfl⟩⟩
theorem OddI.dp{e:List Int}(h:Cvd xs)(j:xs≠[])(g:OddI xs t rest e before):Dp xs rest:=by
 obtain⟨f,q,l,n,s,u,w,B|⟨-,rfl,-⟩⟩:=g.ex
 all_goals simp_all [Zis]
theorem OddI.out{e:List Int}(h:Cvd xs)(l:xs≠[])(u:OddI xs t rest e before):Vp e/\Sz 220 e/\e.length<=11:=by obtain⟨f,q,n,w,B,g,s,-⟩:=u.ex;obtain⟨j,D,F⟩:=s.sz h.v.tr l h.s (by have:=h.l;omega) g n.1;have:=h.l;exact⟨⟨j.mono O7,g,O⟩,j,O⟩
theorem OddI.odd_end{e:List Int}(h:Cvd xs)(l:xs≠[])(j:OddI xs t rest e before)(F:t%2=1)(D:(sqf 13 rest).length=1):e=De xs:=by
 obtain⟨f,q,n,s,g,u,w,⟨-,rfl⟩|⟨B,-⟩⟩:=j.ex
 .cases f with
  | zero=>assumption
  | succ f=>unfold Zsr at g;grind
 omega
theorem OddI.odd_next{e:List Int}(s:OddI xs t rest e before)(B:t%2=1)(u:(sqf 13 rest).length≠1):OddI xs (t+1) (Mu 13 rest) e (sqf 13 rest):=by
 obtain⟨f,q,g,h,j,l,n,⟨-,rfl⟩|⟨w,-⟩⟩:=s.ex
 .exact⟨f,rest,g,h,j,l,n,.inr ⟨O,rfl,rfl,u⟩⟩
 omega
theorem OddI.even{g:List Int}(h:Cvd xs)(u:xs≠[])(hI:OddI xs t rest g before)(ht:t%2=0) :
  Vp before/\Bc before (sqf 13 rest)=0/\pdv before (sqf 13 rest)/\Vp (He before (sqf 13 rest))/\¬Ax g (He before (sqf 13 rest))/\
  ((sqf 13 rest).length=1->Qx g (He before (sqf 13 rest))=De xs)/\((sqf 13 rest).length≠1->OddI xs (t+1) (Mu 13 rest) (Qx g (He before (sqf 13 rest))) (sqf 13 rest))/\Vp (Qx g (He before (sqf 13 rest))):=by
 obtain⟨f,q,j,h2,D,h4,Z,⟨h7,-⟩|⟨-,rfl,rfl,hq⟩⟩:=hI.ex
 .omega
 obtain⟨a1,a2,a3,a4,a5,a6,a7,a8,a9,a0,b0,F,G,c0,H,c5,I,l⟩:=Zis h u j;obtain⟨b1,b2,b3,b4,b5,b6,b7,b8,b9,c6,c7,c8,P,c9,n,Q,R,s⟩:=Zis h u H;obtain⟨c1,c2,Y,c4⟩:=Zcf j.1 j.2.1 l s;have S:=Z.next j.1 j.2.1 j.2.2.1 l s;have ho:=h.l;obtain⟨s1,s2,s3⟩:=S.sz h.v.tr u h.s O (Qo _ _) n.1;obtain⟨o1,o2,o3⟩:=Z.sz h.v.tr u h.s O h4 j.1;have d0:(Zaw 13 q).length<=11:=by have e:=aE List.length c2;grind [Nz,List.length_pos_iff]
 have B:Sz 450 (Zaw 13 q):=by obtain⟨a,ha,e⟩:=S;have e2:Xr xs=Qx (Qx (Qx a (Mu 13 (Mu 13 q))) g) (Zaw 13 q):=e.trans ((Qo _ _).ext (Qo _ _) λi=>Ml (λx=>by grind [Xm]) i);exact(Zwc h.v.tr u h.s O (Qo _ _) Y e2).1.mono O7
 have hd:Bc (sqf 13 q) (sqf 13 (Mu 13 q))=0:=by
  have m1:=Oc G;have m2:=Oc P;have l1:=aL.2 Q;unfold Bc;rw [aJ O];split
  .rfl
  .have:((sqf 13 q).length-(sqf 13 (Mu 13 q)).length+1)*(Pb (sqf 13 (Mu 13 q))+1)<=12*240:=aS O O;omega
 have W:Vp (Zaw 13 q):=⟨B.mono O7,Y,O⟩;have hm:¬Ax g (Zaw 13 q):=λhF=>by have m1:=Oc o1;have m2:=Oc B;rcases hF.2.2 with w|w<;>omega
 refine⟨F,hd,c1,W,hm,λV=>?_,λV=>?_,⟨s1.mono O7,Qo _ _,aB s2 O⟩⟩
 .cases f with
  | zero=>omega
  | succ f=>unfold Zsr at D;grind
 .cases f with
  | zero=>omega
  | succ f=>
   unfold Zsr at D;rw [aJ hq,aJ V]at D;have l1:=I hq;have l2:=R V;exact⟨f,Mu 13 (Mu 13 q),n,O,D,Qo _ _,S,.inl ⟨O,rfl⟩⟩
theorem Ybv(h:Cvd xs)(f:xs≠[]):De xs=Zep 13 xs.length (Xr xs):=by have e:=Dp.start h.v.tr f;have j:=h.l;have g:=(e.ok h.v.tr f h.s O7 O (show xs.length<=13+1 by omega)).2;unfold De;rw [Yl2 h.v.tr f h.s O7 O O _ [1] _ (.inr (show cf [1] 0≠0 by decide)) e (by rw [Pn h.v.tr];omega),Ylr (Zyc xs e.1 e.2.1 g)]
theorem Zfu(h:Cvd xs)(f:xs≠[]):Odp 13 205 xs (De xs)/\Vp (De xs)/\Sz 220 (De xs)/\(De xs).length<=xs.length/\Zau (De xs):=by
 have g:=Dp.start h.v.tr f;have I:=h.l;have n:=(g.ok h.v.tr f h.s O7 O (show xs.length<=13+1 by omega)).2;have s:=Ybv h f;have j:Tr (De xs):=by rw [s];exact Zyc xs g.1 g.2.1 n
 obtain⟨⟨B,H⟩,-⟩:=Fm h.v.tr f h.s O7 O (show xs.length<=13+1 by omega) xs.length (Xr xs) g (by rw [Pn h.v.tr];omega);have e:Xr xs=Qx (Qx B B) (De xs):=g.1.ext (Qo _ _) λi=>Ml (λx=>by grind [Xm]) i;obtain⟨l,F,u⟩:=Zwc h.v.tr f h.s O (Qo _ _) j e;have D:=(chG 13 j u l O7 O O).1;refine⟨⟨h.v.tr,f,h.s,O7,O,O,s,j,u,D⟩,⟨l.mono O7,j,O⟩,l,F,.inr ?_⟩;have P:=Oc l;have w:((De xs).length+2)*((De xs).length+2)<=13*13:=aS O O;have G:((De xs).length+2)*((De xs).length+2)*(Pb (De xs)+16)<=13*13*236:=aS w O;omega
def chx(xs:List Int):List (List Int):=if xs.length=0 then []else chn 13 (De xs)
def Nd(xs:List Int):List (List Int):=Ze0 xs.length xs
theorem Zt3:∀(n k:Nat) (p:List Int),Tr p->p.length<=25->Sz k p->∀q∈Ze0 n p,Tr q/\q.length<=p.length/\Sz (k+5*n) q
 | 0,_,_,_,_,_,q,e=>absurd e (by simp [Ze0])
 | n+1,k,p,f,h,hs,q,e=>by
  unfold Ze0 at e;by_cases g:p.length=0
  .grind
  .rw [aJ g]at e;rcases aU.1 e with rfl|e
   .exact⟨f,aI _,hs.mono O7⟩
   .have j:=Nt p;obtain⟨l,s,u⟩:=Zt3 n _ _ (Mh f) O (Zas hs h) q e;grind
theorem Dk(h:Cvd xs):∀q∈Nd xs,Vp q/\Pb q<=6150/\q.length<=11:=λq g=>by have l:=h.l;obtain⟨f,j,e⟩:=Zt3 _ 205 xs h.v.tr O h.s q g;have:=Oc e;exact⟨⟨e.mono O,f,O⟩,O,O⟩
theorem Zgk(h:Cvd xs):∀q∈chx xs,Vp q/\Pb q<=6150/\q.length<=11:=λq f=>by
 have H:=h.l;unfold chx at f;by_cases l:xs.length=0
 .grind
 .rw [aJ l]at f;have j:xs≠[]:=λe=>l O4;obtain⟨g,n,s,B,D⟩:=Zfu h j;obtain⟨u,F,G,w⟩:=chG 13 g.otr g.one s O7 O (show(De xs).length<=13+1 by omega);exact⟨vp_chn n g.one u q f,(w q f).1,O4⟩
theorem Zqk(xs:List Int):(chx xs).length<=1000:=by
 unfold chx;split
 .simp
 .have:=Zd8 13 (sqf 13 (De xs)) (Yu (Xd (sqf 13 (De xs))));unfold chn;omega
theorem Zrp(g:Pb p<=6150)(h:p.length<=11)(a:bl m.1.natAbs<=5300)(b:bl m.2.natAbs<=5300):¬Kb p m.1 m.2:=λf=>by
 have e:=by show max (bl m.1.natAbs) (max (bl m.2.natAbs) 0)<=5300;omega
 have j:(p.length-1)*Pb [m.1,m.2]<=10*5300:=aS O e;have:=f.2;omega
def Zcx(h:Cvd xs)(a:bl m.1.natAbs<=5300)(b:bl m.2.natAbs<=5300):(∀p∈Nd xs,¬Kb p m.1 m.2)/\(∀p∈chx xs,¬Kb p m.1 m.2):=
 ⟨λp e=>Zrp (Dk h p e).2.1 (Dk h p e).2.2 a b,λp e=>Zrp (Zgk h p e).2.1 (Zgk h p e).2.2 a b⟩
theorem Ye2(e:0<a.2)(f:0<b.2):((a.1*b.2-b.1*a.2:Int):Rat)=(qv a-qv b)*((a.2:Rat)*(b.2:Rat)):=by have g:=Ge e;have h:=Ge f;unfold qv;grind
theorem Ynw(g:0<a.2)(j:0<b.2):cmp a b<0↔qv a<qv b:=by
 have e:=Ye2 g j;have l:=aV (Ge g) (Ge j);unfold cmp;rw [sign_neg_iff];constructor
 .intro h;have f:((a.1*b.2-b.1*a.2):Rat)<0:=by exact_mod_cast h
  rcases(show qv a<qv b\/qv b<=qv a by grind)with q|q
  .omega
  .have:=aG (show 0<=qv a-qv b by grind) (Rat.le_of_lt l);grind
 .intro h;have:=aV (show 0<qv b-qv a by grind) l;have f:((a.1*b.2-b.1*a.2):Rat)<0:=O4;exact_mod_cast f
theorem Zqh(f:0<a.2)(g:0<b.2):cmp a b=0↔qv a=qv b:=by
 have e:=Ye2 f g;have l:=aV (Ge f) (Ge g);unfold cmp;rw [fL];constructor
 .intro h;rw [h]at e;grind [Rat.mul_eq_zero]
 .intro h;have j:((a.1*b.2-b.1*a.2):Rat)=0:=O4;exact_mod_cast j
theorem Ynx(e:0<a.2)(f:0<b.2):cmp a b<=0↔qv a<=qv b:=by have g:=Ynw e f;grind [Zqh,Rat.le_of_lt,Int.le_of_lt,Int.le_of_eq]
def Yhq(e:0<m.2)(p:List Int):fat m.1 m.2 p=Ep (Zc p (qv m)):=Zpy e p
theorem Yn3(h:Cvd xs)(g:xs≠[])(B:0<a.2)(j:0<b.2):crb (chx xs) a b=true↔Zah 13 (De xs) (qv a) (qv b):=by
 obtain⟨f,n,s,u,w⟩:=Zfu h g;unfold crb Zah chx;have D:∃r,chn 13 (De xs)=sqf 13 (De xs)::r:=by unfold chn Mr;split<;>exact⟨_,rfl⟩
 have F:∀m:R2,0<m.2->chv _ m=vch 13 (De xs) _:=λm l=>(cvc_v l);rw [Yhq j];have G:Ep _=0↔Zc _ (qv b)=0:=⟨λe=>(f.zero _).1 (Zr2 e),λe=>Zr3 ((f.zero _).2 e)⟩;grind
theorem Zji(f:0<m.2):vlu (Nd xs) m=Ep (Zc xs (qv m)):=by
 unfold vlu Nd;by_cases e:xs.length=0
 .have:=aH e;subst this;rfl
 .obtain⟨n,g⟩:∃n,xs.length=n+1:=⟨xs.length-1,O⟩;unfold Ze0;simp_all [aJ,Yhq]
theorem Zyv(h:Cvd xs)(f:0<a.2)(B:0<b.2)(j:qv a<=qv b):ngb (Nd xs) (chx xs) a b=true↔Yc2 xs (qv a) (qv b):=by
 unfold ngb;by_cases l:cmp a b=0
 .rw [aO l,Zji f,eZ];have e:=(Zqh f B).1 l;constructor
  .intro s;refine⟨qv a,mO,j,?_⟩;rcases Pe (Zc xs (qv a))with⟨u,w⟩|⟨u,w⟩|⟨u,w⟩
   all_goals omega
  .rintro⟨x,F,G,H⟩;grind [Zmy]
 .rw [aJ l];have n:qv a<qv b:=by grind [Zqh]
  by_cases g:xs=[]
  .subst g;constructor
   .intro s;exact absurd s (by show ¬(decide ((0)<0) || false)=true;simp)
   .rintro⟨x,F,G,H⟩;assumption
  .obtain⟨D,I,P,Q,R⟩:=Zfu h g;rw [<-D.sem n,kL,eZ,Yn3 h g f B,show aft (Nd xs) a=Et _ xs _ from Zt4 f _ _ (aI _)]
theorem Zub(h:Cvd xs){m:Nat}(j:m<=100):Zb9 xs m:=by refine .inr ?_;have g:=h.l;have l:=Oc h.s;have e:(xs.length+2)*(xs.length+2)<=13*13:=aS O O;have f:(xs.length+2)*(xs.length+2)*(Pb xs+m+2*(xs.length-1)+32)<=13*13*357:=aS e O;omega
theorem Znn(h:xs.length=0):Nd xs=[]:=by unfold Nd;rw [h];rfl
theorem Yn2(h:xs.length=0):chx xs=[]:=by unfold chx;grind
theorem chx_ne(h:xs.length≠0):chx xs=chn 13 (De xs):=by unfold chx;grind
theorem Zno:∀(n m:Nat) (p:List Int),p.length<=n->p.length<=m->Ze0 n p=Ze0 m p
 | 0,m,p,f,g=>by
  cases m with
  | zero=>rfl
  | succ m=>unfold Ze0;grind
 | n+1,m,p,f,g=>by
  have h:=Nt p;cases m with
  | zero=>unfold Ze0;grind
  | succ m=>
   unfold Ze0;by_cases e:p.length=0
   .grind
   .rw [aJ e,aJ e,Zno n m _ O O]
theorem Ycp(h:p.length≠0):Nd p=p::Nd (Xd p):=by have f:=Nt p;unfold Nd;obtain⟨n,e⟩:∃n,p.length=n+1:=⟨p.length-1,O⟩;rw [e,show Ze0 _ p=if p.length=0 then []else p::Ze0 n _ from rfl,aJ h,Zno n _ _ O (aI _)]
def Ab(M:Nat)(p:List Int):Prop:=∀i,(cf p i).natAbs<=M
def Ab.sz{n:Nat}(h:Ab M p)(e:M<2^n):Sz n p:=λi=>(Qs n _).2 (aY (h i) e)
def Ab.mono(h:Ab M p)(e:M<=N):Ab N p:=λi=>aB (h i) e
theorem Ac(h:Ab M p)(c:Int):Ab (M*c.natAbs) (Yy p c):=λi=>by rw [Qn,bQ];exact aP _ (h i)
theorem Zrl{f:Nat->Int}{M n:Nat}(h:∀k,(f k).natAbs<=M)(e:∀k,n<=k->f k=0):∀m,(Yf f m).natAbs<=min m n*M
 | 0=>by show(0:Int).natAbs<=_;simp
 | m+1=>by
  have g:=Zrl h e m;rw [Yr];rcases aW m n with q|q
  .grind [Nat.succ_mul]
  grind
theorem Yjt{n:Nat}(e:Ab M p)(f:Ab N q)(h:p.length<=n):Ab (n*(M*N)) (Qx p q):=λi=>by
 rw [Gj];exact aB (Zrl (λk=>by rw [bQ];exact aS (e k) (f _)) (λk g=>by show cf p k*_=0;rw [Yw O,cP]) _) (aP _ (Nat.min_le_right _ _))
theorem ab_add(e:Ab M p)(f:Ab N q):Ab (M+N) (Zci p q):=λi=>by rw [Yan];have:=e i;have:=f i;omega
theorem ab_sub(e:Ab M p)(f:Ab N q):Ab (M+N) (Zbk p q):=λi=>by rw [Zbv];have:=e i;have:=f i;omega
theorem ab_in(h:∀a∈c,My a):Ab (2^63) (tzl c):=λi=>by rw [Hc];obtain⟨e,f⟩:=Fc h i;show(c.getD i 0).natAbs<=_;omega
theorem Ymk{n:Nat}(e:p.length<=n)(f:q.length<=n):(Zci p q).length<=n:=by unfold Zci;grind [Nat.le_trans,Hm,Yz]
theorem Ymj{n:Nat}(e:p.length<=n)(f:q.length<=n):(Zbk p q).length<=n:=by unfold Zbk;grind [Nat.le_trans,Hm,Yz]
theorem Zy9{n m:Nat}(j:Tr p)(l:Tr q)(g:p.length<=n)(h:q.length<=m):(Qx p q).length<=n+m-1:=by
 by_cases e:p=[]
 .simp_all [Dd,bH]
 .by_cases f:q=[]
  .simp_all [Zeq,bH]
  grind [Nz]
def dN:Nat->List Int->List Int
 | 0,p=>p
 | n+1,p=>Xd (dN n p)
def axQ(o:Nat)(c:List Int):List Int:=Yy (dN o (tzl c)) (1000^o)
def sqQ(o:Nat)(c:List Int):List Int:=Qx (axQ o c) (axQ o c)
def sumQ(o:Nat)(x y z:List Int):Nat->List Int
 | 0=>[]
 | i+1=>Zci (sumQ o x y z i) (sqQ o (Yg i x y z))
def kilo(o:Nat):Int:=Av (List.replicate o 1000)
def timC(o:Nat)(m ov T:Int):Int:=Av (m::ov::List.replicate o T)
def oneQ(o:Nat)(m ov T:Int):List Int:=Yy [1] (timC o m ov T)
def formP(o:Nat)(m ov T:Int)(x y z:List Int):List Int:=Yu (Zbk (Qx (oneQ o m ov T) (oneQ o m ov T)) (sumQ o x y z 3))
structure Sgo (fr to ov:Int) (x y z:List Int):Prop where
 t1:0<=fr
 t2:fr<to
 t3:to<=3600000
 o1:1<=ov
 o2:ov<=4294967296
 hx:∀a∈x,My a
 hy:∀a∈y,My a
 hz:∀a∈z,My a
 lx:1<=x.length/\x.length<=6
 ly:1<=y.length/\y.length<=6
 lz:1<=z.length/\z.length<=6
def Sgo.hc{fr e:Int}{x y:List Int}(h:Sgo fr e ov x y z)(i:Nat):∀a∈Yg i x y z,My a:=Zaa h.hx h.hy h.hz i
def Sgo.lc{fr e:Int}{x y:List Int}(h:Sgo fr e ov x y z)(i:Nat):1<=(Yg i x y z).length/\(Yg i x y z).length<=6:=Bn (p:=λl:List Int=>1<=l.length/\l.length<=6) h.lx h.ly h.lz
theorem Sgo.of{fr j:Int}{x y:List Int}(B:∀a∈x,My a)(D:∀a∈y,My a)(F:∀a∈z,My a)(h:Zap fr j ov x y z=true):Sgo fr j ov x y z:=by unfold Zap Zu5 axB at h;simp only [aQ,cS]at h;obtain⟨⟨⟨⟨⟨⟨⟨⟨l,n⟩,s⟩,u⟩,w⟩,e⟩,f⟩,g⟩,-⟩:=h;exact⟨l,n,s,u,w,B,D,F,⟨e.1.1.1,e.1.1.2⟩,⟨f.1.1.1,f.1.1.2⟩,⟨g.1.1.1,g.1.1.2⟩⟩
def Mk:Nat->Nat
 | 0=>2^63
 | 1=>5*2^63
 | _=>4*(5*2^63)
theorem Zn7(h:c.length<=6):¬25<(tzl c).length:=by grind [Hm]
def Lw(z:R2):Prop:=0<z.2/\Int.gcd z.1 z.2=1
theorem Zpi{x:Int}(e:0<y):Lf x y=(Int.gcd x y:Int):=by unfold Lf;omega
theorem Yge (x:Int)(e:0<y):Lw (x/Lf x y,y/Lf x y):=by have f:0<Int.gcd x y:=Int.gcd_pos_of_ne_zero_right _ O;rw [Zpi e];refine⟨Int.ediv_pos_of_pos_of_dvd e O7 (iN ..),?_⟩;grind [Int.gcd_ediv_gcd_ediv_gcd]
theorem Zpc(e:0<a.2)(h:¬Lb a.1 a.2):Lw (slow a):=by obtain⟨f,g,-⟩:=Zbl h;have:=Yge a.1 e;unfold slow;grind
theorem Ygd(h:Zd7 a b)(e:0<a.2)(f:0<b.2):Lw (Ps a b):=by obtain⟨j,l,-⟩:=Zbl h.2;have g:0<Ir _ _*2:=fC (Zo8 h.1 (fC e f)) O;have:=Yge (Gn (a.1*b.2+b.1*a.2) (a.2*b.2)*1) g;unfold Ps;grind
structure Hv (n Q j:Nat) (W:Rat) (a b:R2):Prop where
 hQ:0<Q
 hQ2:Q<2^(2*n)
 ea:En (2^n) Q j a
 eb:En (2^n) Q j b
 wd:(qv b-qv a)*((2^j:Nat):Rat)=W
 le:qv a<=qv b
 la:Lw a
 lb:Lw b
theorem Hv.start{n:Nat}(g:0<a.2)(h:0<b.2)(l:bl a.1.natAbs<=n)(w:bl a.2.natAbs<=n)(s:bl b.1.natAbs<=n)(B:bl b.2.natAbs<=n)(u:n<=65536)(G:qv a<=qv b):∃Q,Hv n Q 0 (qv b-qv a) (slow a) (slow b):=by
 obtain⟨H,I,Z,P,s5⟩:=Zb8 g l w u;obtain⟨t1,t2,t3,t4,t5⟩:=Zb8 h s B u;have S:=(Qs n _).1 P;have V:=(Qs n _).1 t4;have W:=Zot g (dV ((Qs n _).1 l));have Y:=Zot h (dV ((Qs n _).1 s));have e:0<(slow a).2.natAbs*(slow b).2.natAbs:=gL O O;have f:(slow a).2.natAbs*(slow b).2.natAbs<2^(2*n):=by rw [show 2*n=n+n by omega,bM];simp_all [gO,dV,bR]
 generalize R:(slow a).2.natAbs*(slow b).2.natAbs=Q at *;have j:((Q*2^0))=(slow a).2*(slow b).2:=by grind
 have D:En (2^n) Q 0 _:=⟨I,O10,O4,O4⟩;have F:En (2^n) Q 0 _:=⟨t2,O10,O4,O4⟩;exact⟨Q,e,f,D,F,O4,O4,Zpc g H,Zpc h t1⟩
theorem Hv.mid{n Q j B:Nat}{W:Rat}(h:Hv n Q j W a b)(Z:3*n+2+j<=B)(g:B<=65536) :
  Zd7 a b/\(bl (Ps a b).1.natAbs<=B/\bl (Ps a b).2.natAbs<=B/\0<(Ps a b).2)/\qv (Ps a b)=(qv a+qv b)/2/\(bl a.1.natAbs<=B/\bl a.2.natAbs<=B/\0<a.2)/\(bl b.1.natAbs<=B/\bl b.2.natAbs<=B/\0<b.2)/\
  Hv n Q (j+1) W a (Ps a b)/\Hv n Q (j+1) W (Ps a b) b:=by
 have w:∀m,m<=B->2^m<=2^B:=λm h=>cY O h;have f:Q*2^(j+1)<2^B:=by have:Q*2^(j+1)<2^(2*n)*2^(j+1):=dL h.hQ2 (bR O);rw [<-bM]at this;grind
 have l:2*2^n*(Q*2^j)<2^B:=by
  have G:Q*2^j<2^(2*n)*2^j:=dL h.hQ2 (bR O);have V:2*2^n*(Q*2^j)<2*2^n*(2^(2*n)*2^j):=jN G (gL O (bR O));have Y:2*2^n*(2^(2*n)*2^j)=2^(3*n+1+j):=by rw [<-bM,<-lG,<-bM];grind
  grind
 obtain⟨F,s,u,I,P⟩:=mid_en h.ea h.eb h.hQ f l g;obtain⟨R,S⟩:=Yh1 j 0 B h.ea h.hQ h.hQ2 O;obtain⟨r1,r2⟩:=Yh1 j 0 B h.eb h.hQ h.hQ2 O;have e:=Ygd F h.ea.pos h.eb.pos;have D:((2^(j+1):Nat))=2*((2^j:Nat)):=O4;have H:=h.le;refine⟨F,⟨I,P,s.pos⟩,u,⟨R,S,h.ea.pos⟩,⟨r1,r2,h.eb.pos⟩,⟨h.hQ,h.hQ2,h.ea.up,s,?_,O4,h.la,e⟩,⟨h.hQ,h.hQ2,s,h.eb.up,?_,O4,e,h.lb⟩⟩
 .rw [u,D,<-h.wd];grind
 .rw [u,D,<-h.wd];grind
def Ya9{n:Nat}(h:Sz k p)(e:k<=n)(i:Nat):(cf p i).natAbs<=2^n:=aB (Zgx h i) (cY O e)
theorem Yla(h:Cvd xs)(g:xs≠[]):Ak 13 xs/\∀u v:Rat,-((2^34:Nat):Rat)<=u->u<=v->v<=((2^34:Nat):Rat)->v-u<=1/((2^5000:Nat):Rat)->vch 13 xs u-vch 13 xs v<=1:=by have G:=h.l;obtain⟨j,e,D,F⟩:=chG 13 h.v.tr g h.s O7 O O;have l:=Zas e O;have f:∀n,n<=11->2<=n->Zx2 (2^34) (2^225) n 5000=true:=O8;obtain⟨n,w⟩:∃n:Nat,n=225:=⟨_,rfl⟩;rw [<-w]at f;have l:Sz n (Xd (sqf 13 xs)):=O4;have B:∀i,(cf _ i).natAbs<=2^n:=λi=>Ya9 e O i;exact⟨j,λu v=>sep_of h.v.tr g j (bR O) (bR O) B (λi=>Zgx l i) (λs=>f _ O s) u v⟩
theorem Ybr{j e w:Nat}{W:Rat}(u:1/((2^(e+1):Nat):Rat)<x)(B:x*((2^j:Nat):Rat)=W)(D:W<=((2^w:Nat):Rat)):j<e+1+w:=by
 have f:=two_pow_pos (e+1);have g:=two_pow_pos j;rcases aW j _ with q|q
 .omega
 .have hi:=fD.2 f;have h:((2^(e+1)))*((2^w))<=((2^j):Rat):=by
   have:2^(e+1)*2^w<=2^j:=by rw [<-bM];simp_all [cY]
   exact_mod_cast this
  have l:=aV (show 0<x-((2^(e+1)))⁻¹ by grind) g;have n:=aG (dE hi) (show 0<=((2^j))-((2^(e+1)))*((2^w)) by grind);have s:((2^(e+1)):Rat)⁻¹*(((2^(e+1)))*((2^w)))=((2^w)):=by grind
  grind
structure NIn (xs:List Int) (s t:Rat) (j:Nat) (a b:R2):Prop where
 ex:∃Q W,Hv 34 Q j W a b/\W<=((2^34:Nat):Rat)
 lo:s<=qv a
 hi:qv b<=t
 l0:-((2^33:Nat):Rat)<=s
 h0:t<=((2^33:Nat):Rat)
 pa:0<=Zc xs (qv a)
 pb:0<=Zc xs (qv b)
 ng:Yc2 xs (qv a) (qv b)
theorem NIn.j{hi:Rat}{j:Nat}(g:Cvd xs)(f:xs≠[])(h:NIn xs lo hi j a b):j<5035:=by obtain⟨Q,W,l,n⟩:=h.ex;obtain⟨u,hs⟩:=Yla g f;have B:=h.lo;have D:=h.hi;have F:=h.l0;have G:=h.h0;have:=Yl6 (Zfu g f).1 u (K:=2^34) (e:=5000) hs (s:=qv a) (t:=qv b) O4 O4 h.pa h.pb h.ng;exact Ybr (e:=5000) (w:=34) this l.wd n
theorem NIn.start(e:0<a.2)(f:0<b.2)(h:bl a.1.natAbs<=32)(w:bl a.2.natAbs<=32)(j:bl b.1.natAbs<=32)(B:bl b.2.natAbs<=32)(g:qv a<=qv b)(F:0<=Zc xs (qv a))(G:0<=Zc xs (qv b))(D:Yc2 xs (qv a) (qv b)) :
  NIn xs (qv a) (qv b) 0 (slow a) (slow b):=by
 obtain⟨Q,l⟩:=Hv.start (n:=34) e f O O O O O7 g;obtain⟨-,-,-,-,H⟩:=Zb8 e O O O7;obtain⟨-,-,-,-,t5⟩:=Zb8 f O O O7;have s:=Zot (K:=2^33) e (aB (dV ((Qs 32 _).1 h)) O);have u:=Zot (K:=2^33) f (aB (dV ((Qs 32 _).1 j)) O);exact⟨⟨Q,_,l,O4⟩,O4,O4,s.1,u.2,O4,O4,O4⟩
structure Fnd (xs:List Int) (s t:Rat) (m:R2):Prop where
 ng:Zc xs (qv m)<0
 lo:s<=qv m
 hi:qv m<=t
 b1:bl m.1.natAbs<=5200
 b2:bl m.2.natAbs<=5200
 lw:Lw m
theorem NIn.round{hi:Rat}{j:Nat}(G:Cvd xs)(R:xs≠[])(h:NIn xs lo hi j a b) :
  Zd7 a b/\(bl (Ps a b).1.natAbs<=5200/\bl (Ps a b).2.natAbs<=5200/\0<(Ps a b).2)/\(bl a.1.natAbs<=5200/\bl a.2.natAbs<=5200/\0<a.2)/\(bl b.1.natAbs<=5200/\bl b.2.natAbs<=5200/\0<b.2)/\
  (vlu (Nd xs) (Ps a b)<0->Fnd xs lo hi (Ps a b))/\(¬vlu (Nd xs) (Ps a b)<0->ngb (Nd xs) (chx xs) a (Ps a b)=true->NIn xs lo hi (j+1) a (Ps a b))/\
  (¬vlu (Nd xs) (Ps a b)<0->ngb (Nd xs) (chx xs) a (Ps a b)=false->NIn xs lo hi (j+1) (Ps a b) b):=by
 have hj:=h.j G R;obtain⟨Q,W,s,u⟩:=h.ex;obtain⟨H,l,m3,n,I,Z,m7⟩:=s.mid (B:=5200) O O7;have S:=s.le;have V:=h.lo;have Y:=h.hi;have hv:=Zji (xs:=xs) l.2.2;have g:¬vlu (Nd xs) (Ps a b)<0->0<=Zc xs (qv (Ps a b)):=λf=>by grind [Pe,Rat.le_of_lt,Rat.le_refl]
 have e:=Zyv G n.2.2 l.2.2 (show qv a<=qv _ by grind);refine⟨H,l,n,I,λf=>?_,λf F=>?_,λf F=>?_⟩
 .have:Zc xs (qv (Ps a b))<0:=by
   rcases Pe (Zc xs (qv (Ps a b)))with⟨w,D⟩|⟨w,D⟩|⟨w,D⟩
   all_goals omega
  exact⟨this,O4,O4,l.1,l.2.1,Ygd H n.2.2 I.2.2⟩
 .exact⟨⟨Q,W,Z,u⟩,V,O4,h.l0,h.h0,h.pa,g f,e.1 F⟩
 .refine⟨⟨Q,W,m7,u⟩,O4,Y,h.l0,h.h0,g f,h.pb,?_⟩;obtain⟨x,x1,x2,P⟩:=h.ng;rcases(show x<=qv (Ps a b)\/qv (Ps a b)<=x by grind)with q|q
  .have:=e.2 ⟨x,x1,q,P⟩;grind
  .exact⟨x,q,x2,P⟩
def frs(xs:List Int):Nat->R2->R2->R2×R2
 | 0,a,b=>(a,b)
 | n+1,a,b=>if ngb (Nd xs) (chx xs) a (Ps a b)then frs xs n a (Ps a b)else frs xs n (Ps a b) b
structure E32 (a:R2):Prop where
 p:0<a.2
 b1:bl a.1.natAbs<=32
 b2:bl a.2.natAbs<=32
theorem E32.slow(h:E32 a):E32 (slow a)/\qv (Go.Sky.slow a)=qv a/\Lw (Go.Sky.slow a)/\¬Lb a.1 a.2:=by obtain⟨e,f,g,j,l⟩:=Zb8 (n:=32) h.p h.b1 h.b2 O;exact⟨⟨f,g,j⟩,l,Zpc h.p e,e⟩
theorem Zig(g:0<m.2):vlu (Nd xs) m<0↔Zc xs (qv m)<0:=by
 rw [Zji g];rcases Pe (Zc xs (qv m))with⟨f,e⟩|⟨f,e⟩|⟨f,e⟩
 .rw [e];constructor
  .intro h;exact absurd h O3
  .intro h;grind
 .rw [e];exact⟨λ_=>f,λ_=>O3⟩
 .rw [e,f];constructor
  .intro h;exact absurd h O3
  .intro h;grind
theorem end_l(l:E32 a)(e:qv a<=qv b)(h:vlu (Nd xs) (slow a)<0):Fnd xs (qv a) (qv b) (slow a):=by obtain⟨f,g,n,s⟩:=l.slow;have j:=(Zig f.p).1 h;exact⟨j,by rw [g];exact mO,by rw [g];exact e,aB f.b1 O3,aB f.b2 O3,n⟩
theorem end_r(l:E32 b)(e:qv a<=qv b)(h:vlu (Nd xs) (slow b)<0):Fnd xs (qv a) (qv b) (slow b):=by obtain⟨f,g,n,s⟩:=l.slow;have j:=(Zig f.p).1 h;exact⟨j,by rw [g];exact e,by rw [g];exact mO,aB f.b1 O3,aB f.b2 O3,n⟩
theorem Ybw(n:Cvd xs)(f:E32 a)(g:E32 b)(h:qv a<=qv b)(j:¬vlu (Nd xs) (slow a)<0)(l:¬vlu (Nd xs) (slow b)<0)(s:ngb (Nd xs) (chx xs) a b=true) :
  NIn xs (qv a) (qv b) 0 (slow a) (slow b):=by
 obtain⟨B,D,F,G⟩:=f.slow;obtain⟨t1,t2,t3,t4⟩:=g.slow;have u:¬Zc xs (qv (slow a))<0:=λe=>j ((Zig B.p).2 e);have w:¬Zc xs (qv (slow b))<0:=λe=>l ((Zig t1.p).2 e);rw [D]at u;rw [t2]at w;exact NIn.start f.p g.p f.b1 f.b2 g.b1 g.b2 h O4 O4 ((Zyv n f.p g.p h).1 s)
theorem ngb_ne(h:ngb (Nd xs) (chx xs) a b=true):xs≠[]:=λe=>by
 subst e;unfold ngb at h;split at h
 .exact absurd h (by show ¬decide ((0:Int)<0)=true;decide)
 .exact absurd h (by show ¬(decide ((0:Int)<0) || false)=true;decide)
theorem E32.efit(h:E32 a):efit a=true:=by have:=h.b1;have:=h.b2;unfold Go.Sky.efit;exact aD O
structure FIn (xs:List Int) (j:Nat) (a b:R2):Prop where
 ex:∃Q W,Hv 34 Q j W a b
 bj:j<=200
theorem FIn.start(e:E32 a)(f:E32 b)(g:qv a<=qv b):FIn xs 0 (slow a) (slow b):=by obtain⟨Q,h⟩:=Hv.start (n:=34) e.p f.p (aB e.b1 O3) (aB e.b2 O3) (aB f.b1 O3) (aB f.b2 O3) O g;exact⟨⟨Q,_,h⟩,O⟩
theorem FIn.round{j:Nat}(h:FIn xs j a b) :
  Zd7 a b/\(bl (Ps a b).1.natAbs<=5200/\bl (Ps a b).2.natAbs<=5200/\0<(Ps a b).2)/\(bl a.1.natAbs<=5200/\bl a.2.natAbs<=5200/\0<a.2)/\(bl b.1.natAbs<=5200/\bl b.2.natAbs<=5200/\0<b.2)/\
  (j<200->FIn xs (j+1) a (Ps a b)/\FIn xs (j+1) (Ps a b) b):=by
 obtain⟨Q,W,e⟩:=h.ex;have D:=h.bj;obtain⟨g,l,F,n,s,u,w⟩:=e.mid (B:=5200) O O;exact⟨g,l,n,s,λf=>⟨⟨⟨Q,W,u⟩,O⟩,⟨⟨Q,W,w⟩,O⟩⟩⟩
theorem Yl5(g:E32 a)(j:E32 b)(f:qv a<=qv b)(hi:i<2)(h:vlu (Nd xs) ([slow a,slow b].getD i (0,0))<0):Fnd xs (qv a) (qv b) ([slow a,slow b].getD i (0,0)):=by
 rcases(show i=0\/i=1 by omega)with e|e
 .subst e;exact end_l g f h
 .subst e;exact end_r j f h
theorem Yng(f:E32 a)(g:E32 b)(i:Nat)(hi:i<2):E32 ([slow a,slow b].getD i (0,0)):=by
 rcases(show i=0\/i=1 by omega)with e|e
 .subst e;exact f.slow.1
 .subst e;exact g.slow.1
def Yny(e:E32 a)(f:E32 b)(h:¬0<cmp a b):qv a<=qv b:=(Ynx e.p f.p).1 O
def Zh6:E32 (0,1):=⟨O3,O3,O3⟩
def Zh5:E32 (1,1):=⟨O3,O3,O3⟩
def Zh8:¬0<cmp (0,1) (1,1):=O8
def Zes(xs:List Int):Bool:=ngb (Nd xs) (chx xs) (0,1) (1,1)
def slS(d:List Int):Nat->Int
 | 0=>0
 | k+1=>slS d k+Av [d.getD k 0,(k:Int)+1]
def fsS(d:List Int)(k:Nat):Int:=if k=0 then 0 else d.getD 0 0
def qr(a b:Int):R2:=(Gn a b,Ir a b)
def bgS(c:List Int):Int:=fsS (c.drop 1) (c.drop 1).length
def enS(c:List Int):Int:=slS (c.drop 1) (c.drop 1).length
def bS(ov T:Int)(x y z:List Int):Nat->List R2
 | 0=>List.replicate 3 (0,0)
 | i+1=>(bS ov T x y z i).set i (qr (bgS (Yg i x y z)) (Av [ov,T]))
def eS(ov T:Int)(x y z:List Int):Nat->List R2
 | 0=>List.replicate 3 (0,0)
 | i+1=>(eS ov T x y z i).set i (qr (enS (Yg i x y z)) (Av [ov,T]))
def joinB(fr h ov:Int)(x y z:List Int)(e g f:Int)(j l n:List Int):Bool:=
 decide (qr (bgS j) (Av [f,g-e])=qr (enS x) (Av [ov,h-fr])/\qr (bgS l) (Av [f,g-e])=qr (enS y) (Av [ov,h-fr])/\qr (bgS n) (Av [f,g-e])=qr (enS z) (Av [ov,h-fr]))
def plT(c:List Int)(a d:Int)(k:Nat):Int:=c.getD k 0*(a^k*d^(5-(k:Int)).toNat)
def plS(c:List Int)(a d:Int):Nat->Int
 | 0=>0
 | k+1=>plS c a d k+plT c a d k
def pl(c:List Int)(a d:Int):Int:=plS c a d c.length
def atS(a d:Int)(x y z:List Int):Nat->List Int
 | 0=>List.replicate 3 0
 | i+1=>(atS a d x y z i).set i (pl (Yg i x y z) a d)
def gS(ov a d:Int)(x y z:List Int):Nat->Int
 | 0=>ov*d^5
 | i+1=>(Int.gcd (gS ov a d x y z i) (pl (Yg i x y z) a d):Int)
abbrev plV (p q r o:Int):Value:= .agg #[.bool (decide (p<0)),.string (Xn p.natAbs),.bool (decide (q<0)),.string (Xn q.natAbs),.bool (decide (r<0)),.string (Xn r.natAbs),.bool (decide (o<0)),.string (Xn o.natAbs)]
theorem Bb(a d:Int)(x y z:List Int):∀i,(atS a d x y z i).length=3
 | 0=>rfl
 | i+1=>by show(List.set _ _ _).length=3;rw [cC];exact Bb a d x y z i
theorem Yjl(a d:Int)(x y z:List Int)(h:i<3):atS a d x y z i=(atS a d x y z i).set i 0:=by
 match i,h with
 | 0,_=>rfl
 | 1,_=>rfl
 | 2,_=>rfl
theorem Zry{l:List Int}{v:Int}(h:i<l.length):(l.set i v).getD i 0=v:=by rw [aN,List.getElem?_set_self h];rfl
theorem Zye(h:∀x∈c,My x){a:Int}(j:0<=a/\a<=3600000)(l:1<=d/\d<=3600000)(n:k<=5):(a^k*d^(5-(k:Int)).toNat).natAbs<=3600000^5/\(plT c a d k).natAbs<=9223372036854775808*3600000^5:=by
 have e:(a^k*d^(5-(k:Int)).toNat).natAbs<=3600000^5:=by rw [bQ,jO,jO];refine aB (aS (fS (show a.natAbs<=3600000 by omega) k) (fS (show d.natAbs<=3600000 by omega) _)) ?_;rw [<-bM,show k+(5-(k:Int)).toNat=5 by omega];exact aI _
 obtain⟨f,g⟩:=Fc h k;refine⟨e,?_⟩;unfold plT;rw [bQ];exact aS O e
theorem Zyg{c:List Int}(h:∀x∈c,My x){a d:Int}(e:0<=a/\a<=3600000)(f:1<=d/\d<=3600000):∀k,k<=6->(plS c a d k).natAbs<=k*(9223372036854775808*3600000^5)
 | 0,_=>by show(0:Int).natAbs<=_;decide
 | k+1,g=>by have j:=Zyg h e f k O;have:=(Zye h e f (k:=k) O).2;show(plS c a d k+plT c a d k).natAbs<=_;rw [eT];omega
def Zho(h:∀x∈c,My x){a:Int}(f:0<=a/\a<=3600000)(g:1<=d/\d<=3600000)(e:k<=6):bl (plS c a d k).natAbs<=180:=
 (Qs 180 _).2 (aY (Zyg h f g k e) (aY (aP _ e) O3))
theorem Yi5(h:∀x∈c,My x){a:Int}(g:0<=a/\a<=3600000)(j:1<=d/\d<=3600000)(l:k<=5):bl (a^k*d^(5-(k:Int)).toNat).natAbs<=180/\bl (plT c a d k).natAbs<=180:=by obtain⟨e,f⟩:=Zye h g j l;exact⟨(Qs 180 _).2 (aY e O3),(Qs 180 _).2 (aY f O3)⟩
theorem Zw4 (a:Int)(f:0<=a/\a<=3600000)(e:k<=5):bl (a^k).natAbs<=180:=by refine(Qs 180 _).2 ?_;rw [jO];exact aY (aB (fS (show a.natAbs<=3600000 by omega) k) (cY O3 e)) O3
theorem Zzj{fr l ov:Int}{x y z:List Int}(h:Sgo fr l ov x y z){a d:Int}(e:0<=a/\a<=3600000)(f:1<=d/\d<=3600000):∀i,0<gS ov a d x y z i/\bl (gS ov a d x y z i).natAbs<=180
 | 0=>by have g:=h.o1;have j:=h.o2;refine⟨fC O (iI O),(Qs 180 _).2 ?_⟩;show(ov*d^5).natAbs<_;rw [bQ,jO];exact aY (aS (show ov.natAbs<=4294967296 by omega) (fS (show d.natAbs<=3600000 by omega) 5)) O3
 | i+1=>by obtain⟨g,j⟩:=Zzj h e f i;have n:0<Int.gcd (gS ov a d x y z i) (pl (Yg i x y z) a d):=Int.gcd_pos_of_ne_zero_left _ O;have s:=Zqt (gS ov a d x y z i) (pl (Yg i x y z) a d);have u:bl (pl (Yg i x y z) a d).natAbs<=180:=Zho (h.hc i) e f (h.lc i).2;show 0<((Int.gcd _ _:Nat):Int)/\bl ((Int.gcd _ _:Nat):Int).natAbs<=180;exact⟨O,O⟩
def sameP(ov a d:Int)(x y z:List Int)(e g f:Int)(h j l:List Int):Bool:=
 decide (pl x a d/gS ov a d x y z 3=pl h g f/gS e g f h j l 3/\pl y a d/gS ov a d x y z 3=pl j g f/gS e g f h j l 3/\pl z a d/gS ov a d x y z 3=pl l g f/gS e g f h j l 3/\ov*d^5/gS ov a d x y z 3=e*f^5/gS e g f h j l 3)
def Zkx(g ov:Int)(x y z:List Int)(e f:Int)(h j l:List Int):Bool:=decide (g=e) && sameP ov 1 1 x y z f 0 1 h j l
structure Gin (g:Ze):Prop where
 f:My g.1.1
 t:My g.1.2.1
 o:My g.1.2.2
 x:∀a∈g.2.1.2,My a
 y:∀a∈g.2.2.1.2,My a
 z:∀a∈g.2.2.2.2,My a
def seB(g:Ze):Bool:=Zap g.1.1 g.1.2.1 g.1.2.2 g.2.1.2 g.2.2.1.2 g.2.2.2.2
def meG(g h:Ze):Bool:=Zkx g.1.2.1 g.1.2.2 g.2.1.2 g.2.2.1.2 g.2.2.2.2 h.1.1 h.1.2.2 h.2.1.2 h.2.2.1.2 h.2.2.2.2
abbrev SgG (g:Ze):Prop:=Sgo g.1.1 g.1.2.1 g.1.2.2 g.2.1.2 g.2.2.1.2 g.2.2.2.2
def Ie{g:Ze}(h:Gin g)(e:seB g=true):SgG g:=Sgo.of h.x h.y h.z e
def Zdw(ps:List Ze)(i:Nat):Bool:=seB (ps.getD i G0) && (decide (i=0) || meG (ps.getD (i-1) G0) (ps.getD i G0))
def Xc(ps:List Ze):Bool:=(List.range ps.length).all (Zdw ps) && decide (1<=ps.length) && decide (ps.length<=256)
theorem Cz{ps:List Ze}(h:Zdw ps i=true):seB (ps.getD i G0)=true:=by unfold Zdw at h;rw [aQ]at h;exact h.1
theorem okAt_s{ps:List Ze}(h:seB (ps.getD i G0)=false):Zdw ps i=false:=by unfold Zdw;rw [h];rfl
theorem Zvs{ps:List Ze}(h:seB (ps.getD i G0)=true)(e:i=0):Zdw ps i=true:=by unfold Zdw;rw [h,aD e];rfl
theorem Zkj{ps:List Ze}(h:seB (ps.getD i G0)=true)(e:0<i):Zdw ps i=meG (ps.getD (i-1) G0) (ps.getD i G0):=by unfold Zdw;rw [h,aF O];rfl
theorem Zyk (i:Nat){ps:List Ze}(hi:i<ps.length)(h:Zdw ps i=false):Xc ps=false:=by
 unfold Xc;have:(List.range ps.length).all (Zdw ps)=false:=by
  cases hb:(List.range ps.length).all (Zdw ps)with
  | false=>rfl
  | true=>have:=bA.1 hb i (cM.2 hi);rw [h]at this;cases this
 rw [this];rfl
theorem Zo1{ps:List Ze}(h:∀i,i<ps.length->Zdw ps i=true):Xc ps=decide (1<=ps.length/\ps.length<=256):=by unfold Xc;rw [bA.2 λi hi=>h i (cM.1 hi)];simp
theorem Ybk(g:Ze)(i:Nat):seB g=false\/(seB g=true/\i=0)\/(seB g=true/\0<i):=by
 cases seB g
 .exact .inl rfl
 .exact .inr (by rcases aX i with h|h;exact .inl ⟨rfl,h⟩;exact .inr ⟨rfl,h⟩)
theorem Oi{ps:List Ze}(h:Xc ps=true):(∀i,i<ps.length->Zdw ps i=true)/\1<=ps.length/\ps.length<=256:=by unfold Xc at h;simp only [aQ,cS]at h;exact⟨λi hi=>bA.1 h.1.1 i (cM.2 hi),h.1.2,h.2⟩
open Go.ChangeShapes Go.WideShapes Go.ChangeAt Go.RowKit Go.Joins Go.Deep
open Go.Proofs
variable {P:Program} {W:World} {H:Type} {enc:TypeId×Value->H}
theorem Zhh{n:Int}(h:(Lit.int .i64 n).wf=true):My n:=by simp [Lit.wf,IntKind.has,IntKind.min,IntKind.max,IntKind.bits,IntKind.signed]at h;exact⟨O,O⟩
theorem Znv{w:World}{a:Addr}(h:w.cell? a=some v):a.spot=none/\a.block<w.heap.size:=by
 unfold World.cell? at h;split at h
 .rename_i c t f e;refine⟨?_,(aK.1 e).1⟩;cases hs:a.spot with
  | none=>rfl
  | some x=>rw [hs]at h;simp at h
 .cases h
theorem Zha{t e:TypeId}{c:Value}{x:DataW H×List MemPlace}(hs:P.underlying t=some (.slice e))(he:P.underlying e=some (.int .i64))(hc:P.cellsOf e=1)(h:DataW.trod enc P W 0 (λ_=>true) true fuel t [c]=some x) :
  ∃(s:SL) (l:List Int),c=Yx s/\(Yn 1 Xi (Yx s) l).holds W/\∀a∈l,My a:=by
 rcases open_ints hs he hc h with⟨F,_⟩|⟨a,f,n,zs,F,_,hl,hm,hz,_,w,a1⟩
 .cases F;exact⟨(none,0,0),[],rfl,Dg 1 Xi W,λx S=>by cases S⟩
 .cases F;have a2:zs.length=n:=by simpa using hz
  have G:(zs.take f).length=f:=by rw [dO];omega
  by_cases hn:f=0
  .subst hn;exact⟨(some a,0,n),[],rfl,⟨⟨some a,n,rfl,hl,hm,.inl rfl⟩,λb V=>absurd rfl V.1⟩,λx S=>by cases S⟩
  .have c0:=w 0 O;obtain⟨g,B,D⟩:=a;rw [show(⟨g,B,D⟩:Addr).add 0=⟨g,B,D⟩from rfl]at c0;obtain⟨R,Q⟩:=Znv c0;simp only at R Q;subst R;refine⟨(some ⟨g,B,none⟩,f,n),zs.take f,rfl,⟨⟨some ⟨g,B,none⟩,n,by rw [G],by rw [G];exact hl,hm,.inr ⟨g,B,rfl,λi x hi j u Z=>?_⟩⟩,λb V=>by cases V.2;exact Q⟩,λx S=>?_⟩
   .have Y:i<f:=by
     rcases aW i f with h|h
     .exact h
     .rw [cQ (by rw [G];exact h)]at hi;cases hi
    have a0:j=0:=by
     rcases j with _|j
     .rfl
     .simp [Value.cells]at Z
    subst a0;have I:=w i O;rw [Py]at I;rw [List.getElem?_take_of_lt Y]at hi;rw [aN,hi]at I;simp [Value.cells]at Z;subst Z;simpa using I
   .have I:=a1 x (fP S);have h3:=bounds_i64 I;exact⟨O,O⟩
theorem Ybj {t e:TypeId} {f0 f1 f2 f3 f4 f5:Field} {cs:List Value}  {x:DataW H×List MemPlace} (ht:P.underlying t=some (.struct #[f0,f1,f2,f3,f4,f5]))
  (h0:f0.type=ti) (h1:f1.type=ti) (h2:f2.type=ti) (h3:f3.type=ts) (h4:f4.type=ts) (h5:f5.type=ts) (o0:f0.offset=0) (o1:f1.offset=1) (o2:f2.offset=2) (o3:f3.offset=3) (o4:f4.offset=4) (o5:f5.offset=5)
  (hi:P.underlying ti=some (.int .i64)) (hs:P.underlying ts=some (.slice e)) (B:P.underlying e=some (.int .i64)) (w:P.cellsOf e=1) (j:P.cellsOf ti=1) (l:P.cellsOf ts=1) (hC:P.cellsOf t=6)
  (h:DataW.trod enc P W 0 (λ_=>true) true fuel t cs=some x):∃g:Ze,cs=[.int .i64 g.1.1,.int .i64 g.1.2.1,.int .i64 g.1.2.2,Yx g.2.1.1,Yx g.2.2.1.1,Yx g.2.2.2.1]/\(qG g).holds W/\Gin g:=by
 obtain⟨xs,n,_,hx,hl,s,f⟩:=DataW.trod_struct ht h;rw [hC]at hl
 match cs,hl with
 | [c0,c1,c2,c3,c4,c5],_=>
 match xs,s with
 | [y0,y1,y2,y3,y4,y5],_=>
 have S:=f 0 f0 rfl;have V:=f 1 f1 rfl;have Y:=f 2 f2 rfl;have Z:=f 3 f3 rfl;have e4:=f 4 f4 rfl;have e5:=f 5 f5 rfl;rw [h0,o0,j]at S;rw [h1,o1,j]at V;rw [h2,o2,j]at Y;rw [h3,o3,l]at Z;rw [h4,o4,l]at e4;rw [h5,o5,l]at e5;obtain⟨m0,q0,w0⟩:=DataW.trod_int hi S;obtain⟨m1,q1,w1⟩:=DataW.trod_int hi V;obtain⟨m2,q2,w2⟩:=DataW.trod_int hi Y;obtain⟨sx,x,rfl,D,F⟩:=Zha (enc:=enc) hs B w (c:=c3) (x:=y3) Z;obtain⟨sy,y,rfl,G,I⟩:=Zha (enc:=enc) hs B w (c:=c4) (x:=y4) e4;obtain⟨sz,z,rfl,Q,R⟩:=Zha (enc:=enc) hs B w (c:=c5) (x:=y5) e5;simp at q0 q1 q2;subst q0;subst q1;subst q2;exact⟨((m0,m1,m2),(sx,x),(sy,y),(sz,z)),rfl,λu hu=>by
  simp only [aU,cT,fF]at hu;rcases hu with rfl|rfl|rfl
  .exact D
  .exact G
  .exact Q,⟨Zhh w0.2,Zhh w1.2,Zhh w2.2,F,I,R⟩⟩
theorem Ybt {t0 t e:TypeId} {f0 f1 f2 f3 f4 f5:Field}  {d:DataW H} {p:List MemPlace} (l:P.underlying t0=some (.slice t)) (ht:P.underlying t=some (.struct #[f0,f1,f2,f3,f4,f5]))
  (h0:f0.type=ti) (h1:f1.type=ti) (h2:f2.type=ti) (h3:f3.type=ts) (h4:f4.type=ts) (h5:f5.type=ts) (o0:f0.offset=0) (o1:f1.offset=1) (o2:f2.offset=2) (o3:f3.offset=3) (o4:f4.offset=4) (o5:f5.offset=5)
  (hi:P.underlying ti=some (.int .i64)) (hs:P.underlying ts=some (.slice e)) (he:P.underlying e=some (.int .i64)) (hc:P.cellsOf e=1) (S:P.cellsOf ti=1) (V:P.cellsOf ts=1) (hC:P.cellsOf t=6)
  {r:Reach} {b0:Nat} (hv:Value.okWide P W r b0 t0 v) (h:DataW.Trod enc P W 0 (λ_=>true) true t0 v d p):∃ps:List Ze,(Xp 6 Pw qG v ps).holds W/\∀g∈ps,Gin g:=by
 obtain⟨a0,Q,a7,rfl⟩:=okWide_slice l hv;obtain⟨fuel,hf⟩:=h;rcases open_slice l hf with⟨F,_⟩|⟨a,a5,a4,m,n,D,Pl,F,_,hl,hm,B,hx,Y⟩
 .simp [Value.cells]at F;obtain⟨rfl,rfl,rfl⟩:=F;exact⟨[],⟨Dg 6 Pw W,λz hz=>by cases hz⟩,λg w=>by cases w⟩
 .simp [Value.cells]at F;obtain⟨rfl,rfl,rfl⟩:=F;simp at B;subst B
  haveI:Inhabited Ze:=⟨G0⟩
  obtain⟨xs,a2,I⟩:=Zcz (p:=λi (g:Ze)=>W.cells? 0 (a.add (i*6)) 6=some [.int .i64 g.1.1,.int .i64 g.1.2.1,.int .i64 g.1.2.2,Yx g.2.1.1,Yx g.2.2.1.1,Yx g.2.2.2.1]/\(qG g).holds W/\Gin g) Q λi f=>by obtain⟨a8,k2,k3⟩:=Y i O;rw [hC]at k2;obtain⟨g,rfl,k4,k5⟩:=Ybj ht h0 h1 h2 h3 h4 h5 o0 o1 o2 o3 o4 o5 hi hs he hc S V hC k3;exact⟨g,k2,k4,k5⟩
  have s:∀g∈xs,(qG g).holds W/\Gin g:=λg w=>by obtain⟨i,f,rfl⟩:=iC w;exact(I i _ (aM f)).2
  refine⟨xs,⟨⟨⟨some a,m,by rw [a2],O,hm,?_⟩,λb hb=>?_⟩,λg w=>(s g w).1⟩,λg w=>(s g w).2⟩
  .rcases aX Q with hz|hz
   .exact .inl (aH O)
   .right;obtain⟨g,a3,a6⟩:=a;obtain⟨G,_⟩:=Zki l hv;simp only at G;subst G;refine⟨g,a3,rfl,λi x f j u Z=>?_⟩;obtain⟨_,_,R⟩:=World.cells?_some (I i x f).1;have a1:j<6:=by
     rcases aW j 6 with h|h
     .exact h
     .rw [cQ (by simp [Value.cells];omega)]at Z;cases Z
    have:=R j a1;simp only [Py]at this;rw [this];simpa [Value.cells]using Z
  .cases hb.2;exact(Zki l hv).2
end Go.Sky
namespace Go.Sky
open Go.ChangeShapes Go.WideShapes Go.ChangeAt Go.RowKit Go.Joins Go.Deep
open Go.Proofs
variable {P:Program} {W:World} {H:Type} {enc:TypeId×Value->H}
theorem Zvq {t ti:TypeId} {f0 f1 f2:Field} {v:Value} {d:DataW H} {p:List MemPlace} (q:P.underlying t=some (.struct #[f0,f1,f2])) (F:P.cellsOf t=3) (z:f0.type=ti) (B:f1.type=ti) (D:f2.type=ti) (R:f0.offset=0) (S:f1.offset=1) (V:f2.offset=2)
  (hi:P.underlying ti=some (.int .i64)) (f:P.cellsOf ti=1) {r:Reach} {x:Nat} (I:Value.okWide P W r x t v) (h:DataW.Trod enc P W 0 (λ_=>true) true t v d p):∃a b c:Int,v= .agg #[.int .i64 a,.int .i64 b,.int .i64 c]/\My a/\My b/\My c:=by
 obtain⟨y,rfl,e⟩:=okWide_struct q I;obtain⟨o,G⟩:=h;obtain⟨xs,n,_,hx,hl,i,g⟩:=DataW.trod_struct q G;rw [F]at e;obtain⟨l⟩:=y;have e:l.length=3:=by simpa using e
 match l,e with
 | [c0,c1,c2],_=>
 match xs,i with
 | [y0,y1,y2],_=>
 have j:=g 0 f0 rfl;have k:=g 1 f1 rfl;have m:=g 2 f2 rfl;rw [z,R,f]at j;rw [B,S,f]at k;rw [D,V,f]at m;obtain⟨M,s,Y⟩:=DataW.trod_int hi j;obtain⟨N,u,Z⟩:=DataW.trod_int hi k;obtain⟨Q,w,w2⟩:=DataW.trod_int hi m;simp [Value.cells]at s u w;subst s;subst u;subst w;exact⟨M,N,Q,rfl,Zhh Y.2,Zhh Z.2,Zhh w2.2⟩
end Go.Sky
namespace Go.Sky
open Go.RowKit Below
variable {P:Program} {N:Nat} {sc:Nat->Prop} {env env':Qk} {H H':Hp} {Q Q':Exit->Act->World->Prop}
def Yev{n:Nat}{a:String}{args:Array Value}{w:World}{R:Value->World->Prop}(h:Rows P a args w R):RowsIn Fence.wide n P a args w R:=λc b _=>
 let ⟨v,w',r,s⟩:=h c b;⟨v,w',r,stepsIn_wide.2 s⟩
def noQ:Exit->Act->World->Prop:=λ_ _ _=>False
section
variable {ops:Array Oper} {C:World->World->Prop}
def wpAnyZ(P:Program)(ops:Array Oper)(d:List Nat)(C:World->World->Prop)(Q:Exit->Act->World->Prop):Nat->Array Bool->Act->World->Prop
 | 0,_,_,_=>False
 | c+1,b,a,w=>if Ff ops d b=true then wpAnyIn Fence.wide 0 P .any ops Q (c+1) b a w else
  (Region.ready .any ops b=[]->False)/\
  ∀i∈Region.ready .any ops b,wpOp P ops noQ i (λf e=>C w e/\wpAnyZ P ops d C Q c (b.setIfInBounds i true) f e) a w
inductive Dep (ops:Array Oper) (i:Nat):Nat->Prop
 | base {j:Nat} {o:Oper} {e:Edge} : ops[j]? = some o->e∈o.after->Region.binds .any e=true->e.on=i->Dep ops i j
 | step {j:Nat} {o:Oper} {e:Edge} : ops[j]? = some o->e∈o.after->Region.binds .any e=true->Dep ops i e.on->Dep ops i j
def Yh9(ops:Array Oper)(i:Nat):Nat->List Nat
 | 0=>[]
 | k+1=>match ops[k]? with
  | some o=>if o.after.any (λe=>Region.binds .any e && (e.on == i || (Yh9 ops i k).contains e.on))then k::Yh9 ops i k else Yh9 ops i k
  | none=>Yh9 ops i k
def Clo(ops:Array Oper)(a:Array Bool):Prop:=∀k o,ops[k]? = some o->a.getD k true=true->∀e∈o.after,Region.binds .any e=true->a.getD e.on true=true
theorem Clo.set{a:Array Bool}{j:Nat}(g:Clo ops a)(i:j∈Region.ready .any ops a):Clo ops (a.setIfInBounds j true):=λk o m d e h f=>by
 obtain⟨p,r,n,c⟩:=mem_ready.1 i;have q:a.getD e.on true=true:=by
  by_cases b:j=k
  .grind
  .rw [getD_set_ne _ b]at d;exact g k o m d e h f
 by_cases l:j=e.on
 all_goals simp_all
end
def Zyd(ops:Array Oper)(a:List Nat):List (Nat×Nat)->Array Bool->Bool
 | [],_=>true
 | (i,1)::rest,listed=>(Region.ready .any ops listed == [i]) && !(Ff ops a listed) && Zyd ops a rest (listed.setIfInBounds i true)
 | (i,3)::rest,listed=>false
 | (i,_)::rest,listed=>(Region.ready .any ops listed).contains i && Region.free .any ops listed i && !(a.contains i) && a.all (λj=>(Yh9 ops i ops.size).contains j) && Zyd ops a rest (listed.setIfInBounds i true)
def YL(P:Program)(N:Nat)(sc:Nat->Prop)(ops:Array Oper)(Q:Exit->Act->World->Prop)(k:Nat)(b:Array Bool)(env:Qk)(H:Hp):Prop:=
 ∀a w,Sat N sc env H a w->wpAnyIn Fence.wide 0 P .any ops Q (k+1) b a w
end Go.Sky
namespace Go.Sky
open Go.RowKit Below
variable {P:Program} {N:Nat} {sc:Nat->Prop} {env env':Qk} {H H':Hp} {Q Q':Exit->Act->World->Prop}
def CalY(P:Program)(f:FuncId)(d:List Value)(pre:List Pc)(i:Prop){G:Type}(j:G->Prop)(h:G->Value):Prop:=
 ∀(l:Nat) (J:World->Prop) (w:World),(∀p∈pre,p.holds w)->
  (∀g,j g->∀a,Below w.heap.size w a->YieldAt Fence.wide 0 P l #[h g] a λe c=>e= .returned (.bool false)/\J c)->
  Calls P f (.func (.yield l) #[] #[]::d).toArray w λe b=>(∃v,e= .returned v)/\((i/\Below w.heap.size w b)\/J b)
def FPostY(P:Program)(fn:Func)(w0:World)(b:Prop)(J:World->Prop):Exit->Act->World->Prop:=
 bodyPost P fn λe a=>(∃v,e= .returned v)/\((b/\Below w0.heap.size w0 a)\/J a)
def YJ(P:Program)(w0:World)(l:Nat){G:Type}(d:G->Prop)(c:G->Value)(J:World->Prop):Prop:=
 ∀g,d g->∀a,Below w0.heap.size w0 a->YieldAt Fence.wide 0 P l #[c g] a λe b=>e= .returned (.bool false)/\J b
theorem Zsa{fn:Func}{tmps:Array Value}{w:World}(a:fn.results=#[]):(results fn tmps).run P w= .ok (.tuple #[]) w:=by simp_all [Zj9]
end Go.Sky
namespace Go.Sky
open Go.RowKit Below
variable {P:Program} {N:Nat} {sc:Nat->Prop} {env env':Qk} {H H':Hp} {Q Q':Exit->Act->World->Prop}
end Go.Sky
namespace Go.Sky
open Go.RowKit Below
variable{f:FuncId}{vs:List Value}{pre:List Pc}{o:Oper}{a:Act}{w:World}{K K':Act->World->Prop}{r:Nat}{ρ:Operand->Value}{Q1:Exit->Act->World->Prop}
variable {P:Program} {N:Nat} {sc:Nat->Prop} {env env':Qk} {H H':Hp} {Q Q':Exit->Act->World->Prop}
def Zc6(P:Program)(fn:Func)(w0:World)(pre:List Pc)(al:Bool){G:Type}(φ:G->Prop)(val:G->Value)(c:G->List Pc):Exit->Act->World->Prop:=
  bodyPostM Fence.wide 0 P fn λe d => ∃ g, e = .returned (val g) /\ φ g /\ Below w0.heap.size w0 d /\
        ∀p∈c g,p.holds d/\p.own=false/\∀b,p.fp b->w0.heap.size<=b\/(al=true/\∃q∈pre,q.fp b)
theorem Zds  {fn:Func} {c:Code}   {al:Bool} {G:Type} {φ:G->Prop} {val:G->Value} {k:G->List Pc} {N:Nat}
    (y:P.funcs[f]? = some fn) (d:fn.body=some c) (M:fn.ntmps=N) (z:Nat.ble vs.length N=true) (m:AllRo pre)
    (h:∀w0 (sc:Nat->Prop),(∀b,w0.heap.size<=b->sc b)->(∀b,sc b->w0.heap.size<=b\/∃q∈pre,q.fp b)->
      E P N sc c (Zc6 P fn w0 pre al φ val k) (Qi 0 vs) ((0,Zt w0 (λ_=>False))::Yl 1 pre)) :
    Cal P f vs.toArray pre al φ val k:=λw F=>by
  refine(callsIn_wide).1 (callsIn_of_wp_marks y d aA (wpIn_wide.2 (h w _ (λb d=> .inl d) (λb d=>d) _ w ?_)));have s:vs.length<=N:=O10;refine⟨O4,rfl,λt v I=>?_,λi p hi=>?_,λi j p q D hi R u b d x=>?_,λi p l hi b d=>?_⟩
  . have n:=(Hu vs 0 t v I).2;have n:vs.toArray[t]? = some v:=O4;have B:=(aK.1 n).1;simp_all [bE,dP]
  . by_cases g:0=i
    . subst g;cases hi;exact Chg.refl _ w
    . rw [Zh _ _ g]at hi;exact F p (Ou pre 1 i p hi).2
  . by_cases g:0=i
    . subst g;cases hi;cases u
    . rw [Zh _ _ g]at hi;rw [m.mem p (Ou pre 1 i p hi).2]at u;grind
  . rw [Zh _ _ (λe=>l e.symm)]at hi;exact .inr ⟨p,(Ou pre 1 i p hi).2,d⟩
def onlyR(Q:Exit->Act->World->Prop):Exit->Act->World->Prop:=Iu Q
theorem Ig:¬LetsOut (Iu Q):=λ⟨_,_,h⟩=>h
theorem Zym(b:∀c,o.op≠ .defer c)(h:o.wp P a w K (Iu Q)):o.wpIn (Fence.wide.inRound r) 0 P a w K Q:=by
  refine⟨λ_ _=>trivial,?_⟩;unfold Oper.wp at h;show o.uponIn _ 0 P a K Q ((o.semAt (some r) _).run P w);rw [Oper.semAt_some r _ o b];generalize (execOp _ o).run P w=x at *;cases x with
  | ok n g=>
    cases n<;>simp only [Oper.upon,Oper.uponIn]at h ⊢
    case value=>omega
    case skip=>omega
    case defer=>omega
    case enter f args=>
      refine⟨λh=>(by cases h),CallsIn.inRound r (callsIn_wide.2 (h.mono λe i d=>?_))⟩;cases e with
      | returned v=>omega
      | panicked c=>exact d.elim
      | outgrown=>grind [Ig]
    case row row args=>exact⟨λh=>(by cases h),Yev h⟩
  | halt x g=>
    cases x<;>simp only [Oper.upon]at h
    case panic u=>exact h.elim
def Zit(l:List Oper):Prop:=∀o∈l,∀c,o.op≠ .defer c
theorem Zpf{ops:Array Oper}{r:Nat} : ∀(l:List Oper) (a:Act) (w:World),Zit l->wpList P ops (Iu Q) l a w->wpListIn (Fence.wide.inRound r) 0 P ops Q l a w
  | [],_,_,_,h=>h
  | o::l,a,w,hnd,h=>by
    unfold wpList at h;unfold wpListIn;split
    . rename_i c;simp only [c,iW]at h;exact Oper.wpIn_mono (λa w d=>Zpf l a w (λo b=>hnd o (bN _ b)) d) (Zym (hnd o (bX ..)) (h.resolve_right λh=>Ig h.2))
    . rename_i c;simp only [c]at h;exact⟨λ_ _=>trivial,Zpf l _ w (λo b=>hnd o (bN _ b)) h⟩
def Ye1{id:Nat}{l:List Oper}(b:Zit l)(h:L P N sc l.toArray l (Iu Q) env H)(hs:Sat N sc env H a w):(Code.region id l.toArray false).wpIn (Fence.wide.inRound r) 0 P Q a w:=
  wpIn_region_lit (Zpf l a w b (h a w hs))
def fx(l:Nat)(o:Obj):Pc:=
  { own:=false,fp:=λb=>b=l,holds:=λw=>w.heap[l]? = some o
    lt:=λw b h c=>by subst c;exact(aK.1 h).1
    stable:=λw g h d=>(d.block l (aK.1 h).1 (λe=>e rfl)).trans h }
def Zfr(o:Oper):Bool:=match o.op with
  | .build ..=>true
  | .store ..=>true
  | .load ..=>true
  | .alloc ..=>true
  | _=>false
theorem Yfe(h:Zfr o=true){w':World}{d:Deferred} : (execOp ρ o).run P w≠ .ok (.defer d) w':=λb=>by
  unfold Zfr at h;cases ho:o.op<;>simp only [ho]at h<;>try (cases h)
  all_goals
    simp only [execOp,ho,Sem.run_bind]at b;revert b;generalize Sem.run P _ w=r;cases r<;>simp [Result.andThen,Sem.run_pure]
theorem Zkb(a:Act)(ds:List Deferred)(d:Option Tmp)(v:Value):({ a with defers:=ds } : Act).put d v={ a.put d v with defers:=ds }:=by cases d<;>rfl
theorem Ylz    {ds:List Deferred}   (b:Zfr o=true) (k:∀a w,K a w->K' { a with defers:=ds } w)
    (l:∀e a w,¬Q1 e a w) (h:o.wp P a w K Q1):o.wp P { a with defers:=ds } w K' Q:=by
  unfold Oper.wp at h ⊢;have i:=λd w'=>Yfe (P:=P) b (ρ:=a.eval) (w:=w) (w':=w') (d:=d);show o.upon P _ K' Q ((execOp a.eval o).run P w);generalize (execOp _ o).run P w=x at *;cases x with
  | ok n w'=>
    cases n<;>simp only [Oper.upon]at h ⊢
    case value=>grind [Zkb]
    case skip=>grind [Zkb]
    case defer d=>grind
    case enter f args=>
      refine h.mono λe j g=>?_;cases e with
      | returned v=>grind [Zkb]
      | panicked c=>grind
      | outgrown=>obtain⟨_,_,h⟩:=g;grind
    case row row args=>exact h.mono λ_ _ g=>by grind [Zkb]
  | halt x w'=>
    cases x<;>simp only [Oper.upon]at h;grind
theorem Zpg{ops:Array Oper}{ds:List Deferred} : ∀(l:List Oper) (a:Act) (w:World),l.all Zfr=true->wpList P ops (Iu λe a w=>Q e { a with defers:=ds } w) l a w->wpList P ops Q l { a with defers:=ds } w
  | [],_,_,_,h=>h
  | o::l,a,w,hnd,h=>by
    simp only [List.all_cons,aQ]at hnd;unfold wpList at h ⊢;split
    . rename_i d;simp only [d,iW]at h;have h:=h.resolve_right λh=>Ig h.2;refine .inl (Ylz hnd.1 (λa w g=>Zpg l a w hnd.2 g) (λ_ _ _ h=>h) ?_);unfold Oper.wp at h ⊢;revert h;generalize (execOp _ o).run P w=x;intro h;cases x with
      | ok n i=>
        cases n<;>simp only [Oper.upon]at h ⊢
        case value=>exact h
        case skip=>exact h
        case defer=>exact h
        case enter f args=>
          refine h.mono λe j b=>?_;cases e with
          | returned v=>exact b
          | panicked c=>exact b
          | outgrown=>exact absurd b Ig
        case row row args=>exact h
      | halt x i=>
        cases x<;>simp only [Oper.upon]at h ⊢
        case panic u=>exact h
    . rename_i d;rw [aJ d]at h;rw [Zkb];exact Zpg l _ w hnd.2 h
end Go.Sky

