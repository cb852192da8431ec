/- Rules, arithmetic and contracts: part 7. No conditions but those that each theorem names. -/
import Derived.Test.YthennaflbbajkaaGreatAk05
import Derived.RangeFuncFrom
import Derived.RangeFuncLeaves
import Derived.OrdersIn
import Derived.TacticsIn
import Derived.RangeFuncCalls
set_option linter.all false
namespace Go.Sky
variable{a b:R2}{x lo:Rat}{c p xs r rest before q z:List Int}{d y ov:Int}{v:Value}{t i M N k fuel:Nat}{ls cs:List (SL×List Int)}{ds:List (List Int)}{ti ts:TypeId}
theorem Zga{a b:List Int}(h:Sim a b):∃c d:Int,c≠0/\d≠0/\∀x:Rat,(c:Rat)*Zc a x=(d:Rat)*Zc b x:=by obtain⟨c,d,f,g,e⟩:=h;exact⟨c,d,f,g,λx=>by rw [<-Zi,<-Zi];exact Ol x _ _ λi=>by rw [Qr,Qr];exact e i⟩
theorem Fo(h:x≠0):0<x*x:=by
 rcases(show 0<x\/x<0 by grind)with q|q
 .exact aT q q
 .have:=aT (a:=-x) (b:=-x) O5 O5;grind
theorem Pq{c:Int}(h:c≠0):(c:Rat)≠0:=λe=>h (by exact_mod_cast e)
theorem Zgs{a b a' e c d:Rat}(g:c≠0)(j:d≠0)(l:c*a'=d*a)(m:c*e=d*b)(h:a*b<0):a'*e<0:=by
 have n:(c*c)*(a'*e)=(d*d)*(a*b):=O5;have o:=Fo g;have f:=Fo j;rcases(show a'*e<0\/0<=a'*e by grind)with q|q
 .exact q
 .have s:=aD (a:=c*c) (b:=a'*e) O5 q;have u:=aT (a:=d*d) (b:=-(a*b)) f O5;grind
theorem Yhj{g j e f:Rat}(h:g*(e*e)*(j*(f*f))<0):g*j<0:=by
 rcases(show g*j<0\/0<=g*j by grind)with q|q
 .exact q
 .have m:0<=e*f*(e*f):=by
   by_cases l:e*f=0
   .rw [l];grind
   .exact cT (Fo l)
  have n:=aD q m;grind
theorem Zn9{F n:Nat}{o:List Int}(h:Tr p)(l:p≠[])(hs:Sz n p)(S:n<=220)(R:p.length<=11)(I:p.length<=F+1)(ho:o=Zfk F p.length (Xu p))(f:Tr o)(Y:o≠[])(G:Zad F o){a b:Rat}(a0:a<b)(h1:Dr p.length p a=1)(h2:Zc p b<0):vch F o b<vch F o a:=by
 have u:=Dp.start h l;have g:=(u.ok h l hs S R I).2;have j:Zbj F p:=by unfold Zbj at g ⊢;rwa [u.2.2.1]at g
 obtain⟨⟨B,D⟩,H⟩:=Ec h l hs S R I p.length (Xu p) u (by rw [Pp h];exact aI _);rw [<-ho]at D H;rw [Zpf u.2.2.1]at H;obtain⟨-,W⟩:=Zty h l hs S R I f Y G.1.2.2.1 j H;obtain⟨δ,d1,d2⟩:=Ay p.length p a (aI _);obtain⟨s,s1,s2,s3⟩:∃s,a<s/\s<=a+δ/\s<b:=by
  rcases(show a+δ<b\/b<=a+δ by grind)with q|q
  .exact⟨a+δ,O5,O5,q⟩
  .exact⟨(a+b)/2,O5,O5,O5⟩
 have V:0<Zc p s:=by
  have:=d2 s s1 s2;rw [h1]at this;rcases Pe (Zc p s)with⟨w,m⟩|⟨w,m⟩|⟨w,m⟩
  .exact w
  .rw [m]at this;exact absurd this O4
  .rw [m]at this;exact absurd this O4
 have k1:Zc p s*Zc p b<0:=by have:=aT (a:=Zc p s) (b:=-Zc p b) V O5;grind
 obtain⟨c,d,hc,hd,e⟩:=Zga ((Hj (Yw p)).trans (Qx h):Sim (Xu p) p);have k2:Zc (Xu p) s*Zc (Xu p) b<0:=Zgs (Pq hc) (Pq hd) (e s) (e b) k1;rw [D s,D b]at k2;have k3:=Yhj k2;obtain⟨c',d',P,Q,Z⟩:=Zga ((Hj (Yw o)).trans (Qx f):Sim (Xu o) o);have k4:Zc (Xu o) s*Zc (Xu o) b<0:=Zgs (Pq P) (Pq Q) (Z s) (Z b) k3;rw [<-W]at k4;have m1:=Zkh f Y G (cT s1);rcases iQ (vch F o b) (vch F o s)with q|q
 .exact Int.lt_of_lt_of_le q m1
 .exfalso;have hz:Zc (sqf F o) s≠0:=λe9=>by rw [e9]at k4;grind
  have:=Zee f Y G (cT s3) q hz b (cT s3) O5;grind
theorem Zhn:∀(n:Nat) (p:List Int) (x:Rat),Tr p->p≠[]->p.length<=n->Dr n p x≠0
 | 0,p,x,_,j,w=>absurd (aK O1) j
 | n+1,p,x,o,j,w=>by
  unfold Dr;by_cases h:Zc p x≠0
  .rw [aO h];rcases Pe (Zc p x)with⟨l,g⟩|⟨l,g⟩|⟨l,g⟩
   .rw [g];decide
   .rw [g];decide
   .exact absurd l h
  .rw [aF h];have s:Zc p x=0:=cJ.1 h;have f:=Nx p;refine Zhn n (Xg p) x (Mp o) (λe=>?_) O1;rw [e]at f;have B:=aN.2 j;have m:p.length=1:=by simp at f;omega
   match p,m with
   | [c],_=>
    have u:c≠0:=o.mem O8;rw [Pw]at s;exact Pq u s
theorem Zsg(n:Nat)(p:List Int)(x:Rat):-1<=Dr n p x/\Dr n p x<=1:=by
 induction n generalizing p with
 | zero=>show -1<=(0:Int)/\(0:Int)<=1;decide
 | succ n e=>unfold Dr;split;exact Ygj;exact e _
def Zax(F:Nat)(o:List Int)(a b:Rat):Prop:=0<vch F o a-vch F o b-(if Zc o b=0 then 1 else 0)
theorem Yhx{F n:Nat}{o:List Int}(f:Tr p)(g:p≠[])(hs:Sz n p)(H:n<=220)(G:p.length<=11)(D:p.length<=F+1)(I:o=Zfk F p.length (Xu p))(s:Tr o)(Y:o≠[])(S:Zad F o){a b:Rat}(l:a<b) :
  (Zc p a<0\/Zc p b<0\/Dr p.length p a<0\/Zax F o a b)↔(Dr p.length p a<0\/Zax F o a b):=by
 constructor
 .rintro(h|h|h|h)
  .left;rw [Zyv p.length p a O5 (aI _),Zn0 h];decide
  .have r:=Zsg p.length p a;have r0:=Zhn p.length p a f g (aI _);rcases(show Dr p.length p a<0\/Dr p.length p a=1 by omega)with j|j
   .exact .inl j
   .right;have hv:=Zn9 f g hs H G D I s Y S l j h;have V:=Dp.start f g;obtain⟨⟨B,w⟩,-⟩:=Ec f g hs H G D p.length (Xu p) V (by rw [Pp f];exact aI _);rw [<-I]at w;obtain⟨c,d,Z,W,e⟩:=Zga ((Hj (Yw p)).trans (Qx f):Sim (Xu p) p);have m:Zc o b≠0:=λP=>by
     have u:(c:Rat)*Zc (Xu p) b=(d:Rat)*Zc p b:=e b;rw [w b,P]at u;have Q:=Pq W;have R:(d:Rat)*Zc p b=0:=by rw [<-u];grind
     rcases fG.1 R with q|q
     .exact Q q
     .rw [q]at h;grind
    unfold Zax;rw [aF m];omega
  .exact .inl h
  .exact .inr h
 .rintro(h|h)
  .exact .inr (.inr (.inl h))
  .exact .inr (.inr (.inr h))
theorem Ydr(p:List Int)(x:Rat)(h:Zc p x≠0):∃δ:Rat,0<δ/\∀y,x-δ<=y->y<=x->Dk (Zc p y)=Dk (Zc p x):=by
 obtain⟨L,u,j⟩:=Bo (x-1) x p;obtain⟨δ,g,m,n⟩:=Gn (show(0)<1 by rfl) (show 0<L+1 by grind) (show 0<(if 0<Zc p x then Zc p x else -Zc p x)/2 by grind);refine⟨δ,g,λy o s=>?_⟩;have l:=j y x O5 O5 O8;have b:=aD (a:=L) (b:=δ-(x-y)) O5 O5;rcases Pe (Zc p x)with⟨e,f⟩|⟨e,f⟩|⟨e,f⟩
 .grind [Zzq]
 .grind [Zn0]
 grind
theorem rsg_1(h:Dk x=1):0<x:=by grind [Pe]
theorem Zpm(h:Dk x=-1):x<0:=by
 rcases Pe x with⟨e,f⟩|⟨e,f⟩|⟨e,f⟩
 all_goals omega
def Zy0(p:List Int)(a b:Rat):Prop:=∃x,a<=x/\x<=b/\Zc p x<0
theorem Yju  {F:Nat} (hx:Tr xs) (h0:xs≠[]) (hC:Zad F xs) {a b σ:Rat} (hσ:σ≠0) (a0:a<b)
  (f:∀x,a<=x->x<b->∃δ:Rat,0<δ/\∀y,x<y->y<=x+δ->y<=b->0<σ*Zc (sqf F xs) y) :
  vch F xs a-vch F xs b<=(if Zc (sqf F xs) b=0 then 1 else 0):=by
 obtain⟨h,h1,Q⟩:=Zmz hx h0 hC a b;have S:∀x,a<=x->x<b->0<=σ*Zc (sqf F xs) x:=λx ha hb=>by
  rcases(show 0<=σ*Zc (sqf F xs) x\/σ*Zc (sqf F xs) x<0 by grind)with q|q
  .omega
  .exfalso;have W:Zc (sqf F xs) x≠0:=λe=>O11;obtain⟨δ,d1,B⟩:=f x ha hb;obtain⟨ε,e1,P⟩:=Zoa (sqf F xs) x W;obtain⟨y,H,Z,y3,y4⟩:∃y,x<y/\y<=x+δ/\y<=x+ε/\y<=b:=by
    rcases(show δ<=ε\/ε<=δ by grind)with w|w
    all_goals grind
   have Y:=B y H Z y4;have j:=P y H y3;rcases Pe (Zc (sqf F xs) x)with⟨D,g⟩|⟨D,g⟩|⟨D,g⟩
   .rw [g]at j;have G:=rsg_1 j;rcases(show σ<0\/0<σ by grind)with s|s
    .have:=aT (a:=-σ) (b:=Zc (sqf F xs) y) O5 G;grind
    grind [Rat.mul_pos]
   .rw [g]at j;have G:=Zpm j;rcases(show σ<0\/0<σ by grind)with s|s
    .have:=aT (a:=-σ) (b:=-Zc (sqf F xs) x) O5 O5;grind
    .have:=aT (a:=σ) (b:=-Zc (sqf F xs) y) s O5;grind
   grind
 have a3:0<=σ*Zc (sqf F xs) b:=by
  rcases(show 0<=σ*Zc (sqf F xs) b\/σ*Zc (sqf F xs) b<0 by grind)with q|q
  .omega
  .exfalso;have W:Zc (sqf F xs) b≠0:=λe=>O11;obtain⟨ε,e1,P⟩:=Ydr (sqf F xs) b W;obtain⟨y,H,Z,y3⟩:∃y,a<=y/\y<b/\b-ε<=y:=by grind
   obtain⟨δ,d1,B⟩:=f y H Z;obtain⟨z,z1,z2,m⟩:∃z,y<z/\z<=y+δ/\z<=b:=by grind
   have Y:=B z z1 z2 m;have j:=P z O5 m;rcases Pe (Zc (sqf F xs) b)with⟨D,g⟩|⟨D,g⟩|⟨D,g⟩
   .rw [g]at j;have G:=rsg_1 j;rcases(show σ<0\/0<σ by grind)with s|s
    .have:=aT (a:=-σ) (b:=Zc (sqf F xs) z) O5 G;grind
    grind [Rat.mul_pos]
   .rw [g]at j;have G:=Zpm j;rcases(show σ<0\/0<σ by grind)with s|s
    .have:=aT (a:=-σ) (b:=-Zc (sqf F xs) b) O5 O5;grind
    .have:=aT (a:=σ) (b:=-Zc (sqf F xs) z) s O5;grind
   grind
 have l:∀u v,a<=u->u<=v->v<=b->v-u<=h/2->vch F xs u-vch F xs v<=(if v=b/\Zc (sqf F xs) b=0 then 1 else 0):=λu v o c2 I c4=>by
  have e:=Q u v o c2 I O5;have e':vch F xs u-vch F xs v=crs (Zc (sqf F xs)) u v:=e;rw [e'];unfold crs;by_cases R:Zc (sqf F xs) u≠0/\Zc (sqf F xs) u*Zc (sqf F xs) v<=0
  .rw [aO R];have V:u<b:=by
    rcases(show u<b\/u=b by grind)with q|q
    .omega
    .exfalso;have:v=u:=O5;subst this;have:=Fo R.1;grind
   have g1:=S u o V;have g2:0<=σ*Zc (sqf F xs) v:=by grind
   have a4:Zc (sqf F xs) v=0:=by
    rcases(show Zc (sqf F xs) v=0\/Zc (sqf F xs) v≠0 by grind)with q|q
    .omega
    .exfalso;have m1:=aD g1 g2;have m2:=Fo hσ;have m3:(σ*σ)*(Zc (sqf F xs) u*Zc (sqf F xs) v)>=0:=O5;rcases(show Zc (sqf F xs) u*Zc (sqf F xs) v<0\/Zc (sqf F xs) u*Zc (sqf F xs) v=0 by grind)with w|w
     .have:=aT m2 (show 0 < -(Zc (sqf F xs) u*Zc (sqf F xs) v) by grind);grind
     grind
   rcases(show v<b\/v=b by grind)with q|q
   .exfalso;obtain⟨δ,d1,B⟩:=f v O5 q;obtain⟨z,z1,z2,m,z4⟩:∃z,v<z/\z<=v+δ/\z<=b/\z-v<=h/2:=by
     rcases(show δ<=h/2\/h/2<=δ by grind)with w|w
     .rcases(show v+δ<=b\/b<=v+δ by grind)with t|t
      all_goals grind
     .rcases(show v+h/2<=b\/b<=v+h/2 by grind)with t|t
      all_goals grind
    have Y:=B z z1 z2 m;have a1:=Q u z o O5 m O5;have a2:=Q v z O5 O5 m O5;have r1:crs (Zc (sqf F xs)) u z=0:=by
     unfold crs;rw [aF];rintro⟨w1,w2⟩;have g3:0<σ*Zc (sqf F xs) u:=by grind
     have m1:=aT g3 Y;have m2:=Fo hσ;have m3:0<(σ*σ)*(Zc (sqf F xs) u*Zc (sqf F xs) z):=O5;have m4:=aD (a:=σ*σ) (b:=-(Zc (sqf F xs) u*Zc (sqf F xs) z)) O5 O5;grind
    have r2:crs (Zc (sqf F xs)) v z=0:=by unfold crs;all_goals grind
    have r3:crs (Zc (sqf F xs)) u v=1:=by unfold crs;grind
    omega
   grind
  .rw [aF R]
   all_goals omega
 have a5:∀n:Nat,∀u,a<=u->u<=b->b-u<=(n:Rat)*(h/2)->vch F xs u-vch F xs b<=(if Zc (sqf F xs) b=0 then 1 else 0):=λn=>by
  induction n with
  | zero=>
   grind
  | succ n ih=>
   intro u o c2 I;push_cast at I;by_cases hy:b-u<=h/2
   .grind
   .have i1:=ih (u+h/2) O5 O5 O5;have i2:=l u (u+h/2) o O5 O5 O5;rw [aF (λe=>O5)]at i2;omega
 obtain⟨n,hn⟩:=Zhm (b-a) (show 0<h/2 by grind);grind
structure Odp (F n:Nat) (p o:List Int):Prop where
 tr:Tr p
 ne:p≠[]
 sz:Sz n p
 hn:n<=220
 hl:p.length<=11
 hF:p.length<=F+1
 eq:o=Zfk F p.length (Xu p)
 otr:Tr o
 one:o≠[]
 ok:Zad F o
theorem Odp.sq{F n:Nat}{o:List Int}(h:Odp F n p o):∃(c d:Int) (B:List Int),c≠0/\d≠0/\∀x:Rat,(d:Rat)*Zc p x=(c:Rat)*(Zc o x*(Zc B x*Zc B x)):=by have g:=Dp.start h.tr h.ne;obtain⟨⟨B,f⟩,-⟩:=Ec h.tr h.ne h.sz h.hn h.hl h.hF p.length _ g (by rw [Pp h.tr];omega);rw [<-h.eq]at f;obtain⟨c,d,j,l,e⟩:=Zga ((Hj _).trans (Qx h.tr));exact⟨c,d,B,j,l,λx=>by rw [<-f x];exact(e x).symm⟩
theorem Odp.sqf{F n:Nat}{o:List Int}(h:Odp F n p o):Go.Sky.sqf F o=Xu o:=by
 have g:=Dp.start h.tr h.ne;have e:=(g.ok h.tr h.ne h.sz h.hn h.hl h.hF).2;have f:Zbj F p:=by unfold Zbj at e ⊢;rwa [g.2.2.1]at e
 obtain⟨-,j⟩:=Ec h.tr h.ne h.sz h.hn h.hl h.hF p.length _ g (by rw [Pp h.tr];omega);rw [<-h.eq]at j;rw [Zpf g.2.2.1]at j;exact(Zty h.tr h.ne h.sz h.hn h.hl h.hF h.otr h.one h.ok.1.2.2.1 f j).2
theorem Odp.srt{F n:Nat}{o:List Int}(h:Odp F n p o):∃c d:Int,c≠0/\d≠0/\∀x:Rat,(c:Rat)*Zc (Go.Sky.sqf F o) x=(d:Rat)*Zc o x:=by rw [h.sqf];exact Zga ((Hj _).trans (Qx h.otr))
theorem Odp.zero{F n:Nat}{o:List Int}(h:Odp F n p o)(x:Rat):Zc (Go.Sky.sqf F o) x=0↔Zc o x=0:=by obtain⟨c,d,f,g,e⟩:=h.srt;grind [Rat.mul_eq_zero,Pq]
theorem Odp.nz{F n:Nat}{o:List Int}(h:Odp F n p o)(j:Zc p x≠0):Zc o x≠0:=λz=>by obtain⟨c,d,B,f,g,e⟩:=h.sq;grind [Rat.mul_eq_zero,Pq]
theorem Odp.opp{F n:Nat}{o:List Int}(h:Odp F n p o){y:Rat}(j:Zc p x*Zc p y<0):Zc o x*Zc o y<0/\Zc (Go.Sky.sqf F o) x*Zc (Go.Sky.sqf F o) y<0:=by obtain⟨c,d,B,s,u,e⟩:=h.sq;have w:=Zgs (Pq s) (Pq u) (e x).symm (e y).symm j;have m:=Yhj w;obtain⟨D,G,f,g,l⟩:=h.srt;exact⟨m,Zgs (Pq f) (Pq g) (l x) (l y) m⟩
theorem Odp.sem{F n:Nat}{o:List Int}(h:Odp F n p o){a b:Rat}(j:a<b):(Dr p.length p a<0\/Zax F o a b)↔Zy0 p a b:=by
 have H:=Yhx h.tr h.ne h.sz h.hn h.hl h.hF h.eq h.otr h.one h.ok j;constructor
 .rintro(l|l)
  .obtain⟨δ,I,s⟩:=Ay p.length p a (aI _);have r:=Zsg p.length p a;have hm:Dr p.length p a=-1:=O1;rcases(show a+δ<=b\/b<=a+δ by grind)with q|q
   .exact⟨a+δ,O5,q,Zpm O5⟩
   .exact⟨b,O5,O8,Zpm O5⟩
  .rcases Classical.em (Zy0 p a b)with q|q
   .omega
   .exfalso;have a0:∀x,a<=x->x<=b->0<=Zc p x:=λx u v=>by
     rcases(show 0<=Zc p x\/Zc p x<0 by grind)with w|w
     .omega
     .exact absurd ⟨x,u,v,w⟩ q
    have g:∀x,a<=x->x<b->∃δ:Rat,0<δ/\∀y,x<y->y<=x+δ->y<=b->0<Zc p y:=λx u v=>by obtain⟨δ,I,s⟩:=Ay p.length p x (aI _);have r:=Zsg p.length p x;have r0:=Zhn p.length p x h.tr h.ne (aI _);grind [Pe,r0]
    obtain⟨δ,I,s⟩:=g a O8 j;obtain⟨z,z1,z2,z3⟩:∃z,a<z/\z<=a+δ/\z<=b:=by grind
    have hz:=s z z1 z2 z3;have hσ:Zc (Go.Sky.sqf F o) z≠0:=λe=>h.nz (x:=z) O5 ((h.zero z).1 e);have hf:=Yju h.otr h.one h.ok (σ:=Zc (Go.Sky.sqf F o) z) hσ j (λx u v=>by
     obtain⟨ε,W,Y⟩:=g x u v;refine⟨ε,W,λy R S V=>?_⟩;have hy:=Y y R S V;have a1:Zc (Go.Sky.sqf F o) y≠0:=λe=>h.nz (x:=y) O5 ((h.zero y).1 e);rcases(show 0<Zc (Go.Sky.sqf F o) z*Zc (Go.Sky.sqf F o) y\/Zc (Go.Sky.sqf F o) z*Zc (Go.Sky.sqf F o) y<0\/Zc (Go.Sky.sqf F o) z*Zc (Go.Sky.sqf F o) y=0 by grind)with w|w|w
     .omega
     .exfalso;obtain⟨c,d,B,Z,hd,e⟩:=h.sq;obtain⟨c',d',D,G,P⟩:=h.srt;have w1:Zc o z*Zc o y<0:=Zgs (Pq G) (Pq D) (P z).symm (P y).symm w;have p1:=aT hz hy;have Q:((d:Rat)*(d:Rat))*(Zc p z*Zc p y)=((c:Rat)*(c:Rat))*((Zc o z*Zc o y)*((Zc B z*Zc B y)*(Zc B z*Zc B y))):=by grind
      have m:=aT (Fo (Pq hd)) p1;have q3:0<=(Zc B z*Zc B y)*(Zc B z*Zc B y):=by grind [Rat.le_of_lt,Fo]
      have q4:=aD (cT (Fo (Pq Z))) (aD (show 0<=-(Zc o z*Zc o y) by grind) q3);grind
     grind)
    unfold Zax at l;by_cases f:Zc o b=0
    .grind
    .rw [aF f]at l;rw [aF (λe=>f ((h.zero b).1 e))]at hf;omega
 .rintro⟨x,x1,x2,x3⟩;rcases(show x=a\/x=b\/(a<x/\x<b) by grind)with q|q|⟨Q,m⟩
  .grind
  .grind
  .have r:=Zsg p.length p a;have r0:=Zhn p.length p a h.tr h.ne (aI _);rcases(show Dr p.length p a<0\/Dr p.length p a=1 by omega)with l|l
   .omega
   .right;have hv:=Zn9 h.tr h.ne h.sz h.hn h.hl h.hF h.eq h.otr h.one h.ok Q l x3;have m1:=Zkh h.otr h.one h.ok (cT m);unfold Zax;by_cases f:Zc o b=0
    .rw [aO f];have hx:Zc (Go.Sky.sqf F o) x≠0:=λe=>h.nz (x:=x) O5 ((h.zero x).1 e);rcases iQ (vch F o b) (vch F o x)with w|w
     .omega
     .exfalso;have:=Zee h.otr h.one h.ok (cT m) w hx b (cT m) O8;rw [(h.zero b).2 f]at this;grind
    grind
theorem Zup(g:Rat->Rat){h:Rat}(f:0<h):∀(n:Nat) (u v:Rat),u<v->v-u<=(n:Rat)*h->g u*g v<0->∃x y,u<=x/\x<y/\y<=v/\y-x<=h/\g x≠0/\g x*g y<=0
 | 0,u,v,a,b,_=>O5
 | n+1,u,v,a,b,c=>by
  have j:g u≠0:=λe=>O11;by_cases o:v-u<=h
  .grind
  .rcases(show g u*g (u+h)<=0\/0<g u*g (u+h) by grind)with q|q
   .grind
   .have l:g (u+h)*g v<0:=by
     have m:=Fo j;rcases(show g (u+h)*g v<0\/0<=g (u+h)*g v by grind)with w|w
     .omega
     .have I:=aT q (show 0 < -(g u*g v) by grind);have P:=aD (cT m) w;grind
    obtain⟨x,y,s,B,D,F,G,H⟩:=Zup g f n _ v O5 O5 l;grind
theorem Zn7{a b c:Rat}(h:a*b<0)(e:a-b<=c)(f:b-a<=c):-c<=a/\a<=c:=by
 rcases(show 0<a\/a<0\/a=0 by grind)with q|q|q
 .have:b<0:=by
   rcases(show b<0\/0<=b by grind)with w|w
   .omega
   .have:=aD (cT q) w;grind
  grind
 .have:0<b:=by
   rcases(show 0<b\/b<=0 by grind)with w|w
   .omega
   .have:=aD (show 0<=-a by grind) (show 0<=-b by grind);grind
  grind
 grind
theorem Zva{o:List Int}{F:Nat}(hx:Tr xs)(h0:xs≠[])(hC:Zad F xs)(ho:Tr o)(o0:o≠[])(hE:Ed o (sqf F xs)){u v:Rat}(g:u<v)(hu:Zc (sqf F xs) u≠0)(h:Zc o u*Zc o v<0):vch F xs v<vch F xs u:=by
 rcases iQ (vch F xs v) (vch F xs u)with q|q
 .omega
 .exfalso;have hk:=Zee hx h0 hC (cT g) q hu;obtain⟨k,w,P,hw⟩:=hE;have G:=Pq P;have f:∀d,Tr d->Ed d o->Ed d (tzl w)->d.length<=1:=λd hd Z D=>by
   obtain⟨Q,s1,B,r1⟩:=Z;obtain⟨k2,s2,W,r2⟩:=D;refine Zf8 hx h0 hC.1.2.2.1 hd ⟨k*Q,lmul w s1,bF P B,λx=>?_⟩ ⟨k*Q*k2,Mc ((lmul (ld w) s1).map λa=>k2*a) ((lmul s2 (ld o)).map λa=>Q*a),bF (bF P B) W,λx=>?_⟩
   .grind [Yb,r1]
   .rw [Xd,Zi,Zi,Yb,Yb,Ks];have a0:=Cw ((sqf F xs).map λa=>k*a) (lmul w o) (λy=>by grind [Zi,Yb]) x;grind [Zak,Bp,r1,r2,Le]
  obtain⟨ε,Z,D⟩:=Ybu ho (Qt w) o0 f u v;obtain⟨m,l1,l2⟩:=Bo u v o;obtain⟨s,m1,m2⟩:=Bo u v w;obtain⟨j,Y,-,d3⟩:=Gn (show(0:Rat)<1 by rfl) (show 0<m+s by grind) (show 0<ε/2 by grind);obtain⟨n,hn⟩:=Zhm (v-u) Y;obtain⟨x,y,l,x2,S,x4,x5,x6⟩:=Zup (Zc o) Y n u v g hn h;have sx:=hk x l O5;have sy:=hk y O5 S;have ox:=hw x;have oy:=hw y;have a3:Zc o y≠0:=λe=>by grind [Rat.mul_eq_zero]
  have H:Zc o x*Zc o y<0:=by grind [Rat.mul_eq_zero]
  have R:0<Zc (sqf F xs) x*Zc (sqf F xs) y:=by
   have a1:=aT sx sy;have V:=Fo hu;rcases(show 0<Zc (sqf F xs) x*Zc (sqf F xs) y\/Zc (sqf F xs) x*Zc (sqf F xs) y<=0 by grind)with t|t
   .omega
   .have:=aD (cT V) (show 0<=-(Zc (sqf F xs) x*Zc (sqf F xs) y) by grind);grind
  have I:Zc w x*Zc w y<0:=by
   have a1:(k:Rat)*k*(Zc (sqf F xs) x*Zc (sqf F xs) y)=(Zc w x*Zc w y)*(Zc o x*Zc o y):=by grind
   have V:=aT (Fo G) R;rcases(show Zc w x*Zc w y<0\/0<=Zc w x*Zc w y by grind)with t|t
   .omega
   .have:=aD t (show 0<=-(Zc o x*Zc o y) by grind);grind
  have B:=l2 x y l O5 S;have W:=m2 x y l O5 S;have n1:=aD (a:=m) (b:=j-(y-x)) O5 O5;have n2:=aD (a:=s) (b:=j-(y-x)) O5 O5;have n3:=aD (a:=m) (b:=j) O5 O5;have n4:=aD (a:=s) (b:=j) O5 O5;obtain⟨b1,b2⟩:=Zn7 (c:=ε/2) H O5 O5;obtain⟨b3,b4⟩:=Zn7 (c:=ε/2) I O5 O5;rcases D x l O5 with t|t
  .unfold Big at t;grind
  .unfold Big at t;grind [Le]
theorem Zn1{F:Nat}(j:Tr xs)(f:xs≠[])(g:Zad F xs){u v:Rat}(e:u<v)(h:Zc (sqf F xs) u≠0)(l:Zc (sqf F xs) v=0):vch F xs v<vch F xs u:=by
 rcases iQ _ _ with q|q
 .omega
 .have:=Zee j f g (cT e) q h v (cT e) O8;simp_all
theorem Odp.ed{F n:Nat}{o:List Int}(h:Odp F n p o):Ed o (Go.Sky.sqf F p):=by have e:=Dp.start h.tr h.ne;obtain⟨-,f⟩:=Ec h.tr h.ne h.sz h.hn h.hl h.hF p.length _ e (by rw [Pp h.tr];omega);rw [<-h.eq]at f;rwa [Zpf e.2.2.1]at f
theorem Yfo{F:Nat}(l:Tr xs)(f:xs≠[])(j:Zad F xs)(x:Rat):Zc xs x=0↔Zc (sqf F xs) x=0:=by
 constructor
 .intro h;have m:(x.den:Int)≠0:=by exact_mod_cast x.den_nz
  have e:((x.num))/((x.den:Int))=x:=by grind [Rat.divInt_eq_div,Rat.num_divInt_den]
  have:=Yfq l f j.1.2.2.1 m (r:=x.num) O5;grind
 .obtain⟨g,n⟩:=Ynw l f j.1.2.2.1;grind
theorem Yoo {F n:Nat} {o:List Int} (h:Odp F n p o) (f:Zad F p) {K:Nat} {e:Nat} (l:∀u v:Rat,-(K:Rat)<=u->u<=v->v<=(K:Rat)->v-u<=1/((2^e:Nat):Rat)->vch F p u-vch F p v<=1)
  {s t:Rat} (h1:-(K:Rat)+1<=s) (P:t<=(K:Rat)) (hs:0<=Zc p s) (ht:0<=Zc p t) (S:Zy0 p s t):1/((2^(e+1):Nat):Rat)<t-s:=by
 obtain⟨x,x1,x2,x3⟩:=S;have m:s<x:=O5;have B:x<t:=O5;obtain⟨f1,f2,f3,f4,f5,f6⟩:=Np F h.tr h.ne f.1.2.2.1;have j:Zc (Go.Sky.sqf F p) x≠0:=λz=>by have:=(Yfo h.tr h.ne f x).2 z;grind
 rcases(show 1/((2^(e+1):Nat):Rat)<t-s\/t-s<=1/((2^(e+1):Nat):Rat) by grind)with q|q
 .omega
 .exfalso;have V:=two_pow_pos e;have W:=two_pow_pos (e+1);have H:((2^(e+1):Nat):Rat)=2*((2^e:Nat):Rat):=O5;have hi:0<((2^e:Nat):Rat)⁻¹:=fP.2 V;have Q:1/((2^(e+1):Nat):Rat)=((2^e:Nat):Rat)⁻¹/2:=by rw [H];grind
  have I:1/((2^e:Nat):Rat)=((2^e:Nat):Rat)⁻¹:=O5;have R:((2^e:Nat):Rat)⁻¹<=1:=by
   have g1:(1:Rat)<=((2^e:Nat):Rat):=by have:1<=2^e:=dM e;exact_mod_cast this
   have g2:=aD (a:=((2^e:Nat):Rat)-1) (b:=((2^e:Nat):Rat)⁻¹) O5 O5;grind [Rat.mul_inv_cancel]
  obtain⟨u,u1,u2,u3⟩:∃u,s-((2^e:Nat):Rat)⁻¹/2<=u/\u<=s/\vch F p x<vch F p u:=by
   by_cases z:Zc (Go.Sky.sqf F p) s=0
   .obtain⟨δ,d1,G⟩:=Ay (Go.Sky.sqf F p).length (Go.Sky.sqf F p) (s-((2^e:Nat):Rat)⁻¹/2) (aI _);have D:=Zhn (Go.Sky.sqf F p).length (Go.Sky.sqf F p) (s-((2^e:Nat):Rat)⁻¹/2) f2 f3 (aI _);obtain⟨u,Z,w2,w3⟩:∃u,s-((2^e:Nat):Rat)⁻¹/2<u/\u<=s-((2^e:Nat):Rat)⁻¹/2+δ/\u<s:=by
     rcases(show s-((2^e:Nat):Rat)⁻¹/2+δ<s\/s<=s-((2^e:Nat):Rat)⁻¹/2+δ by grind)with w|w
     .grind
     .exact⟨s-((2^e:Nat):Rat)⁻¹/4,O5,O5,O5⟩
    have Y:Zc (Go.Sky.sqf F p) u≠0:=λc=>by have:=G u Z w2;rw [c]at this;exact D this.symm
    have m1:=Zn1 h.tr h.ne f w3 Y z;have m2:=Zkh h.tr h.ne f (cT m);grind
   .have g:0<Zc p s:=by have:Zc p s≠0:=λc=>z ((Yfo h.tr h.ne f s).1 c);grind
    have k:=h.opp (x:=s) (y:=x) (by have:=aT g (show 0 < -Zc p x by grind);grind);exact⟨s,O5,O8,Zva h.tr h.ne f h.otr h.one h.ed m z k.1⟩
  have u4:vch F p t<vch F p x:=by
   by_cases z:Zc (Go.Sky.sqf F p) t=0
   .exact Zn1 h.tr h.ne f B j z
   .have g:0<Zc p t:=by have:Zc p t≠0:=λc=>z ((Yfo h.tr h.ne f t).1 c);grind
    have k:=h.opp (x:=x) (y:=t) (by have:=aT g (show 0 < -Zc p x by grind);grind);exact Zva h.tr h.ne f h.otr h.one h.ed B j k.1
  have:=l u t O5 O5 P O5;omega
def Zcy(xs:List Int)(m:Nat):Prop:=xs.length=0\/(xs.length+2)*(xs.length+2)*(Pd xs+m+2*(xs.length-1)+32)<=65536
instance (xs:List Int) (m:Nat):Decidable (Zcy xs m):=by unfold Zcy;infer_instance
def sgf_t{m:Nat}(h:xs.length=0):Value.bool (decide (Zcy xs m))= .bool true:=aH _ (aE (.inl h))
theorem sgf_i{m:Nat}{n:Int}(h:xs.length≠0)(e:n=(((xs.length+2)*(xs.length+2)*(Pd xs+m+2*(xs.length-1)+32):Nat):Int)):Value.bool (decide (Zcy xs m))= .bool (decide (n<=65536)):=aH _ (bW.2 (by show(xs.length=0\/_<=65536)↔_;omega))
def efit(z:R2):Bool:=decide (max (bl z.1.natAbs) (bl z.2.natAbs)<=512)
def Zq0:List Int->Int
 | []=>0
 | x::r=>if x=0 then Zq0 r else x
theorem Zuw{s:Int}(h:s≠0):∀{L:List Int} {i:Nat},i<L.length->(∀k,k<i->L.getD k 0=0)->L.getD i 0=s->Zq0 L=s
 | [],i,hi,_,_=>absurd hi O8
 | x::r,0,_,_,hs=>by have e:x=s:=hs;unfold Zq0;omega
 | x::r,i+1,hi,hz,hs=>by have e:x=0:=hz 0 O8;unfold Zq0;rw [aO e];exact Zuw h O5 (λk f=>hz (k+1) O1) hs
theorem Zoi:∀{L:List Int},(∀k,k<L.length->L.getD k 0=0)->Zq0 L=0
 | [],_=>rfl
 | x::r,hz=>by have e:x=0:=hz 0 O8;unfold Zq0;rw [aO e];exact Zoi λk f=>hz (k+1) (by simpa using f)
def aft(e:List (List Int))(m:R2):Int:=Zq0 (e.map (fat m.1 m.2))
def vlu(e:List (List Int))(m:R2):Int:=if e.length=0 then 0 else fat m.1 m.2 (e.getD 0 [])
def chv(e:List (List Int))(m:R2):Int:=chg (e.map (fat m.1 m.2))
def crb(e:List (List Int))(a b:R2):Bool:=if e.length=0 then false else decide (0<chv e a-chv e b-if fat b.1 b.2 (e.getD 0 [])=0 then 1 else 0)
def cmp(a b:R2):Int:=(a.1*b.2-b.1*a.2).sign
def ngb(ds cs:List (List Int))(a b:R2):Bool:=if cmp a b=0 then decide (vlu ds a<0)else(decide (aft ds a<0) || crb cs a b)
theorem Ych(ls:List (SL×List Int))(x y:Int):aft (ls.map Prod.snd) (x,y)=Zq0 (sgx ls (fat x y)):=by unfold aft;grind [Zze]
theorem Yqr(ls:List (SL×List Int))(x y:Int):chv (ls.map Prod.snd) (x,y)=chg (sgx ls (fat x y)):=by unfold chv;grind [Zze]
theorem Zhy(h:i<ls.length):(ls.map Prod.snd).getD i []=(ls.getD i Z0).2:=by grind
theorem chv_r(e:List (List Int))(m:R2):0<=chv e m/\chv e m<=(e.length:Int):=by have:=Zij (e.map (fat m.1 m.2));rw [bM]at this;exact this
theorem Zth(h:Dk x=0):x=0:=by
 rcases Pe x with⟨e,f⟩|⟨e,f⟩|⟨e,f⟩
 all_goals omega
theorem sgm_i{x l:Int}(f:-1<=x/\x<=1)(e:-1<=l/\l<=1):La (x*l):=by
 rcases(show x=-1\/x=0\/x=1 by omega)with h|h|h<;>subst h
 .exact⟨O1,O1⟩
 .exact⟨O8,O8⟩
 .exact⟨O1,O1⟩
theorem Zzg{x l:Int}(f:-1<=x/\x<=1)(e:-1<=l/\l<=1)(h:x*l<0):x=-l:=by rcases(show x=-1\/x=0\/x=1 by omega)with h|h|h<;>subst h<;>omega
theorem Zzf{x l:Int}(g:-1<=x/\x<=1)(f:-1<=l/\l<=1)(h:¬x*l<0)(e:x≠0):¬x=-l:=by rcases(show x=-1\/x=0\/x=1 by omega)with h|h|h<;>subst h<;>omega
def Zzh{x l:Int}(h:x=0):¬x*l<0:=O5
theorem crb_t{x e f:Int}(h:cs.length≠0)(g:fat e f (cs.getD 0 Z0).2=0):Value.bool (crb (cs.map Prod.snd) (x,y) (e,f))= .bool (decide (0<chv (cs.map Prod.snd) (x,y)-chv (cs.map Prod.snd) (e,f)-1)):=by unfold crb;rw [bM,aF h,Zhy O1,aO g]
theorem crb_f{x e f:Int}(h:cs.length≠0)(g:¬fat e f (cs.getD 0 Z0).2=0):Value.bool (crb (cs.map Prod.snd) (x,y) (e,f))= .bool (decide (0<chv (cs.map Prod.snd) (x,y)-chv (cs.map Prod.snd) (e,f))):=by unfold crb;rw [bM,aF h,Zhy O1,aF g,iP]
theorem ngb_t{cs:List (List Int)}(h:¬cmp a b=0)(e:aft ds a<0):Value.bool (ngb ds cs a b)= .bool true:=by unfold ngb;grind
theorem ngb_f{cs:List (List Int)}(h:¬cmp a b=0)(e:¬aft ds a<0):Value.bool (ngb ds cs a b)= .bool (crb cs a b):=by unfold ngb;grind
def Zfw:Nat->List Int->List (List Int)
 | 0,_=>[]
 | n+1,p=>if p.length=0 then []else p::Zfw n (Xg p)
theorem Zve{m:R2}(h:0<m.2):∀(n:Nat) (p:List Int),p.length<=n->aft (Zfw n p) m=Dr n p (qv m)
 | 0,p,o=>rfl
 | n+1,p,o=>by
  unfold Zfw;by_cases g:p.length=0
  .have:=aK g;subst this;have f:∀n,Dr n [] (qv m)=0:=λn=>by
    induction n with
    | zero=>rfl
    | succ n j=>assumption
   rw [f];rfl
  .rw [aF g];have s:=Nx p;have j:=Zve h n (Xg p) O1;unfold aft at j ⊢;rw [cP];unfold Zq0 Dr;have l:fat m.1 m.2 p=Dk (Zc p (qv m)):=Zq6 h p;rw [l];by_cases f:Zc p (qv m)=0
   .simp_all [aO,Zti,aF]
   .rw [aF (λe=>f (Zth e)),aO f]
structure Cvd (xs:List Int):Prop where
 v:Vp xs
 s:Sz 205 xs
 l:xs.length<=11
theorem Ybj(h:Cvd xs)(e:xs≠[])(f:Dp xs r):Sz 220 r/\r.length<=11:=by obtain⟨g,j⟩:=f.sz h.v.tr e h.s (by have:=h.l;omega);exact⟨g,by have:=h.l;omega⟩
theorem Zjr(h:Cvd xs)(j:xs≠[])(e:Dp xs r) :
  Vp r/\r≠[]/\(∀i,bl (cf r (i+1)*((i:Int)+1)).natAbs<=65536)/\Vp (Xg r)/\¬Zog r (Xg r)/\eok 13 (gA r (Xg r)) (gB r (Xg r))/\Mz 13 r (Xg r)=Lc 13 r/\Vp (Lc 13 r)/\
  Bv r (Lc 13 r)=0/\pdv r (Lc 13 r)/\Hs r (Lc 13 r)=sqf 13 r/\Vp (sqf 13 r)/\Sz 235 (sqf 13 r)/\(sqf 13 r).length<=11/\Dp xs (Lc 13 r)/\sqf 13 r≠[]/\((sqf 13 r).length≠1->(Lc 13 r).length<r.length)/\Zbj 13 r:=by
 obtain⟨D,S⟩:=Ybj h j e;have o:Vp r:=⟨D.mono O8,e.1,O1⟩;have f:=e.ok h.v.tr j h.s O8 (by have:=h.l;omega) (show xs.length<=13+1 by have:=h.l;omega);obtain⟨⟨R,G,H,w,B⟩,-,-⟩:=f.1;have P:=e.2.2.1;have m:=(chG 13 e.1 e.2.1 D O8 O1 O1).2.1;have I:=(chG 13 e.1 e.2.1 D O8 O1 O1).2.2.1;have u:=Zwj o e.2.1 f.1.1;have F:Lc 13 r=Mz 13 r (Xg r):=by unfold Lc;grind
 have l:=e.next f.2;have s:Vp (Lc 13 r):=by obtain⟨t1,t2⟩:=Ybj h j l;exact⟨t1.mono O8,l.1,O1⟩
 have n:sqf 13 r=Hs r (Lc 13 r):=by unfold sqf Lc;grind
 obtain⟨f1,f2,f3,f4,f5,f6⟩:=Np 13 e.1 e.2.1 f.2;have g:∀i,bl (cf r (i+1)*((i:Int)+1)).natAbs<=65536:=λi=>by
  by_cases hi:i<r.length
  .grind
  .rw [Yx O1];simp [Fa]
 rw [P]at G H w B;rw [<-F]at w B;refine⟨o,e.2.1,g,Zf4 o (λi _=>g i),G,H,F.symm,s,w,B,n.symm,u,m,O1,l,f3,λQ=>?_,f.2⟩;refine Zqx e.1 e.2.1 f.2 ?_;grind [Ni,List.length_pos_iff]
def Cc(xs:List Int):List Int:=Zt5 13 xs.length [1] (Xu xs)
structure OddI (xs:List Int) (t:Nat) (rest out before:List Int):Prop where
 ex:∃f q,Dp xs q/\q.length<=f/\Zt5 13 f out q=Cc xs/\Tr out/\Op xs out q/\((t%2=1/\rest=q)\/(t%2=0/\rest=Lc 13 q/\before=sqf 13 q/\(sqf 13 q).length≠1))
theorem OddI.start{b:List Int}(h:Cvd xs)(e:xs≠[]):OddI xs 1 (Xu xs) [1] b:=
 ⟨xs.length,Xu xs,Dp.start h.v.tr e,by rw [Pp h.v.tr];omega,rfl,.inr O4,Op.start h.v.tr,.inl ⟨rfl,rfl⟩⟩
theorem OddI.dp{e:List Int}(h:Cvd xs)(j:xs≠[])(g:OddI xs t rest e before):Dp xs rest:=by
 obtain⟨f,q,l,m,n,o,s,u|⟨-,rfl,-⟩⟩:=g.ex
 all_goals simp_all [Zjr]
theorem OddI.out{e:List Int}(h:Cvd xs)(l:xs≠[])(o:OddI xs t rest e before):Vp e/\Sz 220 e/\e.length<=11:=by obtain⟨f,q,m,s,u,g,n,-⟩:=o.ex;obtain⟨j,w,B⟩:=n.sz h.v.tr l h.s (by have:=h.l;omega) g m.1;have:=h.l;exact⟨⟨j.mono O8,g,O1⟩,j,O1⟩
theorem OddI.odd_end{e:List Int}(h:Cvd xs)(l:xs≠[])(j:OddI xs t rest e before)(B:t%2=1)(w:(sqf 13 rest).length=1):e=Cc xs:=by
 obtain⟨f,q,m,n,g,o,s,⟨-,rfl⟩|⟨u,-⟩⟩:=j.ex
 .cases f with
  | zero=>assumption
  | succ f=>unfold Zt5 at g;grind
 omega
theorem OddI.odd_next{e:List Int}(n:OddI xs t rest e before)(u:t%2=1)(o:(sqf 13 rest).length≠1):OddI xs (t+1) (Lc 13 rest) e (sqf 13 rest):=by
 obtain⟨f,q,g,h,j,l,m,⟨-,rfl⟩|⟨s,-⟩⟩:=n.ex
 .exact⟨f,rest,g,h,j,l,m,.inr ⟨O1,rfl,rfl,o⟩⟩
 omega
theorem OddI.even{g:List Int}(h:Cvd xs)(o:xs≠[])(hI:OddI xs t rest g before)(ht:t%2=0) :
  Vp before/\Bv before (sqf 13 rest)=0/\pdv before (sqf 13 rest)/\Vp (Hs before (sqf 13 rest))/\¬Zao g (Hs before (sqf 13 rest))/\
  ((sqf 13 rest).length=1->Pa g (Hs before (sqf 13 rest))=Cc xs)/\((sqf 13 rest).length≠1->OddI xs (t+1) (Lc 13 rest) (Pa g (Hs before (sqf 13 rest))) (sqf 13 rest))/\Vp (Pa g (Hs before (sqf 13 rest))):=by
 obtain⟨f,q,j,h2,u,h4,W,⟨h7,-⟩|⟨-,rfl,rfl,Y⟩⟩:=hI.ex
 .omega
 obtain⟨a1,a2,a3,a4,a5,a6,a7,a8,a9,Z,a0,B,D,b0,F,c0,G,l⟩:=Zjr h o j;obtain⟨b1,b2,b3,b4,b5,b6,b7,b8,b9,c5,c6,c7,H,c8,m,I,P,n⟩:=Zjr h o F;obtain⟨c1,c2,V,c4⟩:=Zc6 j.1 j.2.1 l n;have Q:=W.next j.1 j.2.1 j.2.2.1 l n;have ho:=h.l;obtain⟨s1,s2,s3⟩:=Q.sz h.v.tr o h.s O1 (Qq _ _) m.1;obtain⟨o1,o2,o3⟩:=W.sz h.v.tr o h.s O1 h4 j.1;have c9:(Zbf 13 q).length<=11:=by have e:=aH List.length c2;grind [Mj,List.length_pos_iff]
 have s:Sz 450 (Zbf 13 q):=by obtain⟨a,ha,e⟩:=Q;have e2:Xu xs=Pa (Pa (Pa a (Lc 13 (Lc 13 q))) g) (Zbf 13 q):=e.trans ((Qq _ _).ext (Qq _ _) λi=>Mt (λx=>by grind [Xn]) i);exact(Zxt h.v.tr o h.s O1 (Qq _ _) V e2).1.mono O8
 have hd:Bv (sqf 13 q) (sqf 13 (Lc 13 q))=0:=by
  have m1:=Og D;have m2:=Og H;have l1:=aN.2 I;unfold Bv;rw [aF O1];split
  .rfl
  .have:((sqf 13 q).length-(sqf 13 (Lc 13 q)).length+1)*(Pd (sqf 13 (Lc 13 q))+1)<=12*240:=aU O1 O1;omega
 have S:Vp (Zbf 13 q):=⟨s.mono O8,V,O1⟩;have hm:¬Zao g (Zbf 13 q):=λhF=>by have m1:=Og o1;have m2:=Og s;rcases hF.2.2 with w|w<;>omega
 refine⟨B,hd,c1,S,hm,λR=>?_,λR=>?_,⟨s1.mono O8,Qq _ _,aB s2 O1⟩⟩
 .cases f with
  | zero=>omega
  | succ f=>unfold Zt5 at u;grind
 .cases f with
  | zero=>omega
  | succ f=>
   unfold Zt5 at u;rw [aF Y,aF R]at u;have l1:=G Y;have l2:=P R;exact⟨f,Lc 13 (Lc 13 q),m,O1,u,Qq _ _,Q,.inl ⟨O1,rfl⟩⟩
theorem Ydf(h:Cvd xs)(f:xs≠[]):Cc xs=Zfk 13 xs.length (Xu xs):=by have e:=Dp.start h.v.tr f;have j:=h.l;have g:=(e.ok h.v.tr f h.s O8 O1 (show xs.length<=13+1 by omega)).2;unfold Cc;rw [Yok h.v.tr f h.s O8 O1 O1 _ [1] _ (.inr (show cf [1] 0≠0 by decide)) e (by rw [Pp h.v.tr];omega),Yn8 (Zzx xs e.1 e.2.1 g)]
theorem Zgt(h:Cvd xs)(f:xs≠[]):Odp 13 205 xs (Cc xs)/\Vp (Cc xs)/\Sz 220 (Cc xs)/\(Cc xs).length<=xs.length/\Zbd (Cc xs):=by
 have g:=Dp.start h.v.tr f;have G:=h.l;have m:=(g.ok h.v.tr f h.s O8 O1 (show xs.length<=13+1 by omega)).2;have n:=Ydf h f;have j:Tr (Cc xs):=by rw [n];exact Zzx xs g.1 g.2.1 m
 obtain⟨⟨B,F⟩,-⟩:=Ec h.v.tr f h.s O8 O1 (show xs.length<=13+1 by omega) xs.length (Xu xs) g (by rw [Pp h.v.tr];omega);have e:Xu xs=Pa (Pa B B) (Cc xs):=g.1.ext (Qq _ _) λi=>Mt (λx=>by grind [Xn]) i;obtain⟨l,w,o⟩:=Zxt h.v.tr f h.s O1 (Qq _ _) j e;have u:=(chG 13 j o l O8 O1 O1).1;refine⟨⟨h.v.tr,f,h.s,O8,O1,O1,n,j,o,u⟩,⟨l.mono O8,j,O1⟩,l,w,.inr ?_⟩;have H:=Og l;have s:((Cc xs).length+2)*((Cc xs).length+2)<=13*13:=aU O1 O1;have D:((Cc xs).length+2)*((Cc xs).length+2)*(Pd (Cc xs)+16)<=13*13*236:=aU s O1;omega
def chx(xs:List Int):List (List Int):=if xs.length=0 then []else chn 13 (Cc xs)
def Nl(xs:List Int):List (List Int):=Zfw xs.length xs
theorem Zvd:∀(n k:Nat) (p:List Int),Tr p->p.length<=25->Sz k p->∀q∈Zfw n p,Tr q/\q.length<=p.length/\Sz (k+5*n) q
 | 0,_,_,_,_,_,q,e=>absurd e (by simp [Zfw])
 | n+1,k,p,f,h,hs,q,e=>by
  unfold Zfw at e;by_cases g:p.length=0
  .grind
  .rw [aF g]at e;rcases aW.1 e with rfl|e
   .exact⟨f,aI _,hs.mono O8⟩
   .have j:=Nx p;obtain⟨l,m,o⟩:=Zvd n _ _ (Mp f) O1 (Zba hs h) q e;grind
theorem Cg(h:Cvd xs):∀q∈Nl xs,Vp q/\Pd q<=6150/\q.length<=11:=λq g=>by have l:=h.l;obtain⟨f,j,e⟩:=Zvd _ 205 xs h.v.tr O1 h.s q g;have:=Og e;exact⟨⟨e.mono O1,f,O1⟩,O1,O1⟩
theorem Zhi(h:Cvd xs):∀q∈chx xs,Vp q/\Pd q<=6150/\q.length<=11:=λq f=>by
 have F:=h.l;unfold chx at f;by_cases l:xs.length=0
 .grind
 .rw [aF l]at f;have j:xs≠[]:=λe=>l O5;obtain⟨g,m,n,u,w⟩:=Zgt h j;obtain⟨o,B,D,s⟩:=chG 13 g.otr g.one n O8 O1 (show(Cc xs).length<=13+1 by omega);exact⟨vp_chn m g.one o q f,(s q f).1,O5⟩
theorem Zrw(xs:List Int):(chx xs).length<=1000:=by
 unfold chx;split
 .simp
 .have:=Ze2 13 (sqf 13 (Cc xs)) (Yw (Xg (sqf 13 (Cc xs))));unfold chn;omega
theorem Zs6{m:R2}(g:Pd p<=6150)(h:p.length<=11)(a:bl m.1.natAbs<=5300)(b:bl m.2.natAbs<=5300):¬Kl p m.1 m.2:=λf=>by
 have e:=by show max (bl m.1.natAbs) (max (bl m.2.natAbs) 0)<=5300;omega
 have j:(p.length-1)*Pd [m.1,m.2]<=10*5300:=aU O1 e;have:=f.2;omega
def Zdo(h:Cvd xs){m:R2}(a:bl m.1.natAbs<=5300)(b:bl m.2.natAbs<=5300):(∀p∈Nl xs,¬Kl p m.1 m.2)/\(∀p∈chx xs,¬Kl p m.1 m.2):=
 ⟨λp e=>Zs6 (Cg h p e).2.1 (Cg h p e).2.2 a b,λp e=>Zs6 (Zhi h p e).2.1 (Zhi h p e).2.2 a b⟩
theorem Ygx(e:0<a.2)(f:0<b.2):((a.1*b.2-b.1*a.2:Int):Rat)=(qv a-qv b)*((a.2:Rat)*(b.2:Rat)):=by have g:=Gu e;have h:=Gu f;unfold qv;grind
theorem Yqj(g:0<a.2)(j:0<b.2):cmp a b<0↔qv a<qv b:=by
 have e:=Ygx g j;have l:=aT (Gu g) (Gu j);unfold cmp;rw [sign_neg_iff];constructor
 .intro h;have f:((a.1*b.2-b.1*a.2):Rat)<0:=by exact_mod_cast h
  rcases(show qv a<qv b\/qv b<=qv a by grind)with q|q
  .omega
  .have:=aD (show 0<=qv a-qv b by grind) (Rat.le_of_lt l);grind
 .intro h;have:=aT (show 0<qv b-qv a by grind) l;have f:((a.1*b.2-b.1*a.2):Rat)<0:=O5;exact_mod_cast f
theorem Zrt(f:0<a.2)(g:0<b.2):cmp a b=0↔qv a=qv b:=by
 have e:=Ygx f g;have l:=aT (Gu f) (Gu g);unfold cmp;rw [fV];constructor
 .intro h;rw [h]at e;grind [Rat.mul_eq_zero]
 .intro h;have j:((a.1*b.2-b.1*a.2):Rat)=0:=O5;exact_mod_cast j
theorem Yqk(e:0<a.2)(f:0<b.2):cmp a b<=0↔qv a<=qv b:=by have g:=Yqj e f;grind [Zrt,Rat.le_of_lt,Int.le_of_lt,Int.le_of_eq]
def Yjt{m:R2}(e:0<m.2)(p:List Int):fat m.1 m.2 p=Dk (Zc p (qv m)):=Zq6 e p
theorem Yqq(h:Cvd xs)(g:xs≠[])(w:0<a.2)(j:0<b.2):crb (chx xs) a b=true↔Zax 13 (Cc xs) (qv a) (qv b):=by
 obtain⟨f,n,o,s,u⟩:=Zgt h g;unfold crb Zax chx;have B:∃r,chn 13 (Cc xs)=sqf 13 (Cc xs)::r:=by unfold chn Mx;split<;>exact⟨_,rfl⟩
 have D:∀m:R2,0<m.2->chv _ m=vch 13 (Cc xs) _:=λm l=>(cvc_v l);rw [Yjt j];have F:Dk _=0↔Zc _ (qv b)=0:=⟨λe=>(f.zero _).1 (Zth e),λe=>Zti ((f.zero _).2 e)⟩;grind
theorem Zkg{m:R2}(f:0<m.2):vlu (Nl xs) m=Dk (Zc xs (qv m)):=by
 unfold vlu Nl;by_cases e:xs.length=0
 .have:=aK e;subst this;rfl
 .obtain⟨n,g⟩:∃n,xs.length=n+1:=⟨xs.length-1,O1⟩;unfold Zfw;simp_all [aF,Yjt]
theorem Zqb(h:Cvd xs)(f:0<a.2)(u:0<b.2)(j:qv a<=qv b):ngb (Nl xs) (chx xs) a b=true↔Zy0 xs (qv a) (qv b):=by
 unfold ngb;by_cases l:cmp a b=0
 .rw [aO l,Zkg f,fI];have e:=(Zrt f u).1 l;constructor
  .intro n;refine⟨qv a,mE,j,?_⟩;rcases Pe (Zc xs (qv a))with⟨o,s⟩|⟨o,s⟩|⟨o,s⟩
   all_goals omega
  .rintro⟨x,B,D,F⟩;grind [Zn0]
 .rw [aF l];have m:qv a<qv b:=by grind [Zrt]
  by_cases g:xs=[]
  .subst g;constructor
   .intro n;exact absurd n (by show ¬(decide ((0)<0) || false)=true;simp)
   .rintro⟨x,B,D,F⟩;assumption
  .obtain⟨w,G,H,I,P⟩:=Zgt h g;rw [<-w.sem m,lN,fI,Yqq h g f u,show aft (Nl xs) a=Dr _ xs _ from Zve f _ _ (aI _)]
theorem Zvq(h:Cvd xs){m:Nat}(j:m<=100):Zcy xs m:=by refine .inr ?_;have g:=h.l;have l:=Og h.s;have e:(xs.length+2)*(xs.length+2)<=13*13:=aU O1 O1;have f:(xs.length+2)*(xs.length+2)*(Pd xs+m+2*(xs.length-1)+32)<=13*13*357:=aU e O1;omega
theorem Zop(h:xs.length=0):Nl xs=[]:=by unfold Nl;rw [h];rfl
theorem Yqp(h:xs.length=0):chx xs=[]:=by unfold chx;grind
theorem chx_ne(h:xs.length≠0):chx xs=chn 13 (Cc xs):=by unfold chx;grind
theorem Zoq:∀(n m:Nat) (p:List Int),p.length<=n->p.length<=m->Zfw n p=Zfw m p
 | 0,m,p,f,g=>by
  cases m with
  | zero=>rfl
  | succ m=>unfold Zfw;grind
 | n+1,m,p,f,g=>by
  have h:=Nx p;cases m with
  | zero=>unfold Zfw;grind
  | succ m=>
   unfold Zfw;by_cases e:p.length=0
   .grind
   .rw [aF e,aF e,Zoq n m _ O1 O1]
theorem Yec(h:p.length≠0):Nl p=p::Nl (Xg p):=by have f:=Nx p;unfold Nl;obtain⟨n,e⟩:∃n,p.length=n+1:=⟨p.length-1,O1⟩;rw [e,show Zfw _ p=if p.length=0 then []else p::Zfw n _ from rfl,aF h,Zoq n _ _ O1 (aI _)]
def Ab(M:Nat)(p:List Int):Prop:=∀i,(cf p i).natAbs<=M
def Ab.sz{n:Nat}(h:Ab M p)(e:M<2^n):Sz n p:=λi=>(Qs n _).2 (aY (h i) e)
def Ab.mono(h:Ab M p)(e:M<=N):Ab N p:=λi=>aB (h i) e
theorem Az(h:Ab M p)(c:Int):Ab (M*c.natAbs) (Yo p c):=λi=>by rw [Qp,bR];exact aQ _ (h i)
theorem Zs2{f:Nat->Int}{M n:Nat}(h:∀k,(f k).natAbs<=M)(e:∀k,n<=k->f k=0):∀m,(Ye f m).natAbs<=min m n*M
 | 0=>by show(0:Int).natAbs<=_;simp
 | m+1=>by
  have g:=Zs2 h e m;rw [Yi];rcases bA m n with q|q
  .grind [Nat.succ_mul]
  grind
theorem Yl5{n:Nat}(e:Ab M p)(f:Ab N q)(h:p.length<=n):Ab (n*(M*N)) (Pa p q):=λi=>by
 rw [Gz];exact aB (Zs2 (λk=>by rw [bR];exact aU (e k) (f _)) (λk g=>by show cf p k*_=0;rw [Yx O1,cQ]) _) (aQ _ (Nat.min_le_right _ _))
theorem ab_add(e:Ab M p)(f:Ab N q):Ab (M+N) (Za7 p q):=λi=>by rw [Zry];have:=e i;have:=f i;omega
theorem ab_sub(e:Ab M p)(f:Ab N q):Ab (M+N) (Bq p q):=λi=>by rw [Bx];have:=e i;have:=f i;omega
theorem ab_in(h:∀a∈c,La a):Ab (2^63) (tzl c):=λi=>by rw [Hm];obtain⟨e,f⟩:=Fr h i;show(c.getD i 0).natAbs<=_;omega
theorem Yo1{n:Nat}(e:p.length<=n)(f:q.length<=n):(Za7 p q).length<=n:=by unfold Za7;grind [Nat.le_trans,Ge,Yz]
theorem Zqq{n:Nat}(e:p.length<=n)(f:q.length<=n):(Bq p q).length<=n:=by unfold Bq;grind [Nat.le_trans,Ge,Yz]
theorem Yas{n m:Nat}(j:Tr p)(l:Tr q)(g:p.length<=n)(h:q.length<=m):(Pa p q).length<=n+m-1:=by
 by_cases e:p=[]
 .simp_all [Cb,bI]
 .by_cases f:q=[]
  .simp_all [Zfl,bI]
  grind [Mj]
def dN:Nat->List Int->List Int
 | 0,p=>p
 | n+1,p=>Xg (dN n p)
def axQ(o:Nat)(c:List Int):List Int:=Yo (dN o (tzl c)) (1000^o)
def sqQ(o:Nat)(c:List Int):List Int:=Pa (axQ o c) (axQ o c)
def sumQ(o:Nat)(x y z:List Int):Nat->List Int
 | 0=>[]
 | i+1=>Za7 (sumQ o x y z i) (sqQ o (Ya i x y z))
def kilo(o:Nat):Int:=Zal (List.replicate o 1000)
def timC(o:Nat)(m ov T:Int):Int:=Zal (m::ov::List.replicate o T)
def oneQ(o:Nat)(m ov T:Int):List Int:=Yo [1] (timC o m ov T)
def formP(o:Nat)(m ov T:Int)(x y z:List Int):List Int:=Yw (Bq (Pa (oneQ o m ov T) (oneQ o m ov T)) (sumQ o x y z 3))
structure Sgo (fr to ov:Int) (x y z:List Int):Prop where
 t1:0<=fr
 t2:fr<to
 t3:to<=3600000
 o1:1<=ov
 o2:ov<=4294967296
 hx:∀a∈x,La a
 hy:∀a∈y,La a
 hz:∀a∈z,La a
 lx:1<=x.length/\x.length<=6
 ly:1<=y.length/\y.length<=6
 lz:1<=z.length/\z.length<=6
def Sgo.hc{fr to:Int}{x y:List Int}(h:Sgo fr to ov x y z)(i:Nat):∀a∈Ya i x y z,La a:=Zar h.hx h.hy h.hz i
def Sgo.lc{fr to:Int}{x y:List Int}(h:Sgo fr to ov x y z)(i:Nat):1<=(Ya i x y z).length/\(Ya i x y z).length<=6:=Eu (p:=λl:List Int=>1<=l.length/\l.length<=6) h.lx h.ly h.lz
theorem Sgo.of{fr to:Int}{x y:List Int}(s:∀a∈x,La a)(u:∀a∈y,La a)(w:∀a∈z,La a)(h:Za4 fr to ov x y z=true):Sgo fr to ov x y z:=by unfold Za4 Zwl axB at h;simp only [aP,bO]at h;obtain⟨⟨⟨⟨⟨⟨⟨⟨j,l⟩,m⟩,n⟩,o⟩,e⟩,f⟩,g⟩,-⟩:=h;exact⟨j,l,m,n,o,s,u,w,⟨e.1.1.1,e.1.1.2⟩,⟨f.1.1.1,f.1.1.2⟩,⟨g.1.1.1,g.1.1.2⟩⟩
def Mk:Nat->Nat
 | 0=>2^63
 | 1=>5*2^63
 | _=>4*(5*2^63)
theorem Zo5(h:c.length<=6):¬25<(tzl c).length:=by grind [Ge]
def Lw(z:R2):Prop:=0<z.2/\Int.gcd z.1 z.2=1
theorem Zib{x:Int}(e:0<y):Nw x y=(Int.gcd x y:Int):=by unfold Nw;omega
theorem Yid (x:Int)(e:0<y):Lw (x/Nw x y,y/Nw x y):=by have f:0<Int.gcd x y:=Int.gcd_pos_of_ne_zero_right _ O1;rw [Zib e];refine⟨Int.ediv_pos_of_pos_of_dvd e O8 (gD ..),?_⟩;grind [Int.gcd_ediv_gcd_ediv_gcd]
theorem Zqf(e:0<a.2)(h:¬Li a.1 a.2):Lw (slow a):=by obtain⟨f,g,-⟩:=Za8 h;have:=Yid a.1 e;unfold slow;grind
theorem Yic(h:Ze1 a b)(e:0<a.2)(f:0<b.2):Lw (Pv a b):=by obtain⟨j,l,-⟩:=Za8 h.2;have g:0<Hd _ _*2:=dU (Zqa h.1 (dU e f)) O1;have:=Yid (Fe (a.1*b.2+b.1*a.2) (a.2*b.2)*1) g;unfold Pv;grind
structure Hv (n Q j:Nat) (W:Rat) (a b:R2):Prop where
 hQ:0<Q
 hQ2:Q<2^(2*n)
 ea:En (2^n) Q j a
 eb:En (2^n) Q j b
 wd:(qv b-qv a)*((2^j:Nat):Rat)=W
 le:qv a<=qv b
 la:Lw a
 lb:Lw b
theorem Hv.start{n:Nat}(g:0<a.2)(h:0<b.2)(l:bl a.1.natAbs<=n)(s:bl a.2.natAbs<=n)(m:bl b.1.natAbs<=n)(u:bl b.2.natAbs<=n)(o:n<=65536)(D:qv a<=qv b):∃Q,Hv n Q 0 (qv b-qv a) (slow a) (slow b):=by
 obtain⟨F,G,W,H,Y⟩:=Zcx g l s o;obtain⟨t1,t2,t3,t4,t5⟩:=Zcx h m u o;have P:=(Qs n _).1 H;have R:=(Qs n _).1 t4;have S:=Zpv g (eD ((Qs n _).1 l));have V:=Zpv h (eD ((Qs n _).1 m));have e:0<(slow a).2.natAbs*(slow b).2.natAbs:=gY O1 O1;have f:(slow a).2.natAbs*(slow b).2.natAbs<2^(2*n):=by rw [show 2*n=n+n by omega,bQ];simp_all [iC,eD,cD]
 generalize I:(slow a).2.natAbs*(slow b).2.natAbs=Q at *;have j:((Q*2^0))=(slow a).2*(slow b).2:=by grind
 have w:En (2^n) Q 0 _:=⟨G,O11,O5,O5⟩;have B:En (2^n) Q 0 _:=⟨t2,O11,O5,O5⟩;exact⟨Q,e,f,w,B,O5,O5,Zqf g F,Zqf h t1⟩
theorem Hv.mid{n Q j B:Nat}{W:Rat}(h:Hv n Q j W a b)(Y:3*n+2+j<=B)(g:B<=65536) :
  Ze1 a b/\(bl (Pv a b).1.natAbs<=B/\bl (Pv a b).2.natAbs<=B/\0<(Pv a b).2)/\qv (Pv a b)=(qv a+qv b)/2/\(bl a.1.natAbs<=B/\bl a.2.natAbs<=B/\0<a.2)/\(bl b.1.natAbs<=B/\bl b.2.natAbs<=B/\0<b.2)/\
  Hv n Q (j+1) W a (Pv a b)/\Hv n Q (j+1) W (Pv a b) b:=by
 have u:∀m,m<=B->2^m<=2^B:=λm h=>dC O1 h;have f:Q*2^(j+1)<2^B:=by have:Q*2^(j+1)<2^(2*n)*2^(j+1):=dS h.hQ2 (cD O1);rw [<-bQ]at this;grind
 have l:2*2^n*(Q*2^j)<2^B:=by
  have F:Q*2^j<2^(2*n)*2^j:=dS h.hQ2 (cD O1);have S:2*2^n*(Q*2^j)<2*2^n*(2^(2*n)*2^j):=iI F (gY O1 (cD O1));have V:2*2^n*(2^(2*n)*2^j)=2^(3*n+1+j):=by rw [<-bQ,<-mJ,<-bQ];grind
  grind
 obtain⟨D,o,s,H,I⟩:=mid_en h.ea h.eb h.hQ f l g;obtain⟨P,R⟩:=Yj5 j 0 B h.ea h.hQ h.hQ2 O1;obtain⟨r1,r2⟩:=Yj5 j 0 B h.eb h.hQ h.hQ2 O1;have e:=Yic D h.ea.pos h.eb.pos;have w:((2^(j+1):Nat))=2*((2^j:Nat)):=O5;have G:=h.le;refine⟨D,⟨H,I,o.pos⟩,s,⟨P,R,h.ea.pos⟩,⟨r1,r2,h.eb.pos⟩,⟨h.hQ,h.hQ2,h.ea.up,o,?_,O5,h.la,e⟩,⟨h.hQ,h.hQ2,o,h.eb.up,?_,O5,e,h.lb⟩⟩
 .rw [s,w,<-h.wd];grind
 .rw [s,w,<-h.wd];grind
def Ycq{n:Nat}(h:Sz k p)(e:k<=n)(i:Nat):(cf p i).natAbs<=2^n:=aB (Zhv h i) (dC O1 e)
theorem Yno(h:Cvd xs)(g:xs≠[]):Zad 13 xs/\∀u v:Rat,-((2^34:Nat):Rat)<=u->u<=v->v<=((2^34:Nat):Rat)->v-u<=1/((2^5000:Nat):Rat)->vch 13 xs u-vch 13 xs v<=1:=by have D:=h.l;obtain⟨j,e,w,B⟩:=chG 13 h.v.tr g h.s O8 O1 O1;have l:=Zba e O1;have f:∀n,n<=11->2<=n->Zzk (2^34) (2^225) n 5000=true:=O9;obtain⟨n,o⟩:∃n:Nat,n=225:=⟨_,rfl⟩;rw [<-o]at f;have l:Sz n (Xg (sqf 13 xs)):=O5;have s:∀i,(cf _ i).natAbs<=2^n:=λi=>Ycq e O1 i;exact⟨j,λu v=>sep_of h.v.tr g j (cD O1) (cD O1) s (λi=>Zhv l i) (λm=>f _ O1 m) u v⟩
theorem Yc9{j e w:Nat}{W:Rat}(o:1/((2^(e+1):Nat):Rat)<x)(s:x*((2^j:Nat):Rat)=W)(u:W<=((2^w:Nat):Rat)):j<e+1+w:=by
 have f:=two_pow_pos (e+1);have g:=two_pow_pos j;rcases bA j _ with q|q
 .omega
 .have hi:=fP.2 f;have h:((2^(e+1)))*((2^w))<=((2^j):Rat):=by
   have:2^(e+1)*2^w<=2^j:=by rw [<-bQ];simp_all [dC]
   exact_mod_cast this
  have l:=aT (show 0<x-((2^(e+1)))⁻¹ by grind) g;have m:=aD (cT hi) (show 0<=((2^j))-((2^(e+1)))*((2^w)) by grind);have n:((2^(e+1)):Rat)⁻¹*(((2^(e+1)))*((2^w)))=((2^w)):=by grind
  grind
structure NIn (xs:List Int) (s t:Rat) (j:Nat) (a b:R2):Prop where
 ex:∃Q W,Hv 34 Q j W a b/\W<=((2^34:Nat):Rat)
 lo:s<=qv a
 hi:qv b<=t
 l0:-((2^33:Nat):Rat)<=s
 h0:t<=((2^33:Nat):Rat)
 pa:0<=Zc xs (qv a)
 pb:0<=Zc xs (qv b)
 ng:Zy0 xs (qv a) (qv b)
theorem NIn.j{hi:Rat}{j:Nat}(g:Cvd xs)(f:xs≠[])(h:NIn xs lo hi j a b):j<5035:=by obtain⟨Q,W,l,m⟩:=h.ex;obtain⟨n,hs⟩:=Yno g f;have o:=h.lo;have u:=h.hi;have B:=h.l0;have D:=h.h0;have:=Yoo (Zgt g f).1 n (K:=2^34) (e:=5000) hs (s:=qv a) (t:=qv b) O5 O5 h.pa h.pb h.ng;exact Yc9 (e:=5000) (w:=34) this l.wd m
theorem NIn.start(e:0<a.2)(f:0<b.2)(h:bl a.1.natAbs<=32)(s:bl a.2.natAbs<=32)(j:bl b.1.natAbs<=32)(u:bl b.2.natAbs<=32)(g:qv a<=qv b)(B:0<=Zc xs (qv a))(D:0<=Zc xs (qv b))(w:Zy0 xs (qv a) (qv b)) :
  NIn xs (qv a) (qv b) 0 (slow a) (slow b):=by
 obtain⟨Q,l⟩:=Hv.start (n:=34) e f O1 O1 O1 O1 O8 g;obtain⟨-,-,-,-,F⟩:=Zcx e O1 O1 O8;obtain⟨-,-,-,-,t5⟩:=Zcx f O1 O1 O8;have m:=Zpv (K:=2^33) e (aB (eD ((Qs 32 _).1 h)) O1);have o:=Zpv (K:=2^33) f (aB (eD ((Qs 32 _).1 j)) O1);exact⟨⟨Q,_,l,O5⟩,O5,O5,m.1,o.2,O5,O5,O5⟩
structure Fnd (xs:List Int) (s t:Rat) (m:R2):Prop where
 ng:Zc xs (qv m)<0
 lo:s<=qv m
 hi:qv m<=t
 b1:bl m.1.natAbs<=5200
 b2:bl m.2.natAbs<=5200
 lw:Lw m
theorem NIn.round{hi:Rat}{j:Nat}(D:Cvd xs)(I:xs≠[])(h:NIn xs lo hi j a b) :
  Ze1 a b/\(bl (Pv a b).1.natAbs<=5200/\bl (Pv a b).2.natAbs<=5200/\0<(Pv a b).2)/\(bl a.1.natAbs<=5200/\bl a.2.natAbs<=5200/\0<a.2)/\(bl b.1.natAbs<=5200/\bl b.2.natAbs<=5200/\0<b.2)/\
  (vlu (Nl xs) (Pv a b)<0->Fnd xs lo hi (Pv a b))/\(¬vlu (Nl xs) (Pv a b)<0->ngb (Nl xs) (chx xs) a (Pv a b)=true->NIn xs lo hi (j+1) a (Pv a b))/\
  (¬vlu (Nl xs) (Pv a b)<0->ngb (Nl xs) (chx xs) a (Pv a b)=false->NIn xs lo hi (j+1) (Pv a b) b):=by
 have hj:=h.j D I;obtain⟨Q,W,n,o⟩:=h.ex;obtain⟨F,l,m3,m,G,V,Y⟩:=n.mid (B:=5200) O1 O8;have P:=n.le;have R:=h.lo;have S:=h.hi;have hv:=Zkg (xs:=xs) l.2.2;have g:¬vlu (Nl xs) (Pv a b)<0->0<=Zc xs (qv (Pv a b)):=λf=>by grind [Pe,Rat.le_of_lt,Rat.le_refl]
 have e:=Zqb D m.2.2 l.2.2 (show qv a<=qv _ by grind);refine⟨F,l,m,G,λf=>?_,λf w=>?_,λf w=>?_⟩
 .have:Zc xs (qv (Pv a b))<0:=by
   rcases Pe (Zc xs (qv (Pv a b)))with⟨s,u⟩|⟨s,u⟩|⟨s,u⟩
   all_goals omega
  exact⟨this,O5,O5,l.1,l.2.1,Yic F m.2.2 G.2.2⟩
 .exact⟨⟨Q,W,V,o⟩,R,O5,h.l0,h.h0,h.pa,g f,e.1 w⟩
 .refine⟨⟨Q,W,Y,o⟩,O5,S,h.l0,h.h0,g f,h.pb,?_⟩;obtain⟨x,Z,x2,H⟩:=h.ng;rcases(show x<=qv (Pv a b)\/qv (Pv a b)<=x by grind)with q|q
  .have:=e.2 ⟨x,Z,q,H⟩;grind
  .exact⟨x,q,x2,H⟩
def frs(xs:List Int):Nat->R2->R2->R2×R2
 | 0,a,b=>(a,b)
 | n+1,a,b=>if ngb (Nl xs) (chx xs) a (Pv a b)then frs xs n a (Pv a b)else frs xs n (Pv a b) b
structure E32 (a:R2):Prop where
 p:0<a.2
 b1:bl a.1.natAbs<=32
 b2:bl a.2.natAbs<=32
theorem E32.slow(h:E32 a):E32 (slow a)/\qv (Go.Sky.slow a)=qv a/\Lw (Go.Sky.slow a)/\¬Li a.1 a.2:=by obtain⟨e,f,g,j,l⟩:=Zcx (n:=32) h.p h.b1 h.b2 O1;exact⟨⟨f,g,j⟩,l,Zqf h.p e,e⟩
theorem Zjf{m:R2}(g:0<m.2):vlu (Nl xs) m<0↔Zc xs (qv m)<0:=by
 rw [Zkg g];rcases Pe (Zc xs (qv m))with⟨f,e⟩|⟨f,e⟩|⟨f,e⟩
 .rw [e];constructor
  .intro h;exact absurd h O4
  .intro h;grind
 .rw [e];exact⟨λ_=>f,λ_=>O4⟩
 .rw [e,f];constructor
  .intro h;exact absurd h O4
  .intro h;grind
theorem end_l(l:E32 a)(e:qv a<=qv b)(h:vlu (Nl xs) (slow a)<0):Fnd xs (qv a) (qv b) (slow a):=by obtain⟨f,g,m,n⟩:=l.slow;have j:=(Zjf f.p).1 h;exact⟨j,by rw [g];exact mE,by rw [g];exact e,aB f.b1 O4,aB f.b2 O4,m⟩
theorem end_r(l:E32 b)(e:qv a<=qv b)(h:vlu (Nl xs) (slow b)<0):Fnd xs (qv a) (qv b) (slow b):=by obtain⟨f,g,m,n⟩:=l.slow;have j:=(Zjf f.p).1 h;exact⟨j,by rw [g];exact e,by rw [g];exact mE,aB f.b1 O4,aB f.b2 O4,m⟩
theorem Ydg(m:Cvd xs)(f:E32 a)(g:E32 b)(h:qv a<=qv b)(j:¬vlu (Nl xs) (slow a)<0)(l:¬vlu (Nl xs) (slow b)<0)(n:ngb (Nl xs) (chx xs) a b=true) :
  NIn xs (qv a) (qv b) 0 (slow a) (slow b):=by
 obtain⟨u,w,B,D⟩:=f.slow;obtain⟨t1,t2,t3,t4⟩:=g.slow;have o:¬Zc xs (qv (slow a))<0:=λe=>j ((Zjf u.p).2 e);have s:¬Zc xs (qv (slow b))<0:=λe=>l ((Zjf t1.p).2 e);rw [w]at o;rw [t2]at s;exact NIn.start f.p g.p f.b1 f.b2 g.b1 g.b2 h O5 O5 ((Zqb m f.p g.p h).1 n)
theorem ngb_ne(h:ngb (Nl xs) (chx xs) a b=true):xs≠[]:=λe=>by
 subst e;unfold ngb at h;split at h
 .exact absurd h (by show ¬decide ((0:Int)<0)=true;decide)
 .exact absurd h (by show ¬(decide ((0:Int)<0) || false)=true;decide)
theorem E32.efit(h:E32 a):efit a=true:=by have:=h.b1;have:=h.b2;unfold Go.Sky.efit;exact aE O1
structure FIn (xs:List Int) (j:Nat) (a b:R2):Prop where
 ex:∃Q W,Hv 34 Q j W a b
 bj:j<=200
theorem FIn.start(e:E32 a)(f:E32 b)(g:qv a<=qv b):FIn xs 0 (slow a) (slow b):=by obtain⟨Q,h⟩:=Hv.start (n:=34) e.p f.p (aB e.b1 O4) (aB e.b2 O4) (aB f.b1 O4) (aB f.b2 O4) O1 g;exact⟨⟨Q,_,h⟩,O1⟩
theorem FIn.round{j:Nat}(h:FIn xs j a b) :
  Ze1 a b/\(bl (Pv a b).1.natAbs<=5200/\bl (Pv a b).2.natAbs<=5200/\0<(Pv a b).2)/\(bl a.1.natAbs<=5200/\bl a.2.natAbs<=5200/\0<a.2)/\(bl b.1.natAbs<=5200/\bl b.2.natAbs<=5200/\0<b.2)/\
  (j<200->FIn xs (j+1) a (Pv a b)/\FIn xs (j+1) (Pv a b) b):=by
 obtain⟨Q,W,e⟩:=h.ex;have u:=h.bj;obtain⟨g,l,w,m,n,o,s⟩:=e.mid (B:=5200) O1 O1;exact⟨g,l,m,n,λf=>⟨⟨⟨Q,W,o⟩,O1⟩,⟨⟨Q,W,s⟩,O1⟩⟩⟩
theorem Yon(g:E32 a)(j:E32 b)(f:qv a<=qv b)(hi:i<2)(h:vlu (Nl xs) ([slow a,slow b].getD i (0,0))<0):Fnd xs (qv a) (qv b) ([slow a,slow b].getD i (0,0)):=by
 rcases(show i=0\/i=1 by omega)with e|e
 .subst e;exact end_l g f h
 .subst e;exact end_r j f h
theorem Yp1(f:E32 a)(g:E32 b)(i:Nat)(hi:i<2):E32 ([slow a,slow b].getD i (0,0)):=by
 rcases(show i=0\/i=1 by omega)with e|e
 .subst e;exact f.slow.1
 .subst e;exact g.slow.1
def Yql(e:E32 a)(f:E32 b)(h:¬0<cmp a b):qv a<=qv b:=(Yqk e.p f.p).1 O1
def Zi4:E32 (0,1):=⟨O4,O4,O4⟩
def Zi3:E32 (1,1):=⟨O4,O4,O4⟩
def Zi6:¬0<cmp (0,1) (1,1):=O9
def Zcq(xs:List Int):Bool:=ngb (Nl xs) (chx xs) (0,1) (1,1)
def slS(d:List Int):Nat->Int
 | 0=>0
 | k+1=>slS d k+Zal [d.getD k 0,(k:Int)+1]
def fsS(d:List Int)(k:Nat):Int:=if k=0 then 0 else d.getD 0 0
def qr(a b:Int):R2:=(Fe a b,Hd a b)
def bgS(c:List Int):Int:=fsS (c.drop 1) (c.drop 1).length
def enS(c:List Int):Int:=slS (c.drop 1) (c.drop 1).length
def bS(ov T:Int)(x y z:List Int):Nat->List R2
 | 0=>List.replicate 3 (0,0)
 | i+1=>(bS ov T x y z i).set i (qr (bgS (Ya i x y z)) (Zal [ov,T]))
def eS(ov T:Int)(x y z:List Int):Nat->List R2
 | 0=>List.replicate 3 (0,0)
 | i+1=>(eS ov T x y z i).set i (qr (enS (Ya i x y z)) (Zal [ov,T]))
def joinB(fr to ov:Int)(x y z:List Int)(e g f:Int)(h j l:List Int):Bool:=
 decide (qr (bgS h) (Zal [f,g-e])=qr (enS x) (Zal [ov,to-fr])/\qr (bgS j) (Zal [f,g-e])=qr (enS y) (Zal [ov,to-fr])/\qr (bgS l) (Zal [f,g-e])=qr (enS z) (Zal [ov,to-fr]))
def plT(c:List Int)(a d:Int)(k:Nat):Int:=c.getD k 0*(a^k*d^(5-(k:Int)).toNat)
def plS(c:List Int)(a d:Int):Nat->Int
 | 0=>0
 | k+1=>plS c a d k+plT c a d k
def pl(c:List Int)(a d:Int):Int:=plS c a d c.length
def atS(a d:Int)(x y z:List Int):Nat->List Int
 | 0=>List.replicate 3 0
 | i+1=>(atS a d x y z i).set i (pl (Ya i x y z) a d)
def gS(ov a d:Int)(x y z:List Int):Nat->Int
 | 0=>ov*d^5
 | i+1=>(Int.gcd (gS ov a d x y z i) (pl (Ya i x y z) a d):Int)
abbrev plV (p q r o:Int):Value:= .agg #[.bool (decide (p<0)),.string (Xo p.natAbs),.bool (decide (q<0)),.string (Xo q.natAbs),.bool (decide (r<0)),.string (Xo r.natAbs),.bool (decide (o<0)),.string (Xo o.natAbs)]
theorem Bt(a d:Int)(x y z:List Int):∀i,(atS a d x y z i).length=3
 | 0=>rfl
 | i+1=>by show(List.set _ _ _).length=3;rw [cH];exact Bt a d x y z i
theorem Ylx(a d:Int)(x y z:List Int)(h:i<3):atS a d x y z i=(atS a d x y z i).set i 0:=by
 match i,h with
 | 0,_=>rfl
 | 1,_=>rfl
 | 2,_=>rfl
theorem Zte{l:List Int}{v:Int}(h:i<l.length):(l.set i v).getD i 0=v:=by rw [aJ,List.getElem?_set_self h];rfl
theorem Zzz(h:∀x∈c,La x){a:Int}(j:0<=a/\a<=3600000)(l:1<=d/\d<=3600000)(m:k<=5):(a^k*d^(5-(k:Int)).toNat).natAbs<=3600000^5/\(plT c a d k).natAbs<=9223372036854775808*3600000^5:=by
 have e:(a^k*d^(5-(k:Int)).toNat).natAbs<=3600000^5:=by rw [bR,kI,kI];refine aB (aU (gF (show a.natAbs<=3600000 by omega) k) (gF (show d.natAbs<=3600000 by omega) _)) ?_;rw [<-bQ,show k+(5-(k:Int)).toNat=5 by omega];exact aI _
 obtain⟨f,g⟩:=Fr h k;refine⟨e,?_⟩;unfold plT;rw [bR];exact aU O1 e
theorem Zz1{c:List Int}(h:∀x∈c,La x){a d:Int}(e:0<=a/\a<=3600000)(f:1<=d/\d<=3600000):∀k,k<=6->(plS c a d k).natAbs<=k*(9223372036854775808*3600000^5)
 | 0,_=>by show(0:Int).natAbs<=_;decide
 | k+1,g=>by have j:=Zz1 h e f k O1;have:=(Zzz h e f (k:=k) O1).2;show(plS c a d k+plT c a d k).natAbs<=_;rw [fC];omega
def Zil(h:∀x∈c,La x){a:Int}(f:0<=a/\a<=3600000)(g:1<=d/\d<=3600000)(e:k<=6):bl (plS c a d k).natAbs<=180:=
 (Qs 180 _).2 (aY (Zz1 h f g k e) (aY (aQ _ e) O4))
theorem Ylh(h:∀x∈c,La x){a:Int}(g:0<=a/\a<=3600000)(j:1<=d/\d<=3600000)(l:k<=5):bl (a^k*d^(5-(k:Int)).toNat).natAbs<=180/\bl (plT c a d k).natAbs<=180:=by obtain⟨e,f⟩:=Zzz h g j l;exact⟨(Qs 180 _).2 (aY e O4),(Qs 180 _).2 (aY f O4)⟩
theorem Zyj (a:Int)(f:0<=a/\a<=3600000)(e:k<=5):bl (a^k).natAbs<=180:=by refine(Qs 180 _).2 ?_;rw [kI];exact aY (aB (gF (show a.natAbs<=3600000 by omega) k) (dC O4 e)) O4
theorem Zi1{fr to ov:Int}{x y z:List Int}(h:Sgo fr to ov x y z){a d:Int}(e:0<=a/\a<=3600000)(f:1<=d/\d<=3600000):∀i,0<gS ov a d x y z i/\bl (gS ov a d x y z i).natAbs<=180
 | 0=>by have g:=h.o1;have j:=h.o2;refine⟨dU O1 (iH O1),(Qs 180 _).2 ?_⟩;show(ov*d^5).natAbs<_;rw [bR,kI];exact aY (aU (show ov.natAbs<=4294967296 by omega) (gF (show d.natAbs<=3600000 by omega) 5)) O4
 | i+1=>by obtain⟨g,j⟩:=Zi1 h e f i;have l:0<Int.gcd (gS ov a d x y z i) (pl (Ya i x y z) a d):=Int.gcd_pos_of_ne_zero_left _ O1;have m:=Zr7 (gS ov a d x y z i) (pl (Ya i x y z) a d);have n:bl (pl (Ya i x y z) a d).natAbs<=180:=Zil (h.hc i) e f (h.lc i).2;show 0<((Int.gcd _ _:Nat):Int)/\bl ((Int.gcd _ _:Nat):Int).natAbs<=180;exact⟨O1,O1⟩
def Ygg(ov a d:Int)(x y z:List Int)(e g f:Int)(h j l:List Int):Bool:=
 decide (pl x a d/gS ov a d x y z 3=pl h g f/gS e g f h j l 3/\pl y a d/gS ov a d x y z 3=pl j g f/gS e g f h j l 3/\pl z a d/gS ov a d x y z 3=pl l g f/gS e g f h j l 3/\ov*d^5/gS ov a d x y z 3=e*f^5/gS e g f h j l 3)
def Zi0(to ov:Int)(x y z:List Int)(e f:Int)(g h j:List Int):Bool:=decide (to=e) && Ygg ov 1 1 x y z f 0 1 g h j
structure Gin (g:Zd):Prop where
 f:La g.1.1
 t:La g.1.2.1
 o:La g.1.2.2
 x:∀a∈g.2.1.2,La a
 y:∀a∈g.2.2.1.2,La a
 z:∀a∈g.2.2.2.2,La a
def seB(g:Zd):Bool:=Za4 g.1.1 g.1.2.1 g.1.2.2 g.2.1.2 g.2.2.1.2 g.2.2.2.2
def meG(g h:Zd):Bool:=Zi0 g.1.2.1 g.1.2.2 g.2.1.2 g.2.2.1.2 g.2.2.2.2 h.1.1 h.1.2.2 h.2.1.2 h.2.2.1.2 h.2.2.2.2
abbrev SgG (g:Zd):Prop:=Sgo g.1.1 g.1.2.1 g.1.2.2 g.2.1.2 g.2.2.1.2 g.2.2.2.2
theorem Oo{g:Zd}(h:Gin g)(e:seB g=true):SgG g:=Sgo.of h.x h.y h.z e
def Zem(ps:List Zd)(i:Nat):Bool:=seB (ps.getD i G0) && (decide (i=0) || meG (ps.getD (i-1) G0) (ps.getD i G0))
def Yg(ps:List Zd):Bool:=(List.range ps.length).all (Zem ps) && decide (1<=ps.length) && decide (ps.length<=256)
theorem Om{ps:List Zd}(h:Zem ps i=true):seB (ps.getD i G0)=true:=by unfold Zem at h;rw [aP]at h;exact h.1
theorem okAt_s{ps:List Zd}(h:seB (ps.getD i G0)=false):Zem ps i=false:=by unfold Zem;rw [h];rfl
theorem Zw9{ps:List Zd}(h:seB (ps.getD i G0)=true)(e:i=0):Zem ps i=true:=by unfold Zem;rw [h,aE e];rfl
theorem Zh7{ps:List Zd}(h:seB (ps.getD i G0)=true)(e:0<i):Zem ps i=meG (ps.getD (i-1) G0) (ps.getD i G0):=by unfold Zem;rw [h,aG O1];rfl
theorem Zz6 (i:Nat){ps:List Zd}(hi:i<ps.length)(h:Zem ps i=false):Yg ps=false:=by
 unfold Yg;have:(List.range ps.length).all (Zem ps)=false:=by
  cases hb:(List.range ps.length).all (Zem ps)with
  | false=>rfl
  | true=>have:=bC.1 hb i (cF.2 hi);rw [h]at this;cases this
 rw [this];rfl
theorem Zp2{ps:List Zd}(h:∀i,i<ps.length->Zem ps i=true):Yg ps=decide (1<=ps.length/\ps.length<=256):=by unfold Yg;rw [bC.2 λi hi=>h i (cF.1 hi)];simp
theorem Yc2(g:Zd)(i:Nat):seB g=false\/(seB g=true/\i=0)\/(seB g=true/\0<i):=by
 cases seB g
 .exact .inl rfl
 .exact .inr (by rcases bB i with h|h;exact .inl ⟨rfl,h⟩;exact .inr ⟨rfl,h⟩)
theorem Xb{ps:List Zd}(h:Yg ps=true):(∀i,i<ps.length->Zem ps i=true)/\1<=ps.length/\ps.length<=256:=by unfold Yg at h;simp only [aP,bO]at h;exact⟨λi hi=>bC.1 h.1.1 i (cF.2 hi),h.1.2,h.2⟩
open Go.ChangeShapes Go.WideShapes Go.ChangeAt Go.RowKit Go.Joins Go.Deep
open Go.Proofs
variable {P:Program} {W:World} {H:Type} {enc:TypeId×Value->H}
theorem Zie{n:Int}(h:(Lit.int .i64 n).wf=true):La n:=by simp [Lit.wf,IntKind.has,IntKind.min,IntKind.max,IntKind.bits,IntKind.signed]at h;exact⟨O1,O1⟩
theorem Zow{w:World}{a:Addr}(h:w.cell? a=some v):a.spot=none/\a.block<w.heap.size:=by
 unfold World.cell? at h;split at h
 .rename_i c t f e;refine⟨?_,(aM.1 e).1⟩;cases hs:a.spot with
  | none=>rfl
  | some x=>rw [hs]at h;simp at h
 .cases h
theorem Zh6{t e:TypeId}{c:Value}{x:DataW H×List MemPlace}(hs:P.underlying t=some (.slice e))(he:P.underlying e=some (.int .i64))(hc:P.cellsOf e=1)(h:DataW.trod enc P W 0 (λ_=>true) true fuel t [c]=some x) :
  ∃(s:SL) (l:List Int),c=Xa s/\(Yt 1 Xk (Xa s) l).holds W/\∀a∈l,La a:=by
 rcases open_ints hs he hc h with⟨B,_⟩|⟨a,f,m,zs,B,_,hl,hm,hz,_,n,Z⟩
 .cases B;exact⟨(none,0,0),[],rfl,Cd 1 Xk W,λx Q=>by cases Q⟩
 .cases B;have a0:zs.length=m:=by simpa using hz
  have D:(zs.take f).length=f:=by rw [dX];omega
  by_cases hn:f=0
  .subst hn;exact⟨(some a,0,m),[],rfl,⟨⟨some a,m,rfl,hl,hm,.inl rfl⟩,λb R=>absurd rfl R.1⟩,λx Q=>by cases Q⟩
  .have c0:=n 0 O1;obtain⟨g,o,w⟩:=a;rw [show(⟨g,o,w⟩:Addr).add 0=⟨g,o,w⟩from rfl]at c0;obtain⟨I,G⟩:=Zow c0;simp only at I G;subst I;refine⟨(some ⟨g,o,none⟩,f,m),zs.take f,rfl,⟨⟨some ⟨g,o,none⟩,m,by rw [D],by rw [D];exact hl,hm,.inr ⟨g,o,rfl,λi x hi j u V=>?_⟩⟩,λb R=>by cases R.2;exact G⟩,λx Q=>?_⟩
   .have S:i<f:=by
     rcases bA i f with h|h
     .exact h
     .rw [cW (by rw [D];exact h)]at hi;cases hi
    have Y:j=0:=by
     rcases j with _|j
     .rfl
     .simp [Value.cells]at V
    subst Y;have F:=n i O1;rw [Od]at F;rw [List.getElem?_take_of_lt S]at hi;rw [aJ,hi]at F;simp [Value.cells]at V;subst V;simpa using F
   .have F:=Z x (fZ Q);have h3:=bounds_i64 F;exact⟨O1,O1⟩
theorem Yc1 {t e:TypeId} {f0 f1 f2 f3 f4 f5:Field} {cs:List Value}  {x:DataW H×List MemPlace} (ht:P.underlying t=some (.struct #[f0,f1,f2,f3,f4,f5]))
  (h0:f0.type=ti) (h1:f1.type=ti) (h2:f2.type=ti) (h3:f3.type=ts) (h4:f4.type=ts) (h5:f5.type=ts) (o0:f0.offset=0) (o1:f1.offset=1) (o2:f2.offset=2) (o3:f3.offset=3) (o4:f4.offset=4) (o5:f5.offset=5)
  (hi:P.underlying ti=some (.int .i64)) (hs:P.underlying ts=some (.slice e)) (s:P.underlying e=some (.int .i64)) (o:P.cellsOf e=1) (j:P.cellsOf ti=1) (l:P.cellsOf ts=1) (hC:P.cellsOf t=6)
  (h:DataW.trod enc P W 0 (λ_=>true) true fuel t cs=some x):∃g:Zd,cs=[.int .i64 g.1.1,.int .i64 g.1.2.1,.int .i64 g.1.2.2,Xa g.2.1.1,Xa g.2.2.1.1,Xa g.2.2.2.1]/\(qG g).holds W/\Gin g:=by
 obtain⟨xs,n,_,hx,hl,m,f⟩:=DataW.trod_struct ht h;rw [hC]at hl
 match cs,hl with
 | [c0,c1,c2,c3,c4,c5],_=>
 match xs,m with
 | [y0,y1,y2,y3,y4,y5],_=>
 have Q:=f 0 f0 rfl;have R:=f 1 f1 rfl;have S:=f 2 f2 rfl;have V:=f 3 f3 rfl;have Y:=f 4 f4 rfl;have Z:=f 5 f5 rfl;rw [h0,o0,j]at Q;rw [h1,o1,j]at R;rw [h2,o2,j]at S;rw [h3,o3,l]at V;rw [h4,o4,l]at Y;rw [h5,o5,l]at Z;obtain⟨m0,q0,w0⟩:=DataW.trod_int hi Q;obtain⟨m1,q1,w1⟩:=DataW.trod_int hi R;obtain⟨m2,q2,w2⟩:=DataW.trod_int hi S;obtain⟨sx,x,rfl,w,B⟩:=Zh6 (enc:=enc) hs s o (c:=c3) (x:=y3) V;obtain⟨sy,y,rfl,D,F⟩:=Zh6 (enc:=enc) hs s o (c:=c4) (x:=y4) Y;obtain⟨sz,z,rfl,G,I⟩:=Zh6 (enc:=enc) hs s o (c:=c5) (x:=y5) Z;simp at q0 q1 q2;subst q0;subst q1;subst q2;exact⟨((m0,m1,m2),(sx,x),(sy,y),(sz,z)),rfl,λu hu=>by
  simp only [aW,dA,fR]at hu;rcases hu with rfl|rfl|rfl
  .exact w
  .exact D
  .exact G,⟨Zie w0.2,Zie w1.2,Zie w2.2,B,F,I⟩⟩
theorem Ydd {t0 t e:TypeId} {f0 f1 f2 f3 f4 f5:Field}  {d:DataW H} {p:List MemPlace} (l:P.underlying t0=some (.slice t)) (ht:P.underlying t=some (.struct #[f0,f1,f2,f3,f4,f5]))
  (h0:f0.type=ti) (h1:f1.type=ti) (h2:f2.type=ti) (h3:f3.type=ts) (h4:f4.type=ts) (h5:f5.type=ts) (o0:f0.offset=0) (o1:f1.offset=1) (o2:f2.offset=2) (o3:f3.offset=3) (o4:f4.offset=4) (o5:f5.offset=5)
  (hi:P.underlying ti=some (.int .i64)) (hs:P.underlying ts=some (.slice e)) (he:P.underlying e=some (.int .i64)) (hc:P.cellsOf e=1) (R:P.cellsOf ti=1) (S:P.cellsOf ts=1) (hC:P.cellsOf t=6)
  {r:Reach} {b0:Nat} (hv:Value.okWide P W r b0 t0 v) (h:DataW.Trod enc P W 0 (λ_=>true) true t0 v d p):∃ps:List Zd,(Xv 6 Pt qG v ps).holds W/\∀g∈ps,Gin g:=by
 obtain⟨a0,I,a6,rfl⟩:=okWide_slice l hv;obtain⟨fuel,hf⟩:=h;rcases open_slice l hf with⟨B,_⟩|⟨a,a4,a3,m,n,D,Pl,B,_,hl,hm,w,hx,V⟩
 .simp [Value.cells]at B;obtain⟨rfl,rfl,rfl⟩:=B;exact⟨[],⟨Cd 6 Pt W,λz hz=>by cases hz⟩,λg s=>by cases s⟩
 .simp [Value.cells]at B;obtain⟨rfl,rfl,rfl⟩:=B;simp at w;subst w
  haveI:Inhabited Zd:=⟨G0⟩
  obtain⟨xs,a1,G⟩:=Zdp (p:=λi (g:Zd)=>W.cells? 0 (a.add (i*6)) 6=some [.int .i64 g.1.1,.int .i64 g.1.2.1,.int .i64 g.1.2.2,Xa g.2.1.1,Xa g.2.2.1.1,Xa g.2.2.2.1]/\(qG g).holds W/\Gin g) I λi f=>by obtain⟨a7,k2,k3⟩:=V i O1;rw [hC]at k2;obtain⟨g,rfl,k4,k5⟩:=Yc1 ht h0 h1 h2 h3 h4 h5 o0 o1 o2 o3 o4 o5 hi hs he hc R S hC k3;exact⟨g,k2,k4,k5⟩
  have o:∀g∈xs,(qG g).holds W/\Gin g:=λg s=>by obtain⟨i,f,rfl⟩:=fO s;exact(G i _ (aL f)).2
  refine⟨xs,⟨⟨⟨some a,m,by rw [a1],O1,hm,?_⟩,λb hb=>?_⟩,λg s=>(o g s).1⟩,λg s=>(o g s).2⟩
  .rcases bB I with hz|hz
   .exact .inl (aK O1)
   .right;obtain⟨g,a2,a5⟩:=a;obtain⟨F,_⟩:=Zlm l hv;simp only at F;subst F;refine⟨g,a2,rfl,λi x f j u Y=>?_⟩;obtain⟨_,_,Q⟩:=World.cells?_some (G i x f).1;have Z:j<6:=by
     rcases bA j 6 with h|h
     .exact h
     .rw [cW (by simp [Value.cells];omega)]at Y;cases Y
    have:=Q j Z;simp only [Od]at this;rw [this];simpa [Value.cells]using Y
  .cases hb.2;exact(Zlm l hv).2
end Go.Sky
namespace Go.Sky
open Go.ChangeShapes Go.WideShapes Go.ChangeAt Go.RowKit Go.Joins Go.Deep
open Go.Proofs
variable {P:Program} {W:World} {H:Type} {enc:TypeId×Value->H}
theorem Zll {t ti:TypeId} {f0 f1 f2:Field} {v:Value} {d:DataW H} {p:List MemPlace} (q:P.underlying t=some (.struct #[f0,f1,f2])) (F:P.cellsOf t=3) (z:f0.type=ti) (B:f1.type=ti) (D:f2.type=ti) (R:f0.offset=0) (S:f1.offset=1) (V:f2.offset=2)
  (hi:P.underlying ti=some (.int .i64)) (f:P.cellsOf ti=1) {r:Reach} {x:Nat} (I:Value.okWide P W r x t v) (h:DataW.Trod enc P W 0 (λ_=>true) true t v d p):∃a b c:Int,v= .agg #[.int .i64 a,.int .i64 b,.int .i64 c]/\La a/\La b/\La c:=by
 obtain⟨y,rfl,e⟩:=okWide_struct q I;obtain⟨o,G⟩:=h;obtain⟨xs,n,_,hx,hl,i,g⟩:=DataW.trod_struct q G;rw [F]at e;obtain⟨l⟩:=y;have e:l.length=3:=by simpa using e
 match l,e with
 | [c0,c1,c2],_=>
 match xs,i with
 | [y0,y1,y2],_=>
 have j:=g 0 f0 rfl;have k:=g 1 f1 rfl;have m:=g 2 f2 rfl;rw [z,R,f]at j;rw [B,S,f]at k;rw [D,V,f]at m;obtain⟨M,s,Y⟩:=DataW.trod_int hi j;obtain⟨N,u,Z⟩:=DataW.trod_int hi k;obtain⟨Q,w,w2⟩:=DataW.trod_int hi m;simp [Value.cells]at s u w;subst s;subst u;subst w;exact⟨M,N,Q,rfl,Zie Y.2,Zie Z.2,Zie w2.2⟩
end Go.Sky
namespace Go.Sky
open Go.RowKit Below
variable {P:Program} {N:Nat} {sc:Nat->Prop} {env env':Qm} {H H':Hp} {Q Q':Exit->Act->World->Prop}
def Ygm{n:Nat}{a:String}{args:Array Value}{w:World}{R:Value->World->Prop}(h:Rows P a args w R):RowsIn Fence.wide n P a args w R:=λc b _=>
 let ⟨v,w',r,s⟩:=h c b;⟨v,w',r,stepsIn_wide.2 s⟩
def noQ:Exit->Act->World->Prop:=λ_ _ _=>False
section
variable {ops:Array Oper} {C:World->World->Prop}
def wpAnyZ(P:Program)(ops:Array Oper)(d:List Nat)(C:World->World->Prop)(Q:Exit->Act->World->Prop):Nat->Array Bool->Act->World->Prop
 | 0,_,_,_=>False
 | c+1,b,a,w=>if Fv ops d b=true then wpAnyIn Fence.wide 0 P .any ops Q (c+1) b a w else
  (Region.ready .any ops b=[]->False)/\
  ∀i∈Region.ready .any ops b,wpOp P ops noQ i (λf e=>C w e/\wpAnyZ P ops d C Q c (b.setIfInBounds i true) f e) a w
inductive Dep (ops:Array Oper) (i:Nat):Nat->Prop
 | base {j:Nat} {o:Oper} {e:Edge} : ops[j]? = some o->e∈o.after->Region.binds .any e=true->e.on=i->Dep ops i j
 | step {j:Nat} {o:Oper} {e:Edge} : ops[j]? = some o->e∈o.after->Region.binds .any e=true->Dep ops i e.on->Dep ops i j
def Ykf(ops:Array Oper)(i:Nat):Nat->List Nat
 | 0=>[]
 | k+1=>match ops[k]? with
  | some o=>if o.after.any (λe=>Region.binds .any e && (e.on == i || (Ykf ops i k).contains e.on))then k::Ykf ops i k else Ykf ops i k
  | none=>Ykf ops i k
def Clo(ops:Array Oper)(a:Array Bool):Prop:=∀k o,ops[k]? = some o->a.getD k true=true->∀e∈o.after,Region.binds .any e=true->a.getD e.on true=true
theorem Clo.set{a:Array Bool}{j:Nat}(g:Clo ops a)(i:j∈Region.ready .any ops a):Clo ops (a.setIfInBounds j true):=λk o m d e h f=>by
 obtain⟨p,r,n,c⟩:=mem_ready.1 i;have q:a.getD e.on true=true:=by
  by_cases b:j=k
  .grind
  .rw [getD_set_ne _ b]at d;exact g k o m d e h f
 by_cases l:j=e.on
 all_goals simp_all
end
def Zzy(ops:Array Oper)(a:List Nat):List (Nat×Nat)->Array Bool->Bool
 | [],_=>true
 | (i,1)::rest,listed=>(Region.ready .any ops listed == [i]) && !(Fv ops a listed) && Zzy ops a rest (listed.setIfInBounds i true)
 | (i,3)::rest,listed=>false
 | (i,_)::rest,listed=>(Region.ready .any ops listed).contains i && Region.free .any ops listed i && !(a.contains i) && a.all (λj=>(Ykf ops i ops.size).contains j) && Zzy ops a rest (listed.setIfInBounds i true)
def YL(P:Program)(N:Nat)(sc:Nat->Prop)(ops:Array Oper)(Q:Exit->Act->World->Prop)(k:Nat)(b:Array Bool)(env:Qm)(H:Hp):Prop:=
 ∀a w,Sat N sc env H a w->wpAnyIn Fence.wide 0 P .any ops Q (k+1) b a w
end Go.Sky
namespace Go.Sky
open Go.RowKit Below
variable {P:Program} {N:Nat} {sc:Nat->Prop} {env env':Qm} {H H':Hp} {Q Q':Exit->Act->World->Prop}
def CalY(P:Program)(f:FuncId)(d:List Value)(pre:List Pc)(i:Prop){G:Type}(j:G->Prop)(h:G->Value):Prop:=
 ∀(l:Nat) (J:World->Prop) (w:World),(∀p∈pre,p.holds w)->
  (∀g,j g->∀a,Below w.heap.size w a->YieldAt Fence.wide 0 P l #[h g] a λe c=>e= .returned (.bool false)/\J c)->
  Calls P f (.func (.yield l) #[] #[]::d).toArray w λe b=>(∃v,e= .returned v)/\((i/\Below w.heap.size w b)\/J b)
def FPostY(P:Program)(fn:Func)(w0:World)(b:Prop)(J:World->Prop):Exit->Act->World->Prop:=
 bodyPost P fn λe a=>(∃v,e= .returned v)/\((b/\Below w0.heap.size w0 a)\/J a)
def YJ(P:Program)(w0:World)(l:Nat){G:Type}(d:G->Prop)(c:G->Value)(J:World->Prop):Prop:=
 ∀g,d g->∀a,Below w0.heap.size w0 a->YieldAt Fence.wide 0 P l #[c g] a λe b=>e= .returned (.bool false)/\J b
theorem Ztp{fn:Func}{tmps:Array Value}{w:World}(a:fn.results=#[]):(results fn tmps).run P w= .ok (.tuple #[]) w:=by simp_all [Zlb]
end Go.Sky
namespace Go.Sky
open Go.RowKit Below
variable {P:Program} {N:Nat} {sc:Nat->Prop} {env env':Qm} {H H':Hp} {Q Q':Exit->Act->World->Prop}
end Go.Sky
namespace Go.Sky
open Go.RowKit Below
variable{f:FuncId}{vs:List Value}{pre:List Pc}{a:Act}{w:World}{K K':Act->World->Prop}{r:Nat}{ρ:Operand->Value}{Q1:Exit->Act->World->Prop}
variable {P:Program} {N:Nat} {sc:Nat->Prop} {env env':Qm} {H H':Hp} {Q Q':Exit->Act->World->Prop}
def Zdw(P:Program)(fn:Func)(w0:World)(pre:List Pc)(al:Bool){G:Type}(φ:G->Prop)(val:G->Value)(c:G->List Pc):Exit->Act->World->Prop:=
  bodyPostM Fence.wide 0 P fn λe d => ∃ g, e = .returned (val g) /\ φ g /\ Below w0.heap.size w0 d /\
        ∀p∈c g,p.holds d/\p.own=false/\∀b,p.fp b->w0.heap.size<=b\/(al=true/\∃q∈pre,q.fp b)
theorem Zej  {fn:Func} {c:Code}   {al:Bool} {G:Type} {φ:G->Prop} {val:G->Value} {k:G->List Pc} {N:Nat}
    (x:P.funcs[f]? = some fn) (d:fn.body=some c) (I:fn.ntmps=N) (y:Nat.ble vs.length N=true) (m:AllRo pre)
    (h:∀w0 (sc:Nat->Prop),(∀b,w0.heap.size<=b->sc b)->(∀b,sc b->w0.heap.size<=b\/∃q∈pre,q.fp b)->
      E P N sc c (Zdw P fn w0 pre al φ val k) (Ql 0 vs) ((0,Zy w0 (λ_=>False))::Yn 1 pre)) :
    Cal P f vs.toArray pre al φ val k:=λw D=>by
  refine(callsIn_wide).1 (callsIn_of_wp_marks x d aA (wpIn_wide.2 (h w _ (λb d=> .inl d) (λb d=>d) _ w ?_)));have o:vs.length<=N:=O11;refine⟨O5,rfl,λt v F=>?_,λi p hi=>?_,λi j p q B hi M s b d u=>?_,λi p l hi b d=>?_⟩
  . have n:=(Gj vs 0 t v F).2;have n:vs.toArray[t]? = some v:=O5;have z:=(aM.1 n).1;simp_all [bH,dY]
  . by_cases g:0=i
    . subst g;cases hi;exact Chg.refl _ w
    . rw [Zh _ _ g]at hi;exact D p (Na pre 1 i p hi).2
  . by_cases g:0=i
    . subst g;cases hi;cases s
    . rw [Zh _ _ g]at hi;rw [m.mem p (Na pre 1 i p hi).2]at s;grind
  . rw [Zh _ _ (λe=>l e.symm)]at hi;exact .inr ⟨p,(Na pre 1 i p hi).2,d⟩
def onlyR(Q:Exit->Act->World->Prop):Exit->Act->World->Prop:=Hg Q
theorem It:¬LetsOut (Hg Q):=λ⟨_,_,h⟩=>h
theorem Zz8{o:Oper}(b:∀c,o.op≠ .defer c)(h:o.wp P a w K (Hg Q)):o.wpIn (Fence.wide.inRound r) 0 P a w K Q:=by
  refine⟨λ_ _=>trivial,?_⟩;unfold Oper.wp at h;show o.uponIn _ 0 P a K Q ((o.semAt (some r) _).run P w);rw [Oper.semAt_some r _ o b];generalize (execOp _ o).run P w=x at *;cases x with
  | ok n g=>
    cases n<;>simp only [Oper.upon,Oper.uponIn]at h ⊢
    case value=>omega
    case skip=>omega
    case defer=>omega
    case enter f args=>
      refine⟨λh=>(by cases h),CallsIn.inRound r (callsIn_wide.2 (h.mono λe i d=>?_))⟩;cases e with
      | returned v=>omega
      | panicked c=>exact d.elim
      | outgrown=>grind [It]
    case row row args=>exact⟨λh=>(by cases h),Ygm h⟩
  | halt x g=>
    cases x<;>simp only [Oper.upon]at h
    case panic u=>exact h.elim
def Zjs(l:List Oper):Prop:=∀o∈l,∀c,o.op≠ .defer c
theorem Zqi{ops:Array Oper}{r:Nat} : ∀(l:List Oper) (a:Act) (w:World),Zjs l->wpList P ops (Hg Q) l a w->wpListIn (Fence.wide.inRound r) 0 P ops Q l a w
  | [],_,_,_,h=>h
  | o::l,a,w,hnd,h=>by
    unfold wpList at h;unfold wpListIn;split
    . rename_i c;simp only [c,jQ]at h;exact Oper.wpIn_mono (λa w d=>Zqi l a w (λo b=>hnd o (bN _ b)) d) (Zz8 (hnd o (bX ..)) (h.resolve_right λh=>It h.2))
    . rename_i c;simp only [c]at h;exact⟨λ_ _=>trivial,Zqi l _ w (λo b=>hnd o (bN _ b)) h⟩
def Ygv{id:Nat}{l:List Oper}(b:Zjs l)(h:L P N sc l.toArray l (Hg Q) env H)(hs:Sat N sc env H a w):(Code.region id l.toArray false).wpIn (Fence.wide.inRound r) 0 P Q a w:=
  wpIn_region_lit (Zqi l a w b (h a w hs))
def fx(l:Nat)(o:Obj):Pc:=
  { own:=false,fp:=λb=>b=l,holds:=λw=>w.heap[l]? = some o
    lt:=λw b h c=>by subst c;exact(aM.1 h).1
    stable:=λw g h d=>(d.block l (aM.1 h).1 (λe=>e rfl)).trans h }
def Zgq(o:Oper):Bool:=match o.op with
  | .build ..=>true
  | .store ..=>true
  | .load ..=>true
  | .alloc ..=>true
  | _=>false
theorem Yg9{o:Oper}(h:Zgq o=true){w':World}{d:Deferred} : (execOp ρ o).run P w≠ .ok (.defer d) w':=λb=>by
  unfold Zgq at h;cases ho:o.op<;>simp only [ho]at h<;>try (cases h)
  all_goals
    simp only [execOp,ho,Sem.run_bind]at b;revert b;generalize Sem.run P _ w=r;cases r<;>simp [Result.andThen,Sem.run_pure]
theorem Zld(a:Act)(ds:List Deferred)(d:Option Tmp)(v:Value):({ a with defers:=ds } : Act).put d v={ a.put d v with defers:=ds }:=by cases d<;>rfl
theorem Yog {o:Oper}   {ds:List Deferred}   (b:Zgq o=true) (k:∀a w,K a w->K' { a with defers:=ds } w)
    (l:∀e a w,¬Q1 e a w) (h:o.wp P a w K Q1):o.wp P { a with defers:=ds } w K' Q:=by
  unfold Oper.wp at h ⊢;have i:=λd w'=>Yg9 (P:=P) b (ρ:=a.eval) (w:=w) (w':=w') (d:=d);show o.upon P _ K' Q ((execOp a.eval o).run P w);generalize (execOp _ o).run P w=x at *;cases x with
  | ok n w'=>
    cases n<;>simp only [Oper.upon]at h ⊢
    case value=>grind [Zld]
    case skip=>grind [Zld]
    case defer d=>grind
    case enter f args=>
      refine h.mono λe j g=>?_;cases e with
      | returned v=>grind [Zld]
      | panicked c=>grind
      | outgrown=>obtain⟨_,_,h⟩:=g;grind
    case row row args=>exact h.mono λ_ _ g=>by grind [Zld]
  | halt x w'=>
    cases x<;>simp only [Oper.upon]at h;grind
theorem Zqk{ops:Array Oper}{ds:List Deferred} : ∀(l:List Oper) (a:Act) (w:World),l.all Zgq=true->wpList P ops (Hg λe a w=>Q e { a with defers:=ds } w) l a w->wpList P ops Q l { a with defers:=ds } w
  | [],_,_,_,h=>h
  | o::l,a,w,hnd,h=>by
    simp only [List.all_cons,aP]at hnd;unfold wpList at h ⊢;split
    . rename_i d;simp only [d,jQ]at h;have h:=h.resolve_right λh=>It h.2;refine .inl (Yog hnd.1 (λa w g=>Zqk l a w hnd.2 g) (λ_ _ _ h=>h) ?_);unfold Oper.wp at h ⊢;revert h;generalize (execOp _ o).run P w=x;intro h;cases x with
      | ok n i=>
        cases n<;>simp only [Oper.upon]at h ⊢
        case value=>exact h
        case skip=>exact h
        case defer=>exact h
        case enter f args=>
          refine h.mono λe j b=>?_;cases e with
          | returned v=>exact b
          | panicked c=>exact b
          | outgrown=>exact absurd b It
        case row row args=>exact h
      | halt x i=>
        cases x<;>simp only [Oper.upon]at h ⊢
        case panic u=>exact h
    . rename_i d;rw [aF d]at h;rw [Zld];exact Zqk l _ w hnd.2 h
end Go.Sky

