/- Rules, arithmetic and contracts: part 7. No conditions but those that each theorem names. -/
import Derived.Test.YtlnoheikolgejaaGreatLb05
set_option linter.all false
namespace Go.Sky
variable{a b m:R2}{x lo:Rat}{c p o xs r rest before q z:List Int}{d y ov:Int}{t i M N:Nat}{ls cs:List (SL×List Int)}{ds:List (List Int)}
theorem Zgw{a b:List Int}(h:Sim a b):∃c d:Int,c≠0/\d≠0/\∀x:Rat,(c:Rat)*Zi a x=(d:Rat)*Zi b x:=by obtain⟨c,d,f,g,e⟩:=h;exact⟨c,d,f,g,λx=>by rw [<-Zx,<-Zx];exact Ma x _ _ λi=>by rw [Pp,Pp];exact e i⟩
theorem Fg(h:x≠0):0<x*x:=by
 rcases(show 0<x\/x<0 by grind)with q|q
 .exact aX q q
 .have:=aX (a:=-x) (b:=-x) O4 O4;grind
theorem Ok{c:Int}(h:c≠0):(c:Rat)≠0:=λe=>h (by exact_mod_cast e)
theorem Zhe{a b e f c d:Rat}(j:c≠0)(k:d≠0)(l:c*e=d*a)(n:c*f=d*b)(h:a*b<0):e*f<0:=by
 have s:(c*c)*(e*f)=(d*d)*(a*b):=O4;have u:=Fg j;have g:=Fg k;rcases(show e*f<0\/0<=e*f by grind)with q|q
 .exact q
 .have v:=aG (a:=c*c) (b:=e*f) O4 q;have w:=aX (a:=d*d) (b:=-(a*b)) g O4;grind
theorem Yk1{g j e f:Rat}(h:g*(e*e)*(j*(f*f))<0):g*j<0:=by
 rcases(show g*j<0\/0<=g*j by grind)with q|q
 .exact q
 .have l:0<=e*f*(e*f):=by
   by_cases k:e*f=0
   .rw [k];grind
   .exact dE (Fg k)
  have n:=aG q l;grind
theorem Zp1{F n:Nat}(h:Tr p)(k:p≠[])(hs:Sz n p)(R:n<=220)(Q:p.length<=11)(H:p.length<=F+1)(ho:o=Bk F p.length (Xf p))(f:Tr o)(W:o≠[])(D:Zbe F o){a b:Rat}(a0:a<b)(h1:Dk p.length p a=1)(h2:Zi p b<0):vch F o b<vch F o a:=by
 have u:=Dp.start h k;have g:=(u.ok h k hs R Q H).2;have j:Da F p:=by unfold Da at g ⊢;rwa [u.2.2.1]at g
 obtain⟨⟨B,w⟩,G⟩:=Fy h k hs R Q H p.length (Xf p) u (by rw [Pq h];exact aH _);rw [<-ho]at w G;rw [Ch u.2.2.1]at G;obtain⟨-,V⟩:=Zvv h k hs R Q H f W D.1.2.2.1 j G;obtain⟨δ,d1,d2⟩:=Zai p.length p a (aH _);obtain⟨s,s1,s2,s3⟩:∃s,a<s/\s<=a+δ/\s<b:=by
  rcases(show a+δ<b\/b<=a+δ by grind)with q|q
  .exact⟨a+δ,O4,O4,q⟩
  .exact⟨(a+b)/2,O4,O4,O4⟩
 have S:0<Zi p s:=by
  have:=d2 s s1 s2;rw [h1]at this;rcases Ph (Zi p s)with⟨v,l⟩|⟨v,l⟩|⟨v,l⟩
  .exact v
  .rw [l]at this;exact absurd this O3
  .rw [l]at this;exact absurd this O3
 have k1:Zi p s*Zi p b<0:=by have:=aX (a:=Zi p s) (b:=-Zi p b) S O4;grind
 obtain⟨c,d,hc,hd,e⟩:=Zgw ((Hm (Yg p)).trans (Qk h):Sim (Xf p) p);have Z:Zi (Xf p) s*Zi (Xf p) b<0:=Zhe (Ok hc) (Ok hd) (e s) (e b) k1;rw [w s,w b]at Z;have k3:=Yk1 Z;obtain⟨c',d',I,P,Y⟩:=Zgw ((Hm (Yg o)).trans (Qk f):Sim (Xf o) o);have k4:Zi (Xf o) s*Zi (Xf o) b<0:=Zhe (Ok I) (Ok P) (Y s) (Y b) k3;rw [<-V]at k4;have m1:=Zlt f W D (dE s1);rcases gK (vch F o b) (vch F o s)with q|q
 .exact Int.lt_of_lt_of_le q m1
 .exfalso;have hz:Zi (sqf F o) s≠0:=λe9=>by rw [e9]at k4;grind
  have:=Zeu f W D (dE s3) q hz b (dE s3) O4;grind
theorem Zih:∀(n:Nat) (p:List Int) (x:Rat),Tr p->p≠[]->p.length<=n->Dk n p x≠0
 | 0,p,x,_,j,w=>absurd (aC O) j
 | n+1,p,x,s,j,w=>by
  unfold Dk;by_cases h:Zi p x≠0
  .rw [aM h];rcases Ph (Zi p x)with⟨k,g⟩|⟨k,g⟩|⟨k,g⟩
   .rw [g];decide
   .rw [g];decide
   .exact absurd k h
  .rw [aJ h];have u:Zi p x=0:=eZ.1 h;have f:=Oe p;refine Zih n (Xg p) x (Np s) (λe=>?_) O;rw [e]at f;have B:=aI.2 j;have l:p.length=1:=by simp at f;omega
   match p,l with
   | [c],_=>
    have v:c≠0:=s.mem O5;rw [Of]at u;exact Ok v u
theorem Zty(n:Nat)(p:List Int)(x:Rat):-1<=Dk n p x/\Dk n p x<=1:=by
 induction n generalizing p with
 | zero=>show -1<=(0:Int)/\(0:Int)<=1;decide
 | succ n e=>unfold Dk;split;exact Yjg;exact e _
def Za5(F:Nat)(o:List Int)(a b:Rat):Prop:=0<vch F o a-vch F o b-(if Zi o b=0 then 1 else 0)
theorem Yle{F n:Nat}(f:Tr p)(g:p≠[])(hs:Sz n p)(G:n<=220)(D:p.length<=11)(w:p.length<=F+1)(H:o=Bk F p.length (Xf p))(s:Tr o)(W:o≠[])(R:Zbe F o){a b:Rat}(k:a<b) :
  (Zi p a<0\/Zi p b<0\/Dk p.length p a<0\/Za5 F o a b)↔(Dk p.length p a<0\/Za5 F o a b):=by
 constructor
 .rintro(h|h|h|h)
  .left;rw [Yao p.length p a O4 (aH _),Zpm h];decide
  .have r:=Zty p.length p a;have r0:=Zih p.length p a f g (aH _);rcases(show Dk p.length p a<0\/Dk p.length p a=1 by omega)with j|j
   .exact .inl j
   .right;have Z:=Zp1 f g hs G D w H s W R k j h;have S:=Dp.start f g;obtain⟨⟨B,v⟩,-⟩:=Fy f g hs G D w p.length (Xf p) S (by rw [Pq f];exact aH _);rw [<-H]at v;obtain⟨c,d,Y,V,e⟩:=Zgw ((Hm (Yg p)).trans (Qk f):Sim (Xf p) p);have l:Zi o b≠0:=λI=>by
     have u:(c:Rat)*Zi (Xf p) b=(d:Rat)*Zi p b:=e b;rw [v b,I]at u;have P:=Ok V;have Q:(d:Rat)*Zi p b=0:=by rw [<-u];grind
     rcases Rat.mul_eq_zero.1 Q with q|q
     .exact P q
     .rw [q]at h;grind
    unfold Za5;rw [aJ l];omega
  .exact .inl h
  .exact .inr h
 .rintro(h|h)
  .exact .inr (.inr (.inl h))
  .exact .inr (.inr (.inr h))
theorem Ygo(p:List Int)(x:Rat)(h:Zi p x≠0):∃δ:Rat,0<δ/\∀y,x-δ<=y->y<=x->Eo (Zi p y)=Eo (Zi p x):=by
 obtain⟨L,v,j⟩:=Bw (x-1) x p;obtain⟨δ,g,k,n⟩:=Gi (show(0)<1 by rfl) (show 0<L+1 by grind) (show 0<(if 0<Zi p x then Zi p x else -Zi p x)/2 by grind);refine⟨δ,g,λy s u=>?_⟩;have l:=j y x O4 O4 O5;have b:=aG (a:=L) (b:=δ-(x-y)) O4 O4;rcases Ph (Zi p x)with⟨e,f⟩|⟨e,f⟩|⟨e,f⟩
 .grind [Ybl]
 .grind [Zpm]
 grind
theorem rsg_1(h:Eo x=1):0<x:=by grind [Ph]
theorem Zq9(h:Eo x=-1):x<0:=by
 rcases Ph x with⟨e,f⟩|⟨e,f⟩|⟨e,f⟩
 all_goals omega
def Yhk(p:List Int)(a b:Rat):Prop:=∃x,a<=x/\x<=b/\Zi p x<0
theorem Ymz  {F:Nat} (hx:Tr xs) (h0:xs≠[]) (hC:Zbe F xs) {a b σ:Rat} (hσ:σ≠0) (a0:a<b)
  (f:∀x,a<=x->x<b->∃δ:Rat,0<δ/\∀y,x<y->y<=x+δ->y<=b->0<σ*Zi (sqf F xs) y) :
  vch F xs a-vch F xs b<=(if Zi (sqf F xs) b=0 then 1 else 0):=by
 obtain⟨h,h1,R⟩:=Zoa hx h0 hC a b;have V:∀x,a<=x->x<b->0<=σ*Zi (sqf F xs) x:=λx ha hb=>by
  rcases(show 0<=σ*Zi (sqf F xs) x\/σ*Zi (sqf F xs) x<0 by grind)with q|q
  .omega
  .exfalso;have Y:Zi (sqf F xs) x≠0:=λe=>O11;obtain⟨δ,d1,D⟩:=f x ha hb;obtain⟨ε,e1,Q⟩:=Zp2 (sqf F xs) x Y;obtain⟨y,I,y2,y3,y4⟩:∃y,x<y/\y<=x+δ/\y<=x+ε/\y<=b:=by
    rcases(show δ<=ε\/ε<=δ by grind)with w|w
    all_goals grind
   have Z:=D y I y2 y4;have j:=Q y I y3;rcases Ph (Zi (sqf F xs) x)with⟨G,g⟩|⟨G,g⟩|⟨G,g⟩
   .rw [g]at j;have H:=rsg_1 j;rcases(show σ<0\/0<σ by grind)with s|s
    .have:=aX (a:=-σ) (b:=Zi (sqf F xs) y) O4 H;grind
    grind [Rat.mul_pos]
   .rw [g]at j;have H:=Zq9 j;rcases(show σ<0\/0<σ by grind)with s|s
    .have:=aX (a:=-σ) (b:=-Zi (sqf F xs) x) O4 O4;grind
    .have:=aX (a:=σ) (b:=-Zi (sqf F xs) y) s O4;grind
   grind
 have a3:0<=σ*Zi (sqf F xs) b:=by
  rcases(show 0<=σ*Zi (sqf F xs) b\/σ*Zi (sqf F xs) b<0 by grind)with q|q
  .omega
  .exfalso;have Y:Zi (sqf F xs) b≠0:=λe=>O11;obtain⟨ε,e1,Q⟩:=Ygo (sqf F xs) b Y;obtain⟨y,I,y2,y3⟩:∃y,a<=y/\y<b/\b-ε<=y:=by grind
   obtain⟨δ,d1,D⟩:=f y I y2;obtain⟨z,z1,z2,l⟩:∃z,y<z/\z<=y+δ/\z<=b:=by grind
   have Z:=D z z1 z2 l;have j:=Q z O4 l;rcases Ph (Zi (sqf F xs) b)with⟨G,g⟩|⟨G,g⟩|⟨G,g⟩
   .rw [g]at j;have H:=rsg_1 j;rcases(show σ<0\/0<σ by grind)with s|s
    .have:=aX (a:=-σ) (b:=Zi (sqf F xs) z) O4 H;grind
    grind [Rat.mul_pos]
   .rw [g]at j;have H:=Zq9 j;rcases(show σ<0\/0<σ by grind)with s|s
    .have:=aX (a:=-σ) (b:=-Zi (sqf F xs) b) O4 O4;grind
    .have:=aX (a:=σ) (b:=-Zi (sqf F xs) z) s O4;grind
   grind
 have k:∀u v,a<=u->u<=v->v<=b->v-u<=h/2->vch F xs u-vch F xs v<=(if v=b/\Zi (sqf F xs) b=0 then 1 else 0):=λu v B c2 P c4=>by
  have e:=R u v B c2 P O4;have e':vch F xs u-vch F xs v=crs (Zi (sqf F xs)) u v:=e;rw [e'];unfold crs;by_cases S:Zi (sqf F xs) u≠0/\Zi (sqf F xs) u*Zi (sqf F xs) v<=0
  .rw [aM S];have W:u<b:=by
    rcases(show u<b\/u=b by grind)with q|q
    .omega
    .exfalso;have:v=u:=O4;subst this;have:=Fg S.1;grind
   have g1:=V u B W;have g2:0<=σ*Zi (sqf F xs) v:=by grind
   have a4:Zi (sqf F xs) v=0:=by
    rcases(show Zi (sqf F xs) v=0\/Zi (sqf F xs) v≠0 by grind)with q|q
    .omega
    .exfalso;have m1:=aG g1 g2;have m2:=Fg hσ;have m3:(σ*σ)*(Zi (sqf F xs) u*Zi (sqf F xs) v)>=0:=O4;rcases(show Zi (sqf F xs) u*Zi (sqf F xs) v<0\/Zi (sqf F xs) u*Zi (sqf F xs) v=0 by grind)with w|w
     .have:=aX m2 (show 0 < -(Zi (sqf F xs) u*Zi (sqf F xs) v) by grind);grind
     grind
   rcases(show v<b\/v=b by grind)with q|q
   .exfalso;obtain⟨δ,d1,D⟩:=f v O4 q;obtain⟨z,z1,z2,l,z4⟩:∃z,v<z/\z<=v+δ/\z<=b/\z-v<=h/2:=by
     rcases(show δ<=h/2\/h/2<=δ by grind)with w|w
     .rcases(show v+δ<=b\/b<=v+δ by grind)with t|t
      all_goals grind
     .rcases(show v+h/2<=b\/b<=v+h/2 by grind)with t|t
      all_goals grind
    have Z:=D z z1 z2 l;have a1:=R u z B O4 l O4;have a2:=R v z O4 O4 l O4;have r1:crs (Zi (sqf F xs)) u z=0:=by
     unfold crs;rw [aJ];rintro⟨w1,w2⟩;have g3:0<σ*Zi (sqf F xs) u:=by grind
     have m1:=aX g3 Z;have m2:=Fg hσ;have m3:0<(σ*σ)*(Zi (sqf F xs) u*Zi (sqf F xs) z):=O4;have m4:=aG (a:=σ*σ) (b:=-(Zi (sqf F xs) u*Zi (sqf F xs) z)) O4 O4;grind
    have r2:crs (Zi (sqf F xs)) v z=0:=by unfold crs;all_goals grind
    have r3:crs (Zi (sqf F xs)) u v=1:=by unfold crs;grind
    omega
   grind
  .rw [aJ S]
   all_goals omega
 have a5:∀n:Nat,∀u,a<=u->u<=b->b-u<=(n:Rat)*(h/2)->vch F xs u-vch F xs b<=(if Zi (sqf F xs) b=0 then 1 else 0):=λn=>by
  induction n with
  | zero=>
   grind
  | succ n ih=>
   intro u B c2 P;push_cast at P;by_cases hy:b-u<=h/2
   .grind
   .have i1:=ih (u+h/2) O4 O4 O4;have i2:=k u (u+h/2) B O4 O4 O4;rw [aJ (λe=>O4)]at i2;omega
 obtain⟨n,hn⟩:=Zig (b-a) (show 0<h/2 by grind);grind
structure Odp (F n:Nat) (p o:List Int):Prop where
 tr:Tr p
 ne:p≠[]
 sz:Sz n p
 hn:n<=220
 hl:p.length<=11
 hF:p.length<=F+1
 eq:o=Bk F p.length (Xf p)
 otr:Tr o
 one:o≠[]
 ok:Zbe F o
theorem Odp.sq{F n:Nat}(h:Odp F n p o):∃(c d:Int) (B:List Int),c≠0/\d≠0/\∀x:Rat,(d:Rat)*Zi p x=(c:Rat)*(Zi o x*(Zi B x*Zi B x)):=by have g:=Dp.start h.tr h.ne;obtain⟨⟨B,f⟩,-⟩:=Fy h.tr h.ne h.sz h.hn h.hl h.hF p.length _ g (by rw [Pq h.tr];omega);rw [<-h.eq]at f;obtain⟨c,d,j,k,e⟩:=Zgw ((Hm _).trans (Qk h.tr));exact⟨c,d,B,j,k,λx=>by rw [<-f x];exact(e x).symm⟩
theorem Odp.sqf{F n:Nat}(h:Odp F n p o):Go.Sky.sqf F o=Xf o:=by
 have g:=Dp.start h.tr h.ne;have e:=(g.ok h.tr h.ne h.sz h.hn h.hl h.hF).2;have f:Da F p:=by unfold Da at e ⊢;rwa [g.2.2.1]at e
 obtain⟨-,j⟩:=Fy h.tr h.ne h.sz h.hn h.hl h.hF p.length _ g (by rw [Pq h.tr];omega);rw [<-h.eq]at j;rw [Ch g.2.2.1]at j;exact(Zvv h.tr h.ne h.sz h.hn h.hl h.hF h.otr h.one h.ok.1.2.2.1 f j).2
theorem Odp.srt{F n:Nat}(h:Odp F n p o):∃c d:Int,c≠0/\d≠0/\∀x:Rat,(c:Rat)*Zi (Go.Sky.sqf F o) x=(d:Rat)*Zi o x:=by rw [h.sqf];exact Zgw ((Hm _).trans (Qk h.otr))
theorem Odp.zero{F n:Nat}(h:Odp F n p o)(x:Rat):Zi (Go.Sky.sqf F o) x=0↔Zi o x=0:=by obtain⟨c,d,f,g,e⟩:=h.srt;grind [Rat.mul_eq_zero,Ok]
theorem Odp.nz{F n:Nat}(h:Odp F n p o)(j:Zi p x≠0):Zi o x≠0:=λz=>by obtain⟨c,d,B,f,g,e⟩:=h.sq;grind [Rat.mul_eq_zero,Ok]
theorem Odp.opp{F n:Nat}(h:Odp F n p o){y:Rat}(j:Zi p x*Zi p y<0):Zi o x*Zi o y<0/\Zi (Go.Sky.sqf F o) x*Zi (Go.Sky.sqf F o) y<0:=by obtain⟨c,d,B,s,u,e⟩:=h.sq;have v:=Zhe (Ok s) (Ok u) (e x).symm (e y).symm j;have l:=Yk1 v;obtain⟨w,D,f,g,k⟩:=h.srt;exact⟨l,Zhe (Ok f) (Ok g) (k x) (k y) l⟩
theorem Odp.sem{F n:Nat}(h:Odp F n p o){a b:Rat}(j:a<b):(Dk p.length p a<0\/Za5 F o a b)↔Yhk p a b:=by
 have H:=Yle h.tr h.ne h.sz h.hn h.hl h.hF h.eq h.otr h.one h.ok j;constructor
 .rintro(k|k)
  .obtain⟨δ,I,s⟩:=Zai p.length p a (aH _);have r:=Zty p.length p a;have hm:Dk p.length p a=-1:=O;rcases(show a+δ<=b\/b<=a+δ by grind)with q|q
   .exact⟨a+δ,O4,q,Zq9 O4⟩
   .exact⟨b,O4,O5,Zq9 O4⟩
  .rcases Classical.em (Yhk p a b)with q|q
   .omega
   .exfalso;have a0:∀x,a<=x->x<=b->0<=Zi p x:=λx u v=>by
     rcases(show 0<=Zi p x\/Zi p x<0 by grind)with w|w
     .omega
     .exact absurd ⟨x,u,v,w⟩ q
    have g:∀x,a<=x->x<b->∃δ:Rat,0<δ/\∀y,x<y->y<=x+δ->y<=b->0<Zi p y:=λx u v=>by obtain⟨δ,I,s⟩:=Zai p.length p x (aH _);have r:=Zty p.length p x;have r0:=Zih p.length p x h.tr h.ne (aH _);grind [Ph,r0]
    obtain⟨δ,I,s⟩:=g a O5 j;obtain⟨z,z1,z2,z3⟩:∃z,a<z/\z<=a+δ/\z<=b:=by grind
    have hz:=s z z1 z2 z3;have hσ:Zi (Go.Sky.sqf F o) z≠0:=λe=>h.nz (x:=z) O4 ((h.zero z).1 e);have hf:=Ymz h.otr h.one h.ok (σ:=Zi (Go.Sky.sqf F o) z) hσ j (λx u v=>by
     obtain⟨ε,W,Y⟩:=g x u v;refine⟨ε,W,λy R S V=>?_⟩;have hy:=Y y R S V;have a1:Zi (Go.Sky.sqf F o) y≠0:=λe=>h.nz (x:=y) O4 ((h.zero y).1 e);rcases(show 0<Zi (Go.Sky.sqf F o) z*Zi (Go.Sky.sqf F o) y\/Zi (Go.Sky.sqf F o) z*Zi (Go.Sky.sqf F o) y<0\/Zi (Go.Sky.sqf F o) z*Zi (Go.Sky.sqf F o) y=0 by grind)with w|w|w
     .omega
     .exfalso;obtain⟨c,d,B,Z,hd,e⟩:=h.sq;obtain⟨c',d',D,G,P⟩:=h.srt;have w1:Zi o z*Zi o y<0:=Zhe (Ok G) (Ok D) (P z).symm (P y).symm w;have p1:=aX hz hy;have Q:((d:Rat)*(d:Rat))*(Zi p z*Zi p y)=((c:Rat)*(c:Rat))*((Zi o z*Zi o y)*((Zi B z*Zi B y)*(Zi B z*Zi B y))):=by grind
      have l:=aX (Fg (Ok hd)) p1;have q3:0<=(Zi B z*Zi B y)*(Zi B z*Zi B y):=by grind [Rat.le_of_lt,Fg]
      have q4:=aG (dE (Fg (Ok Z))) (aG (show 0<=-(Zi o z*Zi o y) by grind) q3);grind
     grind)
    unfold Za5 at k;by_cases f:Zi o b=0
    .grind
    .rw [aJ f]at k;rw [aJ (λe=>f ((h.zero b).1 e))]at hf;omega
 .rintro⟨x,x1,x2,x3⟩;rcases(show x=a\/x=b\/(a<x/\x<b) by grind)with q|q|⟨Q,l⟩
  .grind
  .grind
  .have r:=Zty p.length p a;have r0:=Zih p.length p a h.tr h.ne (aH _);rcases(show Dk p.length p a<0\/Dk p.length p a=1 by omega)with k|k
   .omega
   .right;have hv:=Zp1 h.tr h.ne h.sz h.hn h.hl h.hF h.eq h.otr h.one h.ok Q k x3;have m1:=Zlt h.otr h.one h.ok (dE l);unfold Za5;by_cases f:Zi o b=0
    .rw [aM f];have hx:Zi (Go.Sky.sqf F o) x≠0:=λe=>h.nz (x:=x) O4 ((h.zero x).1 e);rcases gK (vch F o b) (vch F o x)with w|w
     .omega
     .exfalso;have:=Zeu h.otr h.one h.ok (dE l) w hx b (dE l) O5;rw [(h.zero b).2 f]at this;grind
    grind
theorem Zwp(g:Rat->Rat){h:Rat}(f:0<h):∀(n:Nat) (u v:Rat),u<v->v-u<=(n:Rat)*h->g u*g v<0->∃x y,u<=x/\x<y/\y<=v/\y-x<=h/\g x≠0/\g x*g y<=0
 | 0,u,v,a,b,_=>O4
 | n+1,u,v,a,b,c=>by
  have j:g u≠0:=λe=>O11;by_cases s:v-u<=h
  .grind
  .rcases(show g u*g (u+h)<=0\/0<g u*g (u+h) by grind)with q|q
   .grind
   .have k:g (u+h)*g v<0:=by
     have l:=Fg j;rcases(show g (u+h)*g v<0\/0<=g (u+h)*g v by grind)with w|w
     .omega
     .have P:=aX q (show 0 < -(g u*g v) by grind);have Q:=aG (dE l) w;grind
    obtain⟨x,y,B,D,F,G,H,I⟩:=Zwp g f n _ v O4 O4 k;grind
theorem Zpx{a b c:Rat}(h:a*b<0)(e:a-b<=c)(f:b-a<=c):-c<=a/\a<=c:=by
 rcases(show 0<a\/a<0\/a=0 by grind)with q|q|q
 .have:b<0:=by
   rcases(show b<0\/0<=b by grind)with w|w
   .omega
   .have:=aG (dE q) w;grind
  grind
 .have:0<b:=by
   rcases(show 0<b\/b<=0 by grind)with w|w
   .omega
   .have:=aG (show 0<=-a by grind) (show 0<=-b by grind);grind
  grind
 grind
theorem Zw9{F:Nat}(hx:Tr xs)(h0:xs≠[])(hC:Zbe F xs)(ho:Tr o)(o0:o≠[])(hE:Ed o (sqf F xs)){u v:Rat}(g:u<v)(hu:Zi (sqf F xs) u≠0)(h:Zi o u*Zi o v<0):vch F xs v<vch F xs u:=by
 rcases gK (vch F xs v) (vch F xs u)with q|q
 .omega
 .exfalso;have hk:=Zeu hx h0 hC (dE g) q hu;obtain⟨k,w,Q,hw⟩:=hE;have H:=Ok Q;have f:∀d,Tr d->Ed d o->Ed d (tzl w)->d.length<=1:=λd hd e1 G=>by
   obtain⟨R,s1,D,r1⟩:=e1;obtain⟨k2,s2,Y,r2⟩:=G;refine Zgv hx h0 hC.1.2.2.1 hd ⟨k*R,lmul w s1,bC Q D,λx=>?_⟩ ⟨k*R*k2,Ms ((lmul (ld w) s1).map λa=>k2*a) ((lmul s2 (ld o)).map λa=>R*a),bC (bC Q D) Y,λx=>?_⟩
   .grind [Yn,r1]
   .rw [Xp,Zx,Zx,Yn,Yn,Ku];have a0:=Cw ((sqf F xs).map λa=>k*a) (lmul w o) (λy=>by grind [Zx,Yn]) x;grind [Zas,Bx,r1,r2,Lu]
  obtain⟨ε,e1,G⟩:=Yea ho (Xx w) o0 f u v;obtain⟨s,l1,l2⟩:=Bw u v o;obtain⟨B,m1,m2⟩:=Bw u v w;obtain⟨j,Z,-,d3⟩:=Gi (show(0:Rat)<1 by rfl) (show 0<s+B by grind) (show 0<ε/2 by grind);obtain⟨n,hn⟩:=Zig (v-u) Z;obtain⟨x,y,l,x2,V,x4,x5,x6⟩:=Zwp (Zi o) Z n u v g hn h;have sx:=hk x l O4;have sy:=hk y O4 V;have ox:=hw x;have oy:=hw y;have a3:Zi o y≠0:=λe=>by grind [Rat.mul_eq_zero]
  have I:Zi o x*Zi o y<0:=by grind [Rat.mul_eq_zero]
  have S:0<Zi (sqf F xs) x*Zi (sqf F xs) y:=by
   have a1:=aX sx sy;have W:=Fg hu;rcases(show 0<Zi (sqf F xs) x*Zi (sqf F xs) y\/Zi (sqf F xs) x*Zi (sqf F xs) y<=0 by grind)with t|t
   .omega
   .have:=aG (dE W) (show 0<=-(Zi (sqf F xs) x*Zi (sqf F xs) y) by grind);grind
  have P:Zi w x*Zi w y<0:=by
   have a1:(k:Rat)*k*(Zi (sqf F xs) x*Zi (sqf F xs) y)=(Zi w x*Zi w y)*(Zi o x*Zi o y):=by grind
   have W:=aX (Fg H) S;rcases(show Zi w x*Zi w y<0\/0<=Zi w x*Zi w y by grind)with t|t
   .omega
   .have:=aG t (show 0<=-(Zi o x*Zi o y) by grind);grind
  have D:=l2 x y l O4 V;have Y:=m2 x y l O4 V;have n1:=aG (a:=s) (b:=j-(y-x)) O4 O4;have n2:=aG (a:=B) (b:=j-(y-x)) O4 O4;have n3:=aG (a:=s) (b:=j) O4 O4;have n4:=aG (a:=B) (b:=j) O4 O4;obtain⟨b1,b2⟩:=Zpx (c:=ε/2) I O4 O4;obtain⟨b3,b4⟩:=Zpx (c:=ε/2) P O4 O4;rcases G x l O4 with t|t
  .unfold Big at t;grind
  .unfold Big at t;grind [Lu]
theorem Zpp{F:Nat}(j:Tr xs)(f:xs≠[])(g:Zbe F xs){u v:Rat}(e:u<v)(h:Zi (sqf F xs) u≠0)(k:Zi (sqf F xs) v=0):vch F xs v<vch F xs u:=by
 rcases gK _ _ with q|q
 .omega
 .have:=Zeu j f g (dE e) q h v (dE e) O5;simp_all
theorem Odp.ed{F n:Nat}(h:Odp F n p o):Ed o (Go.Sky.sqf F p):=by have e:=Dp.start h.tr h.ne;obtain⟨-,f⟩:=Fy h.tr h.ne h.sz h.hn h.hl h.hF p.length _ e (by rw [Pq h.tr];omega);rw [<-h.eq]at f;rwa [Ch e.2.2.1]at f
theorem Yil{F:Nat}(k:Tr xs)(f:xs≠[])(j:Zbe F xs)(x:Rat):Zi xs x=0↔Zi (sqf F xs) x=0:=by
 constructor
 .intro h;have l:(x.den:Int)≠0:=by exact_mod_cast x.den_nz
  have e:((x.num))/((x.den:Int))=x:=by grind [Rat.divInt_eq_div,Rat.num_divInt_den]
  have:=Yin k f j.1.2.2.1 l (r:=x.num) O4;grind
 .obtain⟨g,n⟩:=Yqz k f j.1.2.2.1;grind
theorem Yrr {F n:Nat}  (h:Odp F n p o) (f:Zbe F p) {K:Nat} {e:Nat} (l:∀u v:Rat,-(K:Rat)<=u->u<=v->v<=(K:Rat)->v-u<=1/((2^e:Nat):Rat)->vch F p u-vch F p v<=1)
  {s t:Rat} (h1:-(K:Rat)+1<=s) (Q:t<=(K:Rat)) (hs:0<=Zi p s) (ht:0<=Zi p t) (V:Yhk p s t):1/((2^(e+1):Nat):Rat)<t-s:=by
 obtain⟨x,x1,x2,x3⟩:=V;have B:s<x:=O4;have D:x<t:=O4;obtain⟨f1,f2,f3,f4,f5,f6⟩:=Ov F h.tr h.ne f.1.2.2.1;have j:Zi (Go.Sky.sqf F p) x≠0:=λz=>by have:=(Yil h.tr h.ne f x).2 z;grind
 rcases(show 1/((2^(e+1):Nat):Rat)<t-s\/t-s<=1/((2^(e+1):Nat):Rat) by grind)with q|q
 .omega
 .exfalso;have W:=two_pow_pos e;have Y:=two_pow_pos (e+1);have I:((2^(e+1):Nat):Rat)=2*((2^e:Nat):Rat):=O4;have hi:0<((2^e:Nat):Rat)⁻¹:=fD.2 W;have R:1/((2^(e+1):Nat):Rat)=((2^e:Nat):Rat)⁻¹/2:=by rw [I];grind
  have P:1/((2^e:Nat):Rat)=((2^e:Nat):Rat)⁻¹:=O4;have S:((2^e:Nat):Rat)⁻¹<=1:=by
   have g1:(1:Rat)<=((2^e:Nat):Rat):=by have:1<=2^e:=dL e;exact_mod_cast this
   have g2:=aG (a:=((2^e:Nat):Rat)-1) (b:=((2^e:Nat):Rat)⁻¹) O4 O4;grind [Rat.mul_inv_cancel]
  obtain⟨u,u1,u2,u3⟩:∃u,s-((2^e:Nat):Rat)⁻¹/2<=u/\u<=s/\vch F p x<vch F p u:=by
   by_cases z:Zi (Go.Sky.sqf F p) s=0
   .obtain⟨δ,d1,H⟩:=Zai (Go.Sky.sqf F p).length (Go.Sky.sqf F p) (s-((2^e:Nat):Rat)⁻¹/2) (aH _);have G:=Zih (Go.Sky.sqf F p).length (Go.Sky.sqf F p) (s-((2^e:Nat):Rat)⁻¹/2) f2 f3 (aH _);obtain⟨u,w1,w2,w3⟩:∃u,s-((2^e:Nat):Rat)⁻¹/2<u/\u<=s-((2^e:Nat):Rat)⁻¹/2+δ/\u<s:=by
     rcases(show s-((2^e:Nat):Rat)⁻¹/2+δ<s\/s<=s-((2^e:Nat):Rat)⁻¹/2+δ by grind)with w|w
     .grind
     .exact⟨s-((2^e:Nat):Rat)⁻¹/4,O4,O4,O4⟩
    have Z:Zi (Go.Sky.sqf F p) u≠0:=λc=>by have:=H u w1 w2;rw [c]at this;exact G this.symm
    have m1:=Zpp h.tr h.ne f w3 Z z;have m2:=Zlt h.tr h.ne f (dE B);grind
   .have g:0<Zi p s:=by have:Zi p s≠0:=λc=>z ((Yil h.tr h.ne f s).1 c);grind
    have k:=h.opp (x:=s) (y:=x) (by have:=aX g (show 0 < -Zi p x by grind);grind);exact⟨s,O4,O5,Zw9 h.tr h.ne f h.otr h.one h.ed B z k.1⟩
  have u4:vch F p t<vch F p x:=by
   by_cases z:Zi (Go.Sky.sqf F p) t=0
   .exact Zpp h.tr h.ne f D j z
   .have g:0<Zi p t:=by have:Zi p t≠0:=λc=>z ((Yil h.tr h.ne f t).1 c);grind
    have k:=h.opp (x:=x) (y:=t) (by have:=aX g (show 0 < -Zi p x by grind);grind);exact Zw9 h.tr h.ne f h.otr h.one h.ed D j k.1
  have:=l u t O4 O4 Q O4;omega
def Zc8(xs:List Int)(m:Nat):Prop:=xs.length=0\/(xs.length+2)*(xs.length+2)*(Xw xs+m+2*(xs.length-1)+32)<=65536
instance (xs:List Int) (m:Nat):Decidable (Zc8 xs m):=by unfold Zc8;infer_instance
def sgf_t{m:Nat}(h:xs.length=0):Value.bool (decide (Zc8 xs m))= .bool true:=aD _ (aF (.inl h))
theorem sgf_i{m:Nat}{n:Int}(h:xs.length≠0)(e:n=(((xs.length+2)*(xs.length+2)*(Xw xs+m+2*(xs.length-1)+32):Nat):Int)):Value.bool (decide (Zc8 xs m))= .bool (decide (n<=65536)):=aD _ (bM.2 (by show(xs.length=0\/_<=65536)↔_;omega))
def efit(z:R2):Bool:=decide (max (bl z.1.natAbs) (bl z.2.natAbs)<=512)
def Zki:List Int->Int
 | []=>0
 | x::r=>if x=0 then Zki r else x
theorem Zwy{s:Int}(h:s≠0):∀{L:List Int} {i:Nat},i<L.length->(∀k,k<i->L.getD k 0=0)->L.getD i 0=s->Zki L=s
 | [],i,hi,_,_=>absurd hi O5
 | x::r,0,_,_,hs=>by have e:x=s:=hs;unfold Zki;omega
 | x::r,i+1,hi,hz,hs=>by have e:x=0:=hz 0 O5;unfold Zki;rw [aM e];exact Zwy h O4 (λk f=>hz (k+1) O) hs
theorem Zp8:∀{L:List Int},(∀k,k<L.length->L.getD k 0=0)->Zki L=0
 | [],_=>rfl
 | x::r,hz=>by have e:x=0:=hz 0 O5;unfold Zki;rw [aM e];exact Zp8 λk f=>hz (k+1) (by simpa using f)
def aft(e:List (List Int))(m:R2):Int:=Zki (e.map (Bh m.1 m.2))
def vlu(e:List (List Int))(m:R2):Int:=if e.length=0 then 0 else Bh m.1 m.2 (e.getD 0 [])
def chv(e:List (List Int))(m:R2):Int:=chg (e.map (Bh m.1 m.2))
def crb(e:List (List Int))(a b:R2):Bool:=if e.length=0 then false else decide (0<chv e a-chv e b-if Bh b.1 b.2 (e.getD 0 [])=0 then 1 else 0)
def cmp(a b:R2):Int:=(a.1*b.2-b.1*a.2).sign
def ngb(ds cs:List (List Int))(a b:R2):Bool:=if cmp a b=0 then decide (vlu ds a<0)else(decide (aft ds a<0) || crb cs a b)
theorem Ye6(ls:List (SL×List Int))(x y:Int):aft (ls.map Prod.snd) (x,y)=Zki (sgx ls (Bh x y)):=by unfold aft;grind [Ya7]
theorem Yto(ls:List (SL×List Int))(x y:Int):chv (ls.map Prod.snd) (x,y)=chg (sgx ls (Bh x y)):=by unfold chv;grind [Ya7]
theorem Zis(h:i<ls.length):(ls.map Prod.snd).getD i []=(ls.getD i Z0).2:=by grind
theorem Yel(e:List (List Int))(m:R2):0<=chv e m/\chv e m<=(e.length:Int):=by have:=Zb1 (e.map (Bh m.1 m.2));rw [aT]at this;exact this
theorem Zu0(h:Eo x=0):x=0:=by
 rcases Ph x with⟨e,f⟩|⟨e,f⟩|⟨e,f⟩
 all_goals omega
theorem sgm_i{x l:Int}(f:-1<=x/\x<=1)(e:-1<=l/\l<=1):Mw (x*l):=by
 rcases(show x=-1\/x=0\/x=1 by omega)with h|h|h<;>subst h
 .exact⟨O,O⟩
 .exact⟨O5,O5⟩
 .exact⟨O,O⟩
theorem Ya9{x l:Int}(f:-1<=x/\x<=1)(e:-1<=l/\l<=1)(h:x*l<0):x=-l:=by rcases(show x=-1\/x=0\/x=1 by omega)with h|h|h<;>subst h<;>omega
theorem Ya8{x l:Int}(g:-1<=x/\x<=1)(f:-1<=l/\l<=1)(h:¬x*l<0)(e:x≠0):¬x=-l:=by rcases(show x=-1\/x=0\/x=1 by omega)with h|h|h<;>subst h<;>omega
def Yba{x l:Int}(h:x=0):¬x*l<0:=O4
theorem crb_t{x e f:Int}(h:cs.length≠0)(g:Bh e f (cs.getD 0 Z0).2=0):Value.bool (crb (cs.map Prod.snd) (x,y) (e,f))= .bool (decide (0<chv (cs.map Prod.snd) (x,y)-chv (cs.map Prod.snd) (e,f)-1)):=by unfold crb;rw [aT,aJ h,Zis O,aM g]
theorem crb_f{x e f:Int}(h:cs.length≠0)(g:¬Bh e f (cs.getD 0 Z0).2=0):Value.bool (crb (cs.map Prod.snd) (x,y) (e,f))= .bool (decide (0<chv (cs.map Prod.snd) (x,y)-chv (cs.map Prod.snd) (e,f))):=by unfold crb;rw [aT,aJ h,Zis O,aJ g,fC]
theorem ngb_t{cs:List (List Int)}(h:¬cmp a b=0)(e:aft ds a<0):Value.bool (ngb ds cs a b)= .bool true:=by unfold ngb;grind
theorem ngb_f{cs:List (List Int)}(h:¬cmp a b=0)(e:¬aft ds a<0):Value.bool (ngb ds cs a b)= .bool (crb cs a b):=by unfold ngb;grind
def Zgd:Nat->List Int->List (List Int)
 | 0,_=>[]
 | n+1,p=>if p.length=0 then []else p::Zgd n (Xg p)
theorem Zxd{m:R2}(h:0<m.2):∀(n:Nat) (p:List Int),p.length<=n->aft (Zgd n p) m=Dk n p (qv m)
 | 0,p,l=>rfl
 | n+1,p,l=>by
  unfold Zgd;by_cases g:p.length=0
  .have:=aC g;subst this;have f:∀n,Dk n [] (qv m)=0:=λn=>by
    induction n with
    | zero=>rfl
    | succ n j=>assumption
   rw [f];rfl
  .rw [aJ g];have s:=Oe p;have j:=Zxd h n (Xg p) O;unfold aft at j ⊢;rw [bH];unfold Zki Dk;have k:Bh m.1 m.2 p=Eo (Zi p (qv m)):=Zey h p;rw [k];by_cases f:Zi p (qv m)=0
   .simp_all [aM,Zu1,aJ]
   .rw [aJ (λe=>f (Zu0 e)),aM f]
structure Cvd (xs:List Int):Prop where
 v:Vp xs
 s:Sz 205 xs
 l:xs.length<=11
theorem Zh2(h:Cvd xs)(e:xs≠[])(f:Dp xs r):Sz 220 r/\r.length<=11:=by obtain⟨g,j⟩:=f.sz h.v.tr e h.s (by have:=h.l;omega);exact⟨g,by have:=h.l;omega⟩
theorem Zej(h:Cvd xs)(j:xs≠[])(e:Dp xs r) :
  Vp r/\r≠[]/\(∀i,bl (cf r (i+1)*((i:Int)+1)).natAbs<=65536)/\Vp (Xg r)/\¬Zp7 r (Xg r)/\eok 13 (gA r (Xg r)) (gB r (Xg r))/\Nm 13 r (Xg r)=Om 13 r/\Vp (Om 13 r)/\
  Ai r (Om 13 r)=0/\pdv r (Om 13 r)/\Lq r (Om 13 r)=sqf 13 r/\Vp (sqf 13 r)/\Sz 235 (sqf 13 r)/\(sqf 13 r).length<=11/\Dp xs (Om 13 r)/\sqf 13 r≠[]/\((sqf 13 r).length≠1->(Om 13 r).length<r.length)/\Da 13 r:=by
 obtain⟨D,S⟩:=Zh2 h j e;have s:Vp r:=⟨D.mono O5,e.1,O⟩;have f:=e.ok h.v.tr j h.s O5 (by have:=h.l;omega) (show xs.length<=13+1 by have:=h.l;omega);obtain⟨⟨R,G,H,w,B⟩,-,-⟩:=f.1;have P:=e.2.2.1;have l:=(chG 13 e.1 e.2.1 D O5 O O).2.1;have I:=(chG 13 e.1 e.2.1 D O5 O O).2.2.1;have v:=Zlq s e.2.1 f.1.1;have F:Om 13 r=Nm 13 r (Xg r):=by unfold Om;grind
 have k:=e.next f.2;have u:Vp (Om 13 r):=by obtain⟨t1,t2⟩:=Zh2 h j k;exact⟨t1.mono O5,k.1,O⟩
 have n:sqf 13 r=Lq r (Om 13 r):=by unfold sqf Om;grind
 obtain⟨f1,f2,f3,f4,f5,f6⟩:=Ov 13 e.1 e.2.1 f.2;have g:∀i,bl (cf r (i+1)*((i:Int)+1)).natAbs<=65536:=λi=>by
  by_cases hi:i<r.length
  .grind
  .rw [Yr O];simp [Kv]
 rw [P]at G H w B;rw [<-F]at w B;refine⟨s,e.2.1,g,Zgm s (λi _=>g i),G,H,F.symm,u,w,B,n.symm,v,l,O,k,f3,λQ=>?_,f.2⟩;refine Zns e.1 e.2.1 f.2 ?_;grind [Pj,List.length_pos_iff]
def Ih(xs:List Int):List Int:=Zr0 13 xs.length [1] (Xf xs)
structure OddI (xs:List Int) (t:Nat) (rest out before:List Int):Prop where
 ex:∃f q,Dp xs q/\q.length<=f/\Zr0 13 f out q=Ih xs/\Tr out/\Op xs out q/\((t%2=1/\rest=q)\/(t%2=0/\rest=Om 13 q/\before=sqf 13 q/\(sqf 13 q).length≠1))
theorem OddI.start{b:List Int}(h:Cvd xs)(e:xs≠[]):OddI xs 1 (Xf xs) [1] b:=
 ⟨xs.length,Xf xs,Dp.start h.v.tr e,by rw [Pq h.v.tr];omega,rfl,.inr O3,Op.start h.v.tr,.inl ⟨rfl,rfl⟩⟩
theorem OddI.dp{e:List Int}(h:Cvd xs)(j:xs≠[])(g:OddI xs t rest e before):Dp xs rest:=by
 obtain⟨f,q,k,l,n,s,u,v|⟨-,rfl,-⟩⟩:=g.ex
 all_goals simp_all [Zej]
theorem OddI.out{e:List Int}(h:Cvd xs)(k:xs≠[])(s:OddI xs t rest e before):Vp e/\Sz 220 e/\e.length<=11:=by obtain⟨f,q,l,u,v,g,n,-⟩:=s.ex;obtain⟨j,w,B⟩:=n.sz h.v.tr k h.s (by have:=h.l;omega) g l.1;have:=h.l;exact⟨⟨j.mono O5,g,O⟩,j,O⟩
theorem OddI.odd_end{e:List Int}(h:Cvd xs)(k:xs≠[])(j:OddI xs t rest e before)(B:t%2=1)(w:(sqf 13 rest).length=1):e=Ih xs:=by
 obtain⟨f,q,l,n,g,s,u,⟨-,rfl⟩|⟨v,-⟩⟩:=j.ex
 .cases f with
  | zero=>assumption
  | succ f=>unfold Zr0 at g;grind
 omega
theorem OddI.odd_next{e:List Int}(n:OddI xs t rest e before)(v:t%2=1)(s:(sqf 13 rest).length≠1):OddI xs (t+1) (Om 13 rest) e (sqf 13 rest):=by
 obtain⟨f,q,g,h,j,k,l,⟨-,rfl⟩|⟨u,-⟩⟩:=n.ex
 .exact⟨f,rest,g,h,j,k,l,.inr ⟨O,rfl,rfl,s⟩⟩
 omega
theorem OddI.even{g:List Int}(h:Cvd xs)(s:xs≠[])(hI:OddI xs t rest g before)(ht:t%2=0) :
  Vp before/\Ai before (sqf 13 rest)=0/\pdv before (sqf 13 rest)/\Vp (Lq before (sqf 13 rest))/\¬Zav g (Lq before (sqf 13 rest))/\
  ((sqf 13 rest).length=1->Qz g (Lq before (sqf 13 rest))=Ih xs)/\((sqf 13 rest).length≠1->OddI xs (t+1) (Om 13 rest) (Qz g (Lq before (sqf 13 rest))) (sqf 13 rest))/\Vp (Qz g (Lq before (sqf 13 rest))):=by
 obtain⟨f,q,j,h2,v,h4,W,⟨h7,-⟩|⟨-,rfl,rfl,Y⟩⟩:=hI.ex
 .omega
 obtain⟨a1,a2,a3,a4,a5,a6,a7,a8,a9,Z,a0,B,D,b0,F,c0,G,k⟩:=Zej h s j;obtain⟨b1,b2,b3,b4,b5,b6,b7,b8,b9,c5,c6,c7,H,c8,l,I,P,n⟩:=Zej h s F;obtain⟨c1,c2,V,c4⟩:=Cz j.1 j.2.1 k n;have Q:=W.next j.1 j.2.1 j.2.2.1 k n;have ho:=h.l;obtain⟨s1,s2,s3⟩:=Q.sz h.v.tr s h.s O (Qh _ _) l.1;obtain⟨o1,o2,o3⟩:=W.sz h.v.tr s h.s O h4 j.1;have c9:(Bq 13 q).length<=11:=by have e:=aD List.length c2;grind [Ox,List.length_pos_iff]
 have u:Sz 450 (Bq 13 q):=by obtain⟨a,ha,e⟩:=Q;have e2:Xf xs=Qz (Qz (Qz a (Om 13 (Om 13 q))) g) (Bq 13 q):=e.trans ((Qh _ _).ext (Qh _ _) λi=>Nq (λx=>by grind [Xa]) i);exact(Zzr h.v.tr s h.s O (Qh _ _) V e2).1.mono O5
 have hd:Ai (sqf 13 q) (sqf 13 (Om 13 q))=0:=by
  have m1:=Qv D;have m2:=Qv H;have l1:=aI.2 I;unfold Ai;rw [aJ O];split
  .rfl
  .have:((sqf 13 q).length-(sqf 13 (Om 13 q)).length+1)*(Xw (sqf 13 (Om 13 q))+1)<=12*240:=aO O O;omega
 have S:Vp (Bq 13 q):=⟨u.mono O5,V,O⟩;have hm:¬Zav g (Bq 13 q):=λhF=>by have m1:=Qv o1;have m2:=Qv u;rcases hF.2.2 with w|w<;>omega
 refine⟨B,hd,c1,S,hm,λR=>?_,λR=>?_,⟨s1.mono O5,Qh _ _,aB s2 O⟩⟩
 .cases f with
  | zero=>omega
  | succ f=>unfold Zr0 at v;grind
 .cases f with
  | zero=>omega
  | succ f=>
   unfold Zr0 at v;rw [aJ Y,aJ R]at v;have l1:=G Y;have l2:=P R;exact⟨f,Om 13 (Om 13 q),l,O,v,Qh _ _,Q,.inl ⟨O,rfl⟩⟩
theorem Yga(h:Cvd xs)(f:xs≠[]):Ih xs=Bk 13 xs.length (Xf xs):=by have e:=Dp.start h.v.tr f;have j:=h.l;have g:=(e.ok h.v.tr f h.s O5 O (show xs.length<=13+1 by omega)).2;unfold Ih;rw [Yci h.v.tr f h.s O5 O O _ [1] _ (.inr (show cf [1] 0≠0 by decide)) e (by rw [Pq h.v.tr];omega),Ycb (Zk0 xs e.1 e.2.1 g)]
theorem Zcl(h:Cvd xs)(f:xs≠[]):Odp 13 205 xs (Ih xs)/\Vp (Ih xs)/\Sz 220 (Ih xs)/\(Ih xs).length<=xs.length/\Zda (Ih xs):=by
 have g:=Dp.start h.v.tr f;have G:=h.l;have l:=(g.ok h.v.tr f h.s O5 O (show xs.length<=13+1 by omega)).2;have n:=Yga h f;have j:Tr (Ih xs):=by rw [n];exact Zk0 xs g.1 g.2.1 l
 obtain⟨⟨B,F⟩,-⟩:=Fy h.v.tr f h.s O5 O (show xs.length<=13+1 by omega) xs.length (Xf xs) g (by rw [Pq h.v.tr];omega);have e:Xf xs=Qz (Qz B B) (Ih xs):=g.1.ext (Qh _ _) λi=>Nq (λx=>by grind [Xa]) i;obtain⟨k,w,s⟩:=Zzr h.v.tr f h.s O (Qh _ _) j e;have v:=(chG 13 j s k O5 O O).1;refine⟨⟨h.v.tr,f,h.s,O5,O,O,n,j,s,v⟩,⟨k.mono O5,j,O⟩,k,w,.inr ?_⟩;have H:=Qv k;have u:((Ih xs).length+2)*((Ih xs).length+2)<=13*13:=aO O O;have D:((Ih xs).length+2)*((Ih xs).length+2)*(Xw (Ih xs)+16)<=13*13*236:=aO u O;omega
def Ak(xs:List Int):List (List Int):=if xs.length=0 then []else chn 13 (Ih xs)
def Pn(xs:List Int):List (List Int):=Zgd xs.length xs
theorem Zxc:∀(n k:Nat) (p:List Int),Tr p->p.length<=25->Sz k p->∀q∈Zgd n p,Tr q/\q.length<=p.length/\Sz (k+5*n) q
 | 0,_,_,_,_,_,q,e=>absurd e (by simp [Zgd])
 | n+1,k,p,f,h,hs,q,e=>by
  unfold Zgd at e;by_cases g:p.length=0
  .grind
  .rw [aJ g]at e;rcases bD.1 e with rfl|e
   .exact⟨f,aH _,hs.mono O5⟩
   .have j:=Oe p;obtain⟨l,s,u⟩:=Zxc n _ _ (Np f) O (Gz hs h) q e;grind
theorem Cb(h:Cvd xs):∀q∈Pn xs,Vp q/\Xw q<=6150/\q.length<=11:=λq g=>by have k:=h.l;obtain⟨f,j,e⟩:=Zxc _ 205 xs h.v.tr O h.s q g;have:=Qv e;exact⟨⟨e.mono O,f,O⟩,O,O⟩
theorem Zh9(h:Cvd xs):∀q∈Ak xs,Vp q/\Xw q<=6150/\q.length<=11:=λq f=>by
 have F:=h.l;unfold Ak at f;by_cases k:xs.length=0
 .grind
 .rw [aJ k]at f;have j:xs≠[]:=λe=>k O4;obtain⟨g,l,n,v,w⟩:=Zcl h j;obtain⟨s,B,D,u⟩:=chG 13 g.otr g.one n O5 O (show(Ih xs).length<=13+1 by omega);exact⟨Yhs l g.one s q f,(u q f).1,O4⟩
theorem Zlf(xs:List Int):(Ak xs).length<=1000:=by
 unfold Ak;split
 .simp
 .have:=Zbc 13 (sqf 13 (Ih xs)) (Yg (Xg (sqf 13 (Ih xs))));unfold chn;omega
theorem Zun(g:Xw p<=6150)(h:p.length<=11)(a:bl m.1.natAbs<=5300)(b:bl m.2.natAbs<=5300):¬Iy p m.1 m.2:=λf=>by
 have e:=by show max (bl m.1.natAbs) (max (bl m.2.natAbs) 0)<=5300;omega
 have j:(p.length-1)*Xw [m.1,m.2]<=10*5300:=aO O e;have:=f.2;omega
def Zdy(h:Cvd xs)(a:bl m.1.natAbs<=5300)(b:bl m.2.natAbs<=5300):(∀p∈Pn xs,¬Iy p m.1 m.2)/\(∀p∈Ak xs,¬Iy p m.1 m.2):=
 ⟨λp e=>Zun (Cb h p e).2.1 (Cb h p e).2.2 a b,λp e=>Zun (Zh9 h p e).2.1 (Zh9 h p e).2.2 a b⟩
theorem Ykd(e:0<a.2)(f:0<b.2):((a.1*b.2-b.1*a.2:Int):Rat)=(qv a-qv b)*((a.2:Rat)*(b.2:Rat)):=by have g:=Gn e;have h:=Gn f;unfold qv;grind
theorem Yte(g:0<a.2)(j:0<b.2):cmp a b<0↔qv a<qv b:=by
 have e:=Ykd g j;have k:=aX (Gn g) (Gn j);unfold cmp;rw [Ob];constructor
 .intro h;have f:((a.1*b.2-b.1*a.2):Rat)<0:=by exact_mod_cast h
  rcases(show qv a<qv b\/qv b<=qv a by grind)with q|q
  .omega
  .have:=aG (show 0<=qv a-qv b by grind) (Rat.le_of_lt k);grind
 .intro h;have:=aX (show 0<qv b-qv a by grind) k;have f:((a.1*b.2-b.1*a.2):Rat)<0:=O4;exact_mod_cast f
theorem Ztd(f:0<a.2)(g:0<b.2):cmp a b=0↔qv a=qv b:=by
 have e:=Ykd f g;have k:=aX (Gn f) (Gn g);unfold cmp;rw [eI];constructor
 .intro h;rw [h]at e;grind [Rat.mul_eq_zero]
 .intro h;have j:((a.1*b.2-b.1*a.2):Rat)=0:=O4;exact_mod_cast j
theorem Ztc(e:0<a.2)(f:0<b.2):cmp a b<=0↔qv a<=qv b:=by have g:=Yte e f;grind [Ztd,Rat.le_of_lt,Int.le_of_lt,Int.le_of_eq]
def Ymy(e:0<m.2)(p:List Int):Bh m.1 m.2 p=Eo (Zi p (qv m)):=Zey e p
theorem Ytn(h:Cvd xs)(g:xs≠[])(v:0<a.2)(j:0<b.2):crb (Ak xs) a b=true↔Za5 13 (Ih xs) (qv a) (qv b):=by
 obtain⟨f,l,n,s,u⟩:=Zcl h g;unfold crb Za5 Ak;have w:∃r,chn 13 (Ih xs)=sqf 13 (Ih xs)::r:=by unfold chn Nz;split<;>exact⟨_,rfl⟩
 have B:∀m:R2,0<m.2->chv _ m=vch 13 (Ih xs) _:=λm k=>(cvc_v k);rw [Ymy j];have D:Eo _=0↔Zi _ (qv b)=0:=⟨λe=>(f.zero _).1 (Zu0 e),λe=>Zu1 ((f.zero _).2 e)⟩;grind
theorem Zls(f:0<m.2):vlu (Pn xs) m=Eo (Zi xs (qv m)):=by
 unfold vlu Pn;by_cases e:xs.length=0
 .have:=aC e;subst this;rfl
 .obtain⟨n,g⟩:∃n,xs.length=n+1:=⟨xs.length-1,O⟩;unfold Zgd;simp_all [aJ,Ymy]
theorem Zk5(h:Cvd xs)(f:0<a.2)(v:0<b.2)(j:qv a<=qv b):ngb (Pn xs) (Ak xs) a b=true↔Yhk xs (qv a) (qv b):=by
 unfold ngb;by_cases k:cmp a b=0
 .rw [aM k,Zls f,gI];have e:=(Ztd f v).1 k;constructor
  .intro n;refine⟨qv a,kA,j,?_⟩;rcases Ph (Zi xs (qv a))with⟨s,u⟩|⟨s,u⟩|⟨s,u⟩
   all_goals omega
  .rintro⟨x,B,D,F⟩;grind [Zpm]
 .rw [aJ k];have l:qv a<qv b:=by grind [Ztd]
  by_cases g:xs=[]
  .subst g;constructor
   .intro n;exact absurd n (by show ¬(decide ((0)<0) || false)=true;simp)
   .rintro⟨x,B,D,F⟩;assumption
  .obtain⟨w,G,H,I,P⟩:=Zcl h g;rw [<-w.sem l,Bool.or_eq_true,gI,Ytn h g f v,show aft (Pn xs) a=Dk _ xs _ from Zxd f _ _ (aH _)]
theorem Zxj(h:Cvd xs){m:Nat}(j:m<=100):Zc8 xs m:=by refine .inr ?_;have g:=h.l;have k:=Qv h.s;have e:(xs.length+2)*(xs.length+2)<=13*13:=aO O O;have f:(xs.length+2)*(xs.length+2)*(Xw xs+m+2*(xs.length-1)+32)<=13*13*357:=aO e O;omega
theorem Zqd(h:xs.length=0):Pn xs=[]:=by unfold Pn;rw [h];rfl
theorem Ytm(h:xs.length=0):Ak xs=[]:=by unfold Ak;grind
theorem Ztg(h:xs.length≠0):Ak xs=chn 13 (Ih xs):=by unfold Ak;grind
theorem Zqe:∀(n m:Nat) (p:List Int),p.length<=n->p.length<=m->Zgd n p=Zgd m p
 | 0,m,p,f,g=>by
  cases m with
  | zero=>rfl
  | succ m=>unfold Zgd;grind
 | n+1,m,p,f,g=>by
  have h:=Oe p;cases m with
  | zero=>unfold Zgd;grind
  | succ m=>
   unfold Zgd;by_cases e:p.length=0
   .grind
   .rw [aJ e,aJ e,Zqe n m _ O O]
theorem Ze0(h:p.length≠0):Pn p=p::Pn (Xg p):=by have f:=Oe p;unfold Pn;obtain⟨n,e⟩:∃n,p.length=n+1:=⟨p.length-1,O⟩;rw [e,show Zgd _ p=if p.length=0 then []else p::Zgd n _ from rfl,aJ h,Zqe n _ _ O (aH _)]
def Ab(M:Nat)(p:List Int):Prop:=∀i,(cf p i).natAbs<=M
def Ab.sz{n:Nat}(h:Ab M p)(e:M<2^n):Sz n p:=λi=>(Qq n _).2 (aU (h i) e)
def Ab.mono(h:Ab M p)(e:M<=N):Ab N p:=λi=>aB (h i) e
theorem Dh(h:Ab M p)(c:Int):Ab (M*c.natAbs) (Zy p c):=λi=>by rw [Yo,bT];exact aL _ (h i)
theorem Zuj{f:Nat->Int}{M n:Nat}(h:∀k,(f k).natAbs<=M)(e:∀k,n<=k->f k=0):∀m,(Yl f m).natAbs<=min m n*M
 | 0=>by show(0:Int).natAbs<=_;simp
 | m+1=>by
  have g:=Zuj h e m;rw [Yp];rcases bB m n with q|q
  .grind [Nat.succ_mul]
  grind
theorem Yo6{n:Nat}(e:Ab M p)(f:Ab N q)(h:p.length<=n):Ab (n*(M*N)) (Qz p q):=λi=>by
 rw [Gu];exact aB (Zuj (λk=>by rw [bT];exact aO (e k) (f _)) (λk g=>by show cf p k*_=0;rw [Yr O,cL]) _) (aL _ (Nat.min_le_right _ _))
theorem Zon(e:Ab M p)(f:Ab N q):Ab (M+N) (Gw p q):=λi=>by rw [Cn];have:=e i;have:=f i;omega
theorem Yap(e:Ab M p)(f:Ab N q):Ab (M+N) (Bj p q):=λi=>by rw [Hd];have:=e i;have:=f i;omega
theorem ab_in(h:∀a∈c,Mw a):Ab (2^63) (tzl c):=λi=>by rw [Lc];obtain⟨e,f⟩:=Fh h i;show(c.getD i 0).natAbs<=_;omega
theorem Zht{n:Nat}(e:p.length<=n)(f:q.length<=n):(Gw p q).length<=n:=by unfold Gw;grind [Nat.le_trans,Md,Xc]
theorem Zsh (n:Nat)(e:p.length<=n)(f:q.length<=n):(Bj p q).length<=n:=by unfold Bj;grind [Nat.le_trans,Md,Xc]
theorem Yc7{n m:Nat}(j:Tr p)(k:Tr q)(g:p.length<=n)(h:q.length<=m):(Qz p q).length<=n+m-1:=by
 by_cases e:p=[]
 .simp_all [Fm,aV]
 .by_cases f:q=[]
  .simp_all [Zck,aV]
  grind [Ox]
structure Sgo (fr to ov:Int) (x y z:List Int):Prop where
 t1:0<=fr
 t2:fr<to
 t3:to<=3600000
 o1:1<=ov
 o2:ov<=4294967296
 hx:∀a∈x,Mw a
 hy:∀a∈y,Mw a
 hz:∀a∈z,Mw a
 lx:1<=x.length/\x.length<=6
 ly:1<=y.length/\y.length<=6
 lz:1<=z.length/\z.length<=6
def Sgo.hc{fr e:Int}{x y:List Int}(h:Sgo fr e ov x y z)(i:Nat):∀a∈Zw i x y z,Mw a:=Za0 h.hx h.hy h.hz i
def Sgo.lc{fr e:Int}{x y:List Int}(h:Sgo fr e ov x y z)(i:Nat):1<=(Zw i x y z).length/\(Zw i x y z).length<=6:=Em (p:=λl:List Int=>1<=l.length/\l.length<=6) h.lx h.ly h.lz
theorem Sgo.of{fr j:Int}{x y:List Int}(v:∀a∈x,Mw a)(w:∀a∈y,Mw a)(B:∀a∈z,Mw a)(h:Zak fr j ov x y z=true):Sgo fr j ov x y z:=by unfold Zak Zyd axB at h;simp only [aY,eJ]at h;obtain⟨⟨⟨⟨⟨⟨⟨⟨k,l⟩,n⟩,s⟩,u⟩,e⟩,f⟩,g⟩,-⟩:=h;exact⟨k,l,n,s,u,v,w,B,⟨e.1.1.1,e.1.1.2⟩,⟨f.1.1.1,f.1.1.2⟩,⟨g.1.1.1,g.1.1.2⟩⟩
theorem Zgq(h:c.length<=6):¬25<(tzl c).length:=by grind [Md]
def Lw(z:R2):Prop:=0<z.2/\Int.gcd z.1 z.2=1
theorem lgcd_p{x:Int}(e:0<y):Kh x y=(Int.gcd x y:Int):=by unfold Kh;omega
theorem Ylv (x:Int)(e:0<y):Lw (x/Kh x y,y/Kh x y):=by have f:0<Int.gcd x y:=Int.gcd_pos_of_ne_zero_right _ O;rw [lgcd_p e];refine⟨Int.ediv_pos_of_pos_of_dvd e O5 (jW ..),?_⟩;grind [Int.gcd_ediv_gcd_ediv_gcd]
theorem Zsa(e:0<a.2)(h:¬Hh a.1 a.2):Lw (slow a):=by obtain⟨f,g,-⟩:=Zf5 h;have:=Ylv a.1 e;unfold slow;grind
theorem Ylu(h:Zfk a b)(e:0<a.2)(f:0<b.2):Lw (Nd a b):=by obtain⟨j,k,-⟩:=Zf5 h.2;have g:0<Dw _ _*2:=fQ (Zy9 h.1 (fQ e f)) O;have:=Ylv (Zac (a.1*b.2+b.1*a.2) (a.2*b.2)*1) g;unfold Nd;grind
structure Hv (n Q j:Nat) (W:Rat) (a b:R2):Prop where
 hQ:0<Q
 hQ2:Q<2^(2*n)
 ea:En (2^n) Q j a
 eb:En (2^n) Q j b
 wd:(qv b-qv a)*((2^j:Nat):Rat)=W
 le:qv a<=qv b
 la:Lw a
 lb:Lw b
theorem Hv.start{n:Nat}(g:0<a.2)(h:0<b.2)(k:bl a.1.natAbs<=n)(u:bl a.2.natAbs<=n)(l:bl b.1.natAbs<=n)(v:bl b.2.natAbs<=n)(s:n<=65536)(D:qv a<=qv b):∃Q,Hv n Q 0 (qv b-qv a) (slow a) (slow b):=by
 obtain⟨F,G,W,H,Y⟩:=Zc7 g k u s;obtain⟨t1,t2,t3,t4,t5⟩:=Zc7 h l v s;have P:=(Qq n _).1 H;have R:=(Qq n _).1 t4;have S:=Zrl g (dI ((Qq n _).1 k));have V:=Zrl h (dI ((Qq n _).1 l));have e:0<(slow a).2.natAbs*(slow b).2.natAbs:=gY O O;have f:(slow a).2.natAbs*(slow b).2.natAbs<2^(2*n):=by rw [show 2*n=n+n by omega,bR];simp_all [iC,dI,cE]
 generalize I:(slow a).2.natAbs*(slow b).2.natAbs=Q at *;have j:((Q*2^0))=(slow a).2*(slow b).2:=by grind
 have w:En (2^n) Q 0 _:=⟨G,O11,O4,O4⟩;have B:En (2^n) Q 0 _:=⟨t2,O11,O4,O4⟩;exact⟨Q,e,f,w,B,O4,O4,Zsa g F,Zsa h t1⟩
theorem Hv.mid{n Q j B:Nat}{W:Rat}(h:Hv n Q j W a b)(V:3*n+2+j<=B)(g:B<=65536) :
  Zfk a b/\(bl (Nd a b).1.natAbs<=B/\bl (Nd a b).2.natAbs<=B/\0<(Nd a b).2)/\qv (Nd a b)=(qv a+qv b)/2/\(bl a.1.natAbs<=B/\bl a.2.natAbs<=B/\0<a.2)/\(bl b.1.natAbs<=B/\bl b.2.natAbs<=B/\0<b.2)/\
  Hv n Q (j+1) W a (Nd a b)/\Hv n Q (j+1) W (Nd a b) b:=by
 have u:∀m,m<=B->2^m<=2^B:=λm h=>cW O h;have f:Q*2^(j+1)<2^B:=by have:Q*2^(j+1)<2^(2*n)*2^(j+1):=dN h.hQ2 (cE O);rw [<-bR]at this;grind
 have k:2*2^n*(Q*2^j)<2^B:=by
  have D:Q*2^j<2^(2*n)*2^j:=dN h.hQ2 (cE O);have R:2*2^n*(Q*2^j)<2*2^n*(2^(2*n)*2^j):=jP D (gY O (cE O));have S:2*2^n*(2^(2*n)*2^j)=2^(3*n+1+j):=by rw [<-bR,<-lT,<-bR];grind
  grind
 obtain⟨w,l,s,G,H⟩:=mid_en h.ea h.eb h.hQ f k g;obtain⟨I,P⟩:=Ym5 j 0 B h.ea h.hQ h.hQ2 O;obtain⟨r1,r2⟩:=Ym5 j 0 B h.eb h.hQ h.hQ2 O;have e:=Ylu w h.ea.pos h.eb.pos;have v:((2^(j+1):Nat))=2*((2^j:Nat)):=O4;have F:=h.le;refine⟨w,⟨G,H,l.pos⟩,s,⟨I,P,h.ea.pos⟩,⟨r1,r2,h.eb.pos⟩,⟨h.hQ,h.hQ2,h.ea.up,l,?_,O4,h.la,e⟩,⟨h.hQ,h.hQ2,l,h.eb.up,?_,O4,e,h.lb⟩⟩
 .rw [s,v,<-h.wd];grind
 .rw [s,v,<-h.wd];grind
def Yff{k n:Nat}(h:Sz k p)(e:k<=n)(i:Nat):(cf p i).natAbs<=2^n:=aB (Ziq h i) (cW O e)
theorem Yqi(h:Cvd xs)(g:xs≠[]):Zbe 13 xs/\∀u v:Rat,-((2^34:Nat):Rat)<=u->u<=v->v<=((2^34:Nat):Rat)->v-u<=1/((2^5000:Nat):Rat)->vch 13 xs u-vch 13 xs v<=1:=by have F:=h.l;obtain⟨j,e,B,D⟩:=chG 13 h.v.tr g h.s O5 O O;have k:=Gz e O;have f:∀n,n<=11->2<=n->Ybd (2^34) (2^225) n 5000=true:=O7;obtain⟨n,s⟩:∃n:Nat,n=225:=⟨_,rfl⟩;rw [<-s]at f;have k:Sz n (Xg (sqf 13 xs)):=O4;have w:∀i,(cf _ i).natAbs<=2^n:=λi=>Yff e O i;exact⟨j,λu v=>sep_of h.v.tr g j (cE O) (cE O) w (λi=>Ziq k i) (λl=>f _ O l) u v⟩
theorem Yf7{j e w:Nat}{W:Rat}(s:1/((2^(e+1):Nat):Rat)<x)(u:x*((2^j:Nat):Rat)=W)(v:W<=((2^w:Nat):Rat)):j<e+1+w:=by
 have f:=two_pow_pos (e+1);have g:=two_pow_pos j;rcases bB j _ with q|q
 .omega
 .have hi:=fD.2 f;have h:((2^(e+1)))*((2^w))<=((2^j):Rat):=by
   have:2^(e+1)*2^w<=2^j:=by rw [<-bR];simp_all [cW]
   exact_mod_cast this
  have k:=aX (show 0<x-((2^(e+1)))⁻¹ by grind) g;have l:=aG (dE hi) (show 0<=((2^j))-((2^(e+1)))*((2^w)) by grind);have n:((2^(e+1)):Rat)⁻¹*(((2^(e+1)))*((2^w)))=((2^w)):=by grind
  grind
structure NIn (xs:List Int) (s t:Rat) (j:Nat) (a b:R2):Prop where
 ex:∃Q W,Hv 34 Q j W a b/\W<=((2^34:Nat):Rat)
 lo:s<=qv a
 hi:qv b<=t
 l0:-((2^33:Nat):Rat)<=s
 h0:t<=((2^33:Nat):Rat)
 pa:0<=Zi xs (qv a)
 pb:0<=Zi xs (qv b)
 ng:Yhk xs (qv a) (qv b)
theorem NIn.j{hi:Rat}{j:Nat}(g:Cvd xs)(f:xs≠[])(h:NIn xs lo hi j a b):j<5035:=by obtain⟨Q,W,k,l⟩:=h.ex;obtain⟨n,hs⟩:=Yqi g f;have u:=h.lo;have v:=h.hi;have B:=h.l0;have D:=h.h0;have:=Yrr (Zcl g f).1 n (K:=2^34) (e:=5000) hs (s:=qv a) (t:=qv b) O4 O4 h.pa h.pb h.ng;exact Yf7 (e:=5000) (w:=34) this k.wd l
theorem NIn.start(e:0<a.2)(f:0<b.2)(h:bl a.1.natAbs<=32)(u:bl a.2.natAbs<=32)(j:bl b.1.natAbs<=32)(v:bl b.2.natAbs<=32)(g:qv a<=qv b)(B:0<=Zi xs (qv a))(D:0<=Zi xs (qv b))(w:Yhk xs (qv a) (qv b)) :
  NIn xs (qv a) (qv b) 0 (slow a) (slow b):=by
 obtain⟨Q,k⟩:=Hv.start (n:=34) e f O O O O O5 g;obtain⟨-,-,-,-,F⟩:=Zc7 e O O O5;obtain⟨-,-,-,-,t5⟩:=Zc7 f O O O5;have l:=Zrl (K:=2^33) e (aB (dI ((Qq 32 _).1 h)) O);have s:=Zrl (K:=2^33) f (aB (dI ((Qq 32 _).1 j)) O);exact⟨⟨Q,_,k,O4⟩,O4,O4,l.1,s.2,O4,O4,O4⟩
structure Fnd (xs:List Int) (s t:Rat) (m:R2):Prop where
 ng:Zi xs (qv m)<0
 lo:s<=qv m
 hi:qv m<=t
 b1:bl m.1.natAbs<=5200
 b2:bl m.2.natAbs<=5200
 lw:Lw m
theorem NIn.round{hi:Rat}{j:Nat}(D:Cvd xs)(I:xs≠[])(h:NIn xs lo hi j a b) :
  Zfk a b/\(bl (Nd a b).1.natAbs<=5200/\bl (Nd a b).2.natAbs<=5200/\0<(Nd a b).2)/\(bl a.1.natAbs<=5200/\bl a.2.natAbs<=5200/\0<a.2)/\(bl b.1.natAbs<=5200/\bl b.2.natAbs<=5200/\0<b.2)/\
  (vlu (Pn xs) (Nd a b)<0->Fnd xs lo hi (Nd a b))/\(¬vlu (Pn xs) (Nd a b)<0->ngb (Pn xs) (Ak xs) a (Nd a b)=true->NIn xs lo hi (j+1) a (Nd a b))/\
  (¬vlu (Pn xs) (Nd a b)<0->ngb (Pn xs) (Ak xs) a (Nd a b)=false->NIn xs lo hi (j+1) (Nd a b) b):=by
 have hj:=h.j D I;obtain⟨Q,W,n,s⟩:=h.ex;obtain⟨F,k,m3,l,G,V,Y⟩:=n.mid (B:=5200) O O5;have P:=n.le;have R:=h.lo;have S:=h.hi;have hv:=Zls (xs:=xs) k.2.2;have g:¬vlu (Pn xs) (Nd a b)<0->0<=Zi xs (qv (Nd a b)):=λf=>by grind [Ph,Rat.le_of_lt,Rat.le_refl]
 have e:=Zk5 D l.2.2 k.2.2 (show qv a<=qv _ by grind);refine⟨F,k,l,G,λf=>?_,λf w=>?_,λf w=>?_⟩
 .have:Zi xs (qv (Nd a b))<0:=by
   rcases Ph (Zi xs (qv (Nd a b)))with⟨u,v⟩|⟨u,v⟩|⟨u,v⟩
   all_goals omega
  exact⟨this,O4,O4,k.1,k.2.1,Ylu F l.2.2 G.2.2⟩
 .exact⟨⟨Q,W,V,s⟩,R,O4,h.l0,h.h0,h.pa,g f,e.1 w⟩
 .refine⟨⟨Q,W,Y,s⟩,O4,S,h.l0,h.h0,g f,h.pb,?_⟩;obtain⟨x,Z,x2,H⟩:=h.ng;rcases(show x<=qv (Nd a b)\/qv (Nd a b)<=x by grind)with q|q
  .have:=e.2 ⟨x,Z,q,H⟩;grind
  .exact⟨x,q,x2,H⟩
structure E32 (a:R2):Prop where
 p:0<a.2
 b1:bl a.1.natAbs<=32
 b2:bl a.2.natAbs<=32
theorem E32.slow(h:E32 a):E32 (slow a)/\qv (Go.Sky.slow a)=qv a/\Lw (Go.Sky.slow a)/\¬Hh a.1 a.2:=by obtain⟨e,f,g,j,k⟩:=Zc7 (n:=32) h.p h.b1 h.b2 O;exact⟨⟨f,g,j⟩,k,Zsa h.p e,e⟩
theorem Zkm(g:0<m.2):vlu (Pn xs) m<0↔Zi xs (qv m)<0:=by
 rw [Zls g];rcases Ph (Zi xs (qv m))with⟨f,e⟩|⟨f,e⟩|⟨f,e⟩
 .rw [e];constructor
  .intro h;exact absurd h O3
  .intro h;grind
 .rw [e];exact⟨λ_=>f,λ_=>O3⟩
 .rw [e,f];constructor
  .intro h;exact absurd h O3
  .intro h;grind
theorem end_l(k:E32 a)(e:qv a<=qv b)(h:vlu (Pn xs) (slow a)<0):Fnd xs (qv a) (qv b) (slow a):=by obtain⟨f,g,l,n⟩:=k.slow;have j:=(Zkm f.p).1 h;exact⟨j,by rw [g];exact kA,by rw [g];exact e,aB f.b1 O3,aB f.b2 O3,l⟩
theorem end_r(k:E32 b)(e:qv a<=qv b)(h:vlu (Pn xs) (slow b)<0):Fnd xs (qv a) (qv b) (slow b):=by obtain⟨f,g,l,n⟩:=k.slow;have j:=(Zkm f.p).1 h;exact⟨j,by rw [g];exact e,by rw [g];exact kA,aB f.b1 O3,aB f.b2 O3,l⟩
theorem Ygb(l:Cvd xs)(f:E32 a)(g:E32 b)(h:qv a<=qv b)(j:¬vlu (Pn xs) (slow a)<0)(k:¬vlu (Pn xs) (slow b)<0)(n:ngb (Pn xs) (Ak xs) a b=true) :
  NIn xs (qv a) (qv b) 0 (slow a) (slow b):=by
 obtain⟨v,w,B,D⟩:=f.slow;obtain⟨t1,t2,t3,t4⟩:=g.slow;have s:¬Zi xs (qv (slow a))<0:=λe=>j ((Zkm v.p).2 e);have u:¬Zi xs (qv (slow b))<0:=λe=>k ((Zkm t1.p).2 e);rw [w]at s;rw [t2]at u;exact NIn.start f.p g.p f.b1 f.b2 g.b1 g.b2 h O4 O4 ((Zk5 l f.p g.p h).1 n)
theorem ngb_ne(h:ngb (Pn xs) (Ak xs) a b=true):xs≠[]:=λe=>by
 subst e;unfold ngb at h;split at h
 .exact absurd h (by show ¬decide ((0:Int)<0)=true;decide)
 .exact absurd h (by show ¬(decide ((0:Int)<0) || false)=true;decide)
theorem E32.efit(h:E32 a):efit a=true:=by have:=h.b1;have:=h.b2;unfold Go.Sky.efit;exact aF O
structure FIn (xs:List Int) (j:Nat) (a b:R2):Prop where
 ex:∃Q W,Hv 34 Q j W a b
 bj:j<=200
theorem FIn.start(e:E32 a)(f:E32 b)(g:qv a<=qv b):FIn xs 0 (slow a) (slow b):=by obtain⟨Q,h⟩:=Hv.start (n:=34) e.p f.p (aB e.b1 O3) (aB e.b2 O3) (aB f.b1 O3) (aB f.b2 O3) O g;exact⟨⟨Q,_,h⟩,O⟩
theorem FIn.round{j:Nat}(h:FIn xs j a b) :
  Zfk a b/\(bl (Nd a b).1.natAbs<=5200/\bl (Nd a b).2.natAbs<=5200/\0<(Nd a b).2)/\(bl a.1.natAbs<=5200/\bl a.2.natAbs<=5200/\0<a.2)/\(bl b.1.natAbs<=5200/\bl b.2.natAbs<=5200/\0<b.2)/\
  (j<200->FIn xs (j+1) a (Nd a b)/\FIn xs (j+1) (Nd a b) b):=by
 obtain⟨Q,W,e⟩:=h.ex;have v:=h.bj;obtain⟨g,k,w,l,n,s,u⟩:=e.mid (B:=5200) O O;exact⟨g,k,l,n,λf=>⟨⟨⟨Q,W,s⟩,O⟩,⟨⟨Q,W,u⟩,O⟩⟩⟩
theorem Yrq(g:E32 a)(j:E32 b)(f:qv a<=qv b)(hi:i<2)(h:vlu (Pn xs) ([slow a,slow b].getD i (0,0))<0):Fnd xs (qv a) (qv b) ([slow a,slow b].getD i (0,0)):=by
 rcases(show i=0\/i=1 by omega)with e|e
 .subst e;exact end_l g f h
 .subst e;exact end_r j f h
theorem Ysu(f:E32 a)(g:E32 b)(i:Nat)(hi:i<2):E32 ([slow a,slow b].getD i (0,0)):=by
 rcases(show i=0\/i=1 by omega)with e|e
 .subst e;exact f.slow.1
 .subst e;exact g.slow.1
def Ytf(e:E32 a)(f:E32 b)(h:¬0<cmp a b):qv a<=qv b:=(Ztc e.p f.p).1 O
def Zfm:E32 (0,1):=⟨O3,O3,O3⟩
def Zfl:E32 (1,1):=⟨O3,O3,O3⟩
def Zd0:¬0<cmp (0,1) (1,1):=O7
def Hu(xs:List Int):Bool:=ngb (Pn xs) (Ak xs) (0,1) (1,1)
def plT(c:List Int)(a d:Int)(k:Nat):Int:=c.getD k 0*(a^k*d^(5-(k:Int)).toNat)
def plS(c:List Int)(a d:Int):Nat->Int
 | 0=>0
 | k+1=>plS c a d k+plT c a d k
def pl(c:List Int)(a d:Int):Int:=plS c a d c.length
def atS(a d:Int)(x y z:List Int):Nat->List Int
 | 0=>List.replicate 3 0
 | i+1=>(atS a d x y z i).set i (pl (Zw i x y z) a d)
def gS(ov a d:Int)(x y z:List Int):Nat->Int
 | 0=>ov*d^5
 | i+1=>(Int.gcd (gS ov a d x y z i) (pl (Zw i x y z) a d):Int)
abbrev plV (p q r o:Int):Value:= .agg #[.bool (decide (p<0)),.string (Qw p.natAbs),.bool (decide (q<0)),.string (Qw q.natAbs),.bool (decide (r<0)),.string (Qw r.natAbs),.bool (decide (o<0)),.string (Qw o.natAbs)]
theorem Ah(a d:Int)(x y z:List Int):∀i,(atS a d x y z i).length=3
 | 0=>rfl
 | i+1=>by show(List.set _ _ _).length=3;rw [cT];exact Ah a d x y z i
theorem Yoz(a d:Int)(x y z:List Int)(h:i<3):atS a d x y z i=(atS a d x y z i).set i 0:=by
 match i,h with
 | 0,_=>rfl
 | 1,_=>rfl
 | 2,_=>rfl
theorem Zuu{l:List Int}{v:Int}(h:i<l.length):(l.set i v).getD i 0=v:=by rw [aK,List.getElem?_set_self h];rfl
theorem Ycc(h:∀x∈c,Mw x){a:Int}(j:0<=a/\a<=3600000)(l:1<=d/\d<=3600000){k:Nat}(n:k<=5):(a^k*d^(5-(k:Int)).toNat).natAbs<=3600000^5/\(plT c a d k).natAbs<=9223372036854775808*3600000^5:=by
 have e:(a^k*d^(5-(k:Int)).toNat).natAbs<=3600000^5:=by rw [bT,jQ,jQ];refine aB (aO (fS (show a.natAbs<=3600000 by omega) k) (fS (show d.natAbs<=3600000 by omega) _)) ?_;rw [<-bR,show k+(5-(k:Int)).toNat=5 by omega];exact aH _
 obtain⟨f,g⟩:=Fh h k;refine⟨e,?_⟩;unfold plT;rw [bT];exact aO O e
theorem Yce{c:List Int}(h:∀x∈c,Mw x){a d:Int}(e:0<=a/\a<=3600000)(f:1<=d/\d<=3600000):∀k,k<=6->(plS c a d k).natAbs<=k*(9223372036854775808*3600000^5)
 | 0,_=>by show(0:Int).natAbs<=_;decide
 | k+1,g=>by have j:=Yce h e f k O;have:=(Ycc h e f (k:=k) O).2;show(plS c a d k+plT c a d k).natAbs<=_;rw [dO];omega
def Zjg(h:∀x∈c,Mw x){a:Int}(f:0<=a/\a<=3600000)(g:1<=d/\d<=3600000){k:Nat}(e:k<=6):bl (plS c a d k).natAbs<=180:=
 (Qq 180 _).2 (aU (Yce h f g k e) (aU (aL _ e) O3))
theorem Yoi(h:∀x∈c,Mw x){a:Int}(g:0<=a/\a<=3600000)(j:1<=d/\d<=3600000){k:Nat}(l:k<=5):bl (a^k*d^(5-(k:Int)).toNat).natAbs<=180/\bl (plT c a d k).natAbs<=180:=by obtain⟨e,f⟩:=Ycc h g j l;exact⟨(Qq 180 _).2 (aU e O3),(Qq 180 _).2 (aU f O3)⟩
theorem Yak (a:Int)(f:0<=a/\a<=3600000){k:Nat}(e:k<=5):bl (a^k).natAbs<=180:=by refine(Qq 180 _).2 ?_;rw [jQ];exact aU (aB (fS (show a.natAbs<=3600000 by omega) k) (cW O3 e)) O3
theorem Ymn{fr k ov:Int}{x y z:List Int}(h:Sgo fr k ov x y z){a d:Int}(e:0<=a/\a<=3600000)(f:1<=d/\d<=3600000):∀i,0<gS ov a d x y z i/\bl (gS ov a d x y z i).natAbs<=180
 | 0=>by have g:=h.o1;have j:=h.o2;refine⟨fQ O (jD O),(Qq 180 _).2 ?_⟩;show(ov*d^5).natAbs<_;rw [bT,jQ];exact aU (aO (show ov.natAbs<=4294967296 by omega) (fS (show d.natAbs<=3600000 by omega) 5)) O3
 | i+1=>by obtain⟨g,j⟩:=Ymn h e f i;have l:0<Int.gcd (gS ov a d x y z i) (pl (Zw i x y z) a d):=Int.gcd_pos_of_ne_zero_left _ O;have n:=Ztq (gS ov a d x y z i) (pl (Zw i x y z) a d);have s:bl (pl (Zw i x y z) a d).natAbs<=180:=Zjg (h.hc i) e f (h.lc i).2;show 0<((Int.gcd _ _:Nat):Int)/\bl ((Int.gcd _ _:Nat):Int).natAbs<=180;exact⟨O,O⟩
def Yjd(ov a d:Int)(x y z:List Int)(e g f:Int)(h j k:List Int):Bool:=
 decide (pl x a d/gS ov a d x y z 3=pl h g f/gS e g f h j k 3/\pl y a d/gS ov a d x y z 3=pl j g f/gS e g f h j k 3/\pl z a d/gS ov a d x y z 3=pl k g f/gS e g f h j k 3/\ov*d^5/gS ov a d x y z 3=e*f^5/gS e g f h j k 3)
def Znd(g ov:Int)(x y z:List Int)(e f:Int)(h j k:List Int):Bool:=decide (g=e) && Yjd ov 1 1 x y z f 0 1 h j k
structure Gin (g:Zt):Prop where
 f:Mw g.1.1
 t:Mw g.1.2.1
 o:Mw g.1.2.2
 x:∀a∈g.2.1.2,Mw a
 y:∀a∈g.2.2.1.2,Mw a
 z:∀a∈g.2.2.2.2,Mw a
def seB(g:Zt):Bool:=Zak g.1.1 g.1.2.1 g.1.2.2 g.2.1.2 g.2.2.1.2 g.2.2.2.2
def meG(g h:Zt):Bool:=Znd g.1.2.1 g.1.2.2 g.2.1.2 g.2.2.1.2 g.2.2.2.2 h.1.1 h.1.2.2 h.2.1.2 h.2.2.1.2 h.2.2.2.2
abbrev SgG (g:Zt):Prop:=Sgo g.1.1 g.1.2.1 g.1.2.2 g.2.1.2 g.2.2.1.2 g.2.2.2.2
def Kb{g:Zt}(h:Gin g)(e:seB g=true):SgG g:=Sgo.of h.x h.y h.z e
def Ee(ps:List Zt)(i:Nat):Bool:=seB (ps.getD i G0) && (decide (i=0) || meG (ps.getD (i-1) G0) (ps.getD i G0))
def Xl(ps:List Zt):Bool:=(List.range ps.length).all (Ee ps) && decide (1<=ps.length) && decide (ps.length<=256)
theorem Zk2{ps:List Zt}(h:Ee ps i=true):seB (ps.getD i G0)=true:=by unfold Ee at h;rw [aY]at h;exact h.1
theorem okAt_s{ps:List Zt}(h:seB (ps.getD i G0)=false):Ee ps i=false:=by unfold Ee;rw [h];rfl
theorem okAt_0{ps:List Zt}(h:seB (ps.getD i G0)=true)(e:i=0):Ee ps i=true:=by unfold Ee;rw [h,aF e];rfl
theorem Zy6{ps:List Zt}(h:seB (ps.getD i G0)=true)(e:0<i):Ee ps i=meG (ps.getD (i-1) G0) (ps.getD i G0):=by unfold Ee;rw [h,aE O];rfl
theorem Ycg (i:Nat){ps:List Zt}(hi:i<ps.length)(h:Ee ps i=false):Xl ps=false:=by
 unfold Xl;have:(List.range ps.length).all (Ee ps)=false:=by
  cases hb:(List.range ps.length).all (Ee ps)with
  | false=>rfl
  | true=>have:=bZ.1 hb i (fU.2 hi);rw [h]at this;cases this
 rw [this];rfl
theorem Zhd{ps:List Zt}(h:∀i,i<ps.length->Ee ps i=true):Xl ps=decide (1<=ps.length/\ps.length<=256):=by unfold Xl;rw [bZ.2 λi hi=>h i (fU.1 hi)];simp
theorem Yfo(g:Zt)(i:Nat):seB g=false\/(seB g=true/\i=0)\/(seB g=true/\0<i):=by
 cases seB g
 .exact .inl rfl
 .exact .inr (by rcases aZ i with h|h;exact .inl ⟨rfl,h⟩;exact .inr ⟨rfl,h⟩)
theorem Gp{ps:List Zt}(h:Xl ps=true):(∀i,i<ps.length->Ee ps i=true)/\1<=ps.length/\ps.length<=256:=by unfold Xl at h;simp only [aY,eJ]at h;exact⟨λi hi=>bZ.1 h.1.1 i (fU.2 hi),h.1.2,h.2⟩
open Go.ChangeShapes Go.WideShapes Go.ChangeAt Go.RowKit Go.Joins Go.Deep
open Go.Proofs
variable {P:Program} {W:World} {H:Type} {enc:TypeId×Value->H}
theorem Zzl{n:Int}(h:(Lit.int .i64 n).wf=true):Mw n:=by simp [Lit.wf,IntKind.has,IntKind.min,IntKind.max,IntKind.bits,IntKind.signed]at h;exact⟨O,O⟩
theorem Yg8{w:World}{a:Addr}{v:Value}(h:w.cell? a=some v):a.spot=none/\a.block<w.heap.size:=by
 unfold World.cell? at h;split at h
 .rename_i c t f e;refine⟨?_,(aR.1 e).1⟩;cases hs:a.spot with
  | none=>rfl
  | some x=>rw [hs]at h;simp at h
 .cases h
end Go.Sky
namespace Go.Sky
open Go.ChangeShapes Go.WideShapes Go.ChangeAt Go.RowKit Go.Joins Go.Deep
open Go.Proofs
variable {P:Program} {W:World} {H:Type} {enc:TypeId×Value->H}
theorem Zmy {t ti:TypeId} {f0 f1 f2:Field} {v:Value} {d:DataW H} {p:List MemPlace} (q:P.underlying t=some (.struct #[f0,f1,f2])) (F:P.cellsOf t=3) (z:f0.type=ti) (B:f1.type=ti) (D:f2.type=ti) (R:f0.offset=0) (S:f1.offset=1) (V:f2.offset=2)
  (hi:P.underlying ti=some (.int .i64)) (f:P.cellsOf ti=1) {r:Reach} {x:Nat} (I:Value.okWide P W r x t v) (h:DataW.Trod enc P W 0 (λ_=>true) true t v d p):∃a b c:Int,v= .agg #[.int .i64 a,.int .i64 b,.int .i64 c]/\Mw a/\Mw b/\Mw c:=by
 obtain⟨y,rfl,e⟩:=okWide_struct q I;obtain⟨o,G⟩:=h;obtain⟨xs,n,_,hx,hl,i,g⟩:=DataW.trod_struct q G;rw [F]at e;obtain⟨l⟩:=y;have e:l.length=3:=by simpa using e
 match l,e with
 | [c0,c1,c2],_=>
 match xs,i with
 | [y0,y1,y2],_=>
 have j:=g 0 f0 rfl;have k:=g 1 f1 rfl;have m:=g 2 f2 rfl;rw [z,R,f]at j;rw [B,S,f]at k;rw [D,V,f]at m;obtain⟨M,s,Y⟩:=DataW.trod_int hi j;obtain⟨N,u,Z⟩:=DataW.trod_int hi k;obtain⟨Q,w,w2⟩:=DataW.trod_int hi m;simp [Value.cells]at s u w;subst s;subst u;subst w;exact⟨M,N,Q,rfl,Zzl Y.2,Zzl Z.2,Zzl w2.2⟩
end Go.Sky
namespace Go.Proofs.YtlnoheikolgejaaGreat
open Go Go.Joins Go.Sky
def Lt{a b:Bool}(h:a=true)(c:b=true):(a && b)=true:=by rw [h,c];rfl
def cf0:(λ(P:Program) (f:FuncId) (fn:Func) (s:ChangeSpec) (c:OpenClaim)=>c.wf (OpenSpec.ofChange s)) Tryz.checked.prog 5 Tryz.f5 Rows.launchSchedulesSpec Rows.launchSchedulesRow=true:=O6
def cf1:(λ(P:Program) (f:FuncId) (fn:Func) (s:ChangeSpec) (c:OpenClaim)=>laidOutB P) Tryz.checked.prog 5 Tryz.f5 Rows.launchSchedulesSpec Rows.launchSchedulesRow=true:=O6
def cf2:(λ(P:Program) (f:FuncId) (fn:Func) (s:ChangeSpec) (c:OpenClaim)=>mapsRowed P) Tryz.checked.prog 5 Tryz.f5 Rows.launchSchedulesSpec Rows.launchSchedulesRow=true:=O6
def cf3:(λ(P:Program) (f:FuncId) (fn:Func) (s:ChangeSpec) (c:OpenClaim)=>fn.params.all (P.readableRec ·)) Tryz.checked.prog 5 Tryz.f5 Rows.launchSchedulesSpec Rows.launchSchedulesRow=true:=O6
def cf4:(λ(P:Program) (f:FuncId) (fn:Func) (s:ChangeSpec) (c:OpenClaim)=>namedTie P c.named s.vars) Tryz.checked.prog 5 Tryz.f5 Rows.launchSchedulesSpec Rows.launchSchedulesRow=true:=O6
def cf5:(λ(P:Program) (f:FuncId) (fn:Func) (s:ChangeSpec) (c:OpenClaim)=>c.stops == []) Tryz.checked.prog 5 Tryz.f5 Rows.launchSchedulesSpec Rows.launchSchedulesRow=true:=O6
def cf6:(λ(P:Program) (f:FuncId) (fn:Func) (s:ChangeSpec) (c:OpenClaim)=>P.stops == []) Tryz.checked.prog 5 Tryz.f5 Rows.launchSchedulesSpec Rows.launchSchedulesRow=true:=O6
def cf7:(λ(P:Program) (f:FuncId) (fn:Func) (s:ChangeSpec) (c:OpenClaim)=>c.knobs == []) Tryz.checked.prog 5 Tryz.f5 Rows.launchSchedulesSpec Rows.launchSchedulesRow=true:=O6
def cf8:(λ(P:Program) (f:FuncId) (fn:Func) (s:ChangeSpec) (c:OpenClaim)=>P.stopKnobs == []) Tryz.checked.prog 5 Tryz.f5 Rows.launchSchedulesSpec Rows.launchSchedulesRow=true:=O6
def cf9:(λ(P:Program) (f:FuncId) (fn:Func) (s:ChangeSpec) (c:OpenClaim)=>c.inPlace == P.inPlace f) Tryz.checked.prog 5 Tryz.f5 Rows.launchSchedulesSpec Rows.launchSchedulesRow=true:=O6
def cf10:(λ(P:Program) (f:FuncId) (fn:Func) (s:ChangeSpec) (c:OpenClaim)=>c.unfollowed == P.unfollowed f) Tryz.checked.prog 5 Tryz.f5 Rows.launchSchedulesSpec Rows.launchSchedulesRow=true:=O6
def cf11:(λ(P:Program) (f:FuncId) (fn:Func) (s:ChangeSpec) (c:OpenClaim)=>c.recurses == P.recurses f) Tryz.checked.prog 5 Tryz.f5 Rows.launchSchedulesSpec Rows.launchSchedulesRow=true:=O6
def cf12:(λ(P:Program) (f:FuncId) (fn:Func) (s:ChangeSpec) (c:OpenClaim)=>c.named == P.varsNamed f) Tryz.checked.prog 5 Tryz.f5 Rows.launchSchedulesSpec Rows.launchSchedulesRow=true:=O6
def cf13:(λ(P:Program) (f:FuncId) (fn:Func) (s:ChangeSpec) (c:OpenClaim)=>(c.maps == (fn.params.toList ++ s.plain.varTypes P).any (P.mapsRec ·))) Tryz.checked.prog 5 Tryz.f5 Rows.launchSchedulesSpec Rows.launchSchedulesRow=true:=O6
def cf14:(λ(P:Program) (f:FuncId) (fn:Func) (s:ChangeSpec) (c:OpenClaim)=>(c.ifaces == (fn.params.toList ++ s.plain.varTypes P).any (P.ifacesRec ·))) Tryz.checked.prog 5 Tryz.f5 Rows.launchSchedulesSpec Rows.launchSchedulesRow=true:=O6
def cf15:(λ(P:Program) (f:FuncId) (fn:Func) (s:ChangeSpec) (c:OpenClaim)=>c.mapsOut == P.mapsAmong fn.resultTypes.toList) Tryz.checked.prog 5 Tryz.f5 Rows.launchSchedulesSpec Rows.launchSchedulesRow=true:=O6
def cf16:(λ(P:Program) (f:FuncId) (fn:Func) (s:ChangeSpec) (c:OpenClaim)=>(c.loops == (fn.params.toList ++ s.plain.varTypes P).any (P.loopsFrom ·))) Tryz.checked.prog 5 Tryz.f5 Rows.launchSchedulesSpec Rows.launchSchedulesRow=true:=O6
def cf17:(λ(P:Program) (f:FuncId) (fn:Func) (s:ChangeSpec) (c:OpenClaim)=>(c.wideKeys == (fn.params.toList ++ s.plain.varTypes P ++ fn.resultTypes.toList).any (P.wideKeysFrom ·))) Tryz.checked.prog 5 Tryz.f5 Rows.launchSchedulesSpec Rows.launchSchedulesRow=true:=O6
def cf18:(λ(P:Program) (f:FuncId) (fn:Func) (s:ChangeSpec) (c:OpenClaim)=>s.vars.all (P.varReadable ·)) Tryz.checked.prog 5 Tryz.f5 Rows.launchSchedulesSpec Rows.launchSchedulesRow=true:=O6
def cf19:(λ(P:Program) (f:FuncId) (fn:Func) (s:ChangeSpec) (c:OpenClaim)=>fn.resultTypes.all (λt=>P.readableRec t && decide (t<P.types.size))) Tryz.checked.prog 5 Tryz.f5 Rows.launchSchedulesSpec Rows.launchSchedulesRow=true:=O6
def cf20:(λ(P:Program) (f:FuncId) (fn:Func) (s:ChangeSpec) (c:OpenClaim)=>(c.ifacesOut == fn.resultTypes.toList.any (P.ifacesRec ·))) Tryz.checked.prog 5 Tryz.f5 Rows.launchSchedulesSpec Rows.launchSchedulesRow=true:=O6
def cf21:(λ(P:Program) (f:FuncId) (fn:Func) (s:ChangeSpec) (c:OpenClaim)=>(c.loopsOut == fn.resultTypes.toList.any (P.loopsFrom ·))) Tryz.checked.prog 5 Tryz.f5 Rows.launchSchedulesSpec Rows.launchSchedulesRow=true:=O6
def cf22:(λ(P:Program) (f:FuncId) (fn:Func) (s:ChangeSpec) (c:OpenClaim)=>c.plainKeys == P.plainKeys) Tryz.checked.prog 5 Tryz.f5 Rows.launchSchedulesSpec Rows.launchSchedulesRow=true:=O6
def cf23:(λ(P:Program) (f:FuncId) (fn:Func) (s:ChangeSpec) (c:OpenClaim)=>c.shortTexts.isNone) Tryz.checked.prog 5 Tryz.f5 Rows.launchSchedulesSpec Rows.launchSchedulesRow=true:=O6
def cf24:(λ(P:Program) (f:FuncId) (fn:Func) (s:ChangeSpec) (c:OpenClaim)=>P.stopsHeard) Tryz.checked.prog 5 Tryz.f5 Rows.launchSchedulesSpec Rows.launchSchedulesRow=true:=O6
def cf25:(λ(P:Program) (f:FuncId) (fn:Func) (s:ChangeSpec) (c:OpenClaim)=>P.mayEnter) Tryz.checked.prog 5 Tryz.f5 Rows.launchSchedulesSpec Rows.launchSchedulesRow=true:=O6
def cf26:(λ(P:Program) (f:FuncId) (fn:Func) (s:ChangeSpec) (c:OpenClaim)=>c.lifted == P.liftsFinal) Tryz.checked.prog 5 Tryz.f5 Rows.launchSchedulesSpec Rows.launchSchedulesRow=true:=O6
def cf27:(λ(P:Program) (f:FuncId) (fn:Func) (s:ChangeSpec) (c:OpenClaim)=>P.make == some c.make) Tryz.checked.prog 5 Tryz.f5 Rows.launchSchedulesSpec Rows.launchSchedulesRow=true:=O6
def cf28:(λ(P:Program) (f:FuncId) (fn:Func) (s:ChangeSpec) (c:OpenClaim)=>c.kinds == (if c.domain.isEmpty then []else fn.params.toList.map λt=>match P.underlying t with|some (.int k)=>some k|_=>none)) Tryz.checked.prog 5 Tryz.f5 Rows.launchSchedulesSpec Rows.launchSchedulesRow=true:=O6
def cf29:(λ(P:Program) (f:FuncId) (fn:Func) (s:ChangeSpec) (c:OpenClaim)=>c.pinned == c.pinnedBy) Tryz.checked.prog 5 Tryz.f5 Rows.launchSchedulesSpec Rows.launchSchedulesRow=true:=O6
def cf30:(λ(P:Program) (f:FuncId) (fn:Func) (s:ChangeSpec) (c:OpenClaim)=>(c.veiled == (fn.params.toList ++ s.plain.varTypes P ++ fn.resultTypes.toList).any (P.veiledRec ·))) Tryz.checked.prog 5 Tryz.f5 Rows.launchSchedulesSpec Rows.launchSchedulesRow=true:=O6
def cf31:(λ(P:Program) (f:FuncId) (fn:Func) (s:ChangeSpec) (c:OpenClaim)=>c.veiledFits P fn.params.toList (fn.params.toList ++ s.plain.varTypes P ++ fn.resultTypes.toList)) Tryz.checked.prog 5 Tryz.f5 Rows.launchSchedulesSpec Rows.launchSchedulesRow=true:=O6
set_option maxRecDepth 100000 in
def closed:joinedFacts Tryz.checked.prog 5 Tryz.f5 Rows.launchSchedulesSpec Rows.launchSchedulesRow=true:=(Lt (Lt (Lt (Lt (Lt (Lt (Lt (Lt (Lt (Lt (Lt (Lt (Lt (Lt (Lt (Lt (Lt (Lt (Lt (Lt (Lt (Lt (Lt (Lt (Lt (Lt (Lt (Lt (Lt (Lt (Lt cf0 cf1) cf2) cf3) cf4) cf5) cf6) cf7) cf8) cf9) cf10) cf11) cf12) cf13) cf14) cf15) cf16) cf17) cf18) cf19) cf20) cf21) cf22) cf23) cf24) cf25) cf26) cf27) cf28) cf29) cf30) cf31)
end Go.Proofs.YtlnoheikolgejaaGreat
namespace Go.Sky
variable {P:Program} {N:Nat} {sc:Nat->Prop} {env env':Pt} {H H':Hp} {Q Q':Exit->Act->World->Prop} {M:Nat->Prop}
@[reducible] def lk2 {α:Type} : List (Nat×α)->Nat->Option α
 | [],_=>none
 | (k,v)::r,n=>match Nat.beq k n with
  | true=>some v
  | false=>lk2 r n
theorem Zzg{α:Type} : ∀(e:List (Nat×α)) (n:Nat),lk2 e n=lk e n
 | [],_=>rfl
 | (k,v)::r,n=>by unfold lk2 lk;cases Nat.beq k n<;>simp [Zzg r n]
@[reducible] def ev2 (e:Pt):Operand->Option Value
 | .tmp t=>lk2 e t
 | .const v=>some v
 | .global g=>some (.pointer (some ⟨g,0,none⟩))
 | .func f=>some (.func (.func f) #[] #[])
theorem ev2_eq(e:Pt)(x:Operand):ev2 e x=ev e x:=by cases x<;>simp [ev2,ev,Zzg]
@[reducible] def nth {α:Type} : List α->Nat->Option α
 | [],_=>none
 | x::r,n=>match n with
  | 0=>some x
  | n+1=>nth r n
theorem Zy7{α:Type} : ∀(l:List α) (n:Nat),nth l n=l[n]?
 | [],n=>by rfl
 | x::r,0=>by rfl
 | x::r,n+1=>by simp [nth,Zy7 r n]
@[reducible] def ltb (a b:Nat):Bool:=match Nat.ble b a with
 | true=>false
 | false=>true
theorem Nu{a b:Nat}(h:ltb a b=true):Nat.blt a b=true:=by
 cases hb:Nat.ble b a with
 | true=>grind
 | false=>
  have c:¬b<=a:=λd=>by grind [Nat.ble_eq_true_of_le]
  simp_all
@[reducible] def neb (a b:Nat):Bool:=match Nat.beq a b with
 | true=>false
 | false=>true
theorem Zcm{a b:Nat}(h:neb a b=true):a≠b:=λe=>by grind [Nat.beq_refl]
class Som {α:Type} (a:Option α) (b:outParam α):Prop where h:a=some b
instance {α:Type} {b:α} : Som (some b) b:=⟨rfl⟩
class TB (a:Bool):Prop where h:a=true
instance:TB true:=⟨rfl⟩
def Som.e{x:Operand}{v:Value}(h:Som (ev2 env x) v):ev env x=some v:=(ev2_eq env x).symm.trans h.h
def Som.l{α:Type}{e:List (Nat×α)}{n:Nat}{v:α}(h:Som (lk2 e n) v):lk e n=some v:=(Zzg e n).symm.trans h.h
theorem Som.n{α:Type}{l:List α}{n:Nat}{v:α}(h:Som (nth l n) v):l.toArray[n]? = some v:=by have:=(Zy7 l n).symm.trans h.h;simpa using this
class AndO (s q:Prop) (r:outParam Prop):Prop where h:r->s/\q
instance (priority:=low) {s q:Prop} : AndO s q (s/\q):=⟨id⟩
instance {q:Prop} : AndO True q q:=⟨λh=>⟨aA,h⟩⟩
class Und (P:Program) (t:TypeId) (d:outParam TypeDesc):Prop where h:P.underlying t=some d
class Siz (P:Program) (t:TypeId) (k:outParam Nat):Prop where h:∀w,(sizeOf t).run P w= .ok k w
class Agg (P:Program) (t:TypeId) (b:outParam Bool):Prop where h:∀w,(isAgg t).run P w= .ok b w
class EncT {α:Type} (P:Program) (t:TypeId) (k:Nat) (enc:α->Value):Prop where h:Enc P t k enc
class RdI (P:Program) (H:Hp) (v:Value) (i:outParam Nat) {α:outParam Type} (k:outParam Nat) (enc:outParam (α->Value)) (xs:outParam (List α)):Prop where
 h:∃p,lk H i=some p/\Rd p k enc v xs
instance {α:Type} {v:Value} {i k:Nat} {enc:α->Value} {xs:List α} : RdI P ((i,Ym k enc v xs)::H) v i k enc xs:=⟨_,Yt _ _ _,Zm⟩
instance {α:Type} {v:Value} {i k:Nat} {enc:α->Value} {xs:List α} {e:TypeId} [h:EncT P e k enc]:RdI P ((i,Oc k e enc v xs)::H) v i k enc xs:=⟨_,Yt _ _ _,Zo h.h⟩
instance {β:Type} {v:Value} {i k:Nat} {enc:β->Value} {q:β->Pc} {zs:List β} : RdI P ((i,Qb k enc q v zs)::H) v i k enc zs:=⟨_,Yt _ _ _,Ze⟩
instance (priority:=low) {α:Type} {v:Value} {i j k:Nat} {p:Pc} {enc:α->Value} {xs:List α} [h:RdI P H v i k enc xs] [hn:TB (neb j i)]:RdI P ((j,p)::H) v i k enc xs:=
 ⟨by obtain⟨q,h1,h2⟩:=h.h;exact⟨q,by rw [Yb _ _ (Zcm hn.h)];exact h1,h2⟩⟩
class BxI (H:Hp) (b:Nat) (i:outParam Nat) (t:outParam TypeId) (l:outParam (List Value)):Prop where h:lk H i=some (box b t l.toArray)
instance {b i:Nat} {t:TypeId} {l:List Value} : BxI ((i,box b t l.toArray)::H) b i t l:=⟨Yt _ _ _⟩
instance (priority:=low) {b i j:Nat} {t:TypeId} {p:Pc} {l:List Value} [h:BxI H b i t l] [hn:TB (neb j i)]:BxI ((j,p)::H) b i t l:=⟨by rw [Yb _ _ (Zcm hn.h)];exact h.h⟩
class RxI (H:Hp) (b:Nat) (i:outParam Nat) (t:outParam TypeId) (l:outParam (List Value)):Prop where h:lk H i=some (Hr b t l.toArray)
instance {b i:Nat} {t:TypeId} {l:List Value} : RxI ((i,Hr b t l.toArray)::H) b i t l:=⟨Yt _ _ _⟩
instance (priority:=low) {b i j:Nat} {t:TypeId} {p:Pc} {l:List Value} [h:RxI H b i t l] [hn:TB (neb j i)]:RxI ((j,p)::H) b i t l:=⟨by rw [Yb _ _ (Zcm hn.h)];exact h.h⟩
class DI (P:Program) (N:Nat) (sc:Nat->Prop) (op:Go.Op) (env:Pt) (H:Hp) (v:outParam Value) (s:outParam Prop):Prop where
 h:s->∀{d:Option Tmp} {ty:TypeId} {pos:String} {af:Array Edge} {g:Option (Nat×Bool)},Mk P N sc ⟨d,op,ty,pos,af,g⟩ env H v
section
variable {x y c:Operand} {v u:Value} {t t':TypeId} {k:IntKind} {m n:Int}
instance [h:Som (ev2 env x) v]:DI P N sc (.move x) env H v True:=⟨λ_=>Zbw rfl h.e⟩
instance [h:Som (ev2 env x) v]:DI P N sc (.assign x) env H v True:=⟨λ_=>d_as rfl h.e⟩
instance {i:Nat} {vs:List Value} [h:Som (ev2 env x) (.tuple vs.toArray)] [h2:Som (nth vs i) v]:DI P N sc (.extract x i) env H v True:=⟨λ_=>Zs8 rfl h.e h2.n⟩
instance {ad:Addr} [h:Som (ev2 env x) (.pointer (some ad))]:DI P N sc (.nilCheck x) env H (.pointer (some ad)) True:=⟨λ_=>d_nc rfl h.e⟩
instance {p:Prop} [Decidable p] [h:Som (ev2 env x) (.bool (decide p))]:DI P N sc (.unOp .not t x) env H (.bool (decide (¬p))) True:=⟨λ_=>d_not rfl h.e⟩
instance (priority:=low) {b:Bool} [h:Som (ev2 env x) (.bool b)]:DI P N sc (.unOp .not t x) env H (.bool (!b)) True:=⟨λ_=>Qc rfl h.e⟩
instance (priority:=high) [h:Som (ev2 env x) (.bool true)]:DI P N sc (.unOp .not t x) env H (.bool false) True:=⟨λ_=>Qc rfl h.e⟩
instance (priority:=high) [h:Som (ev2 env x) (.bool false)]:DI P N sc (.unOp .not t x) env H (.bool true) True:=⟨λ_=>Qc rfl h.e⟩
instance [h:Som (ev2 env c) (.bool true)] [h1:Som (ev2 env x) v]:DI P N sc (.pick c x y) env H v True:=⟨λ_=>Aj rfl h.e h1.e⟩
instance [h:Som (ev2 env c) (.bool false)] [h1:Som (ev2 env y) v]:DI P N sc (.pick c x y) env H v True:=⟨λ_=>Ze1 rfl h.e h1.e⟩
instance [h:Som (ev2 env x) (.int k m)] [h1:Som (ev2 env y) (.int k n)]:DI P N sc (.binOp .lss t x y t') env H (.bool (decide (m<n))) True:=⟨λ_=>d_lss rfl h.e h1.e⟩
instance [h:Som (ev2 env x) (.int k m)] [h1:Som (ev2 env y) (.int k n)]:DI P N sc (.binOp .leq t x y t') env H (.bool (decide (m<=n))) True:=⟨λ_=>d_leq rfl h.e h1.e⟩
instance [h:Som (ev2 env x) (.int k m)] [h1:Som (ev2 env y) (.int k n)]:DI P N sc (.binOp .gtr t x y t') env H (.bool (decide (n<m))) True:=⟨λ_=>Zn5 rfl h.e h1.e⟩
instance [h:Som (ev2 env x) (.int k m)] [h1:Som (ev2 env y) (.int k n)]:DI P N sc (.binOp .geq t x y t') env H (.bool (decide (n<=m))) True:=⟨λ_=>d_geq rfl h.e h1.e⟩
instance [h:Som (ev2 env x) (.int k m)] [h1:Som (ev2 env y) (.int k n)]:DI P N sc (.binOp .eql t x y t') env H (.bool (decide (m=n))) True:=⟨λ_=>Bi rfl h.e h1.e⟩
instance [h:Som (ev2 env x) (.int k m)] [h1:Som (ev2 env y) (.int k n)]:DI P N sc (.binOp .neq t x y t') env H (.bool (decide (m≠n))) True:=⟨λ_=>d_neq rfl h.e h1.e⟩
instance {a b:Bool} [h:Som (ev2 env x) (.bool a)] [h1:Som (ev2 env y) (.bool b)] [h2:Und P t .bool]:DI P N sc (.binOp .eql t x y t') env H (.bool (a == b)) True:=⟨λ_=>d_eqb rfl h.e h1.e h2.h⟩
instance {a b:Bool} [h:Som (ev2 env x) (.bool a)] [h1:Som (ev2 env y) (.bool b)] [h2:Und P t .bool]:DI P N sc (.binOp .neq t x y t') env H (.bool (a != b)) True:=⟨λ_=>d_neb rfl h.e h1.e h2.h⟩
instance [h:Som (ev2 env x) (.int .i64 m)] [h1:Som (ev2 env y) (.int .i64 n)]:DI P N sc (.binOp .add t x y t') env H (.int .i64 (m+n)) (-9223372036854775808<=m+n/\m+n<=9223372036854775807):=⟨λs=>d_add rfl h.e h1.e s⟩
instance [h:Som (ev2 env x) (.int .i64 m)] [h1:Som (ev2 env y) (.int .i64 n)]:DI P N sc (.binOp .sub t x y t') env H (.int .i64 (m-n)) (-9223372036854775808<=m-n/\m-n<=9223372036854775807):=⟨λs=>d_sub rfl h.e h1.e s⟩
instance [h:Som (ev2 env x) (.int .i64 m)] [h1:Som (ev2 env y) (.int .i64 n)]:DI P N sc (.binOp .mul t x y t') env H (.int .i64 (m*n)) (-9223372036854775808<=m*n/\m*n<=9223372036854775807):=⟨λs=>d_mul rfl h.e h1.e s⟩
instance {i kk:Nat} {α:Type} {enc:α->Value} {xs:List α} {e:TypeId} [h:Som (ev2 env x) v] [h1:RdI P H v i kk enc xs] [h2:Und P t (.slice e)]:DI P N sc (.call { callee:= .builtin .len,args:=#[x],argTypes:=#[t] }) env H (.int .i64 xs.length) True:=
 ⟨λ_=>by obtain⟨p,h3,h4⟩:=h1.h;exact Ynk rfl h.e h3 h4 h2.h⟩
instance {s:ByteArray} [h:Som (ev2 env x) (.string s)] [h2:Und P t .string]:DI P N sc (.call { callee:= .builtin .len,args:=#[x],argTypes:=#[t] }) env H (.int .i64 s.size) True:=⟨λ_=>d_lens rfl h.e h2.h⟩
end
@[reducible] def eqb (a b:Nat):Bool:=match Nat.beq a b with
 | true=>true
 | false=>false
theorem eqb_eq{a b:Nat}(h:eqb a b=true):a=b:=by grind [Nat.eq_of_beq_eq_true]
@[reducible] def lenq {α:Type} : List α->Nat->Bool
 | [],n=>match n with
  | 0=>true
  | _+1=>false
 | _::r,n=>match n with
  | 0=>false
  | n+1=>lenq r n
theorem Zhp{α:Type} : ∀{l:List α} {n:Nat},lenq l n=true->l.length=n
 | [],0,_=>rfl
 | [],n+1,h=>O4
 | _::r,0,h=>O4
 | _::r,n+1,h=>by have:=Zhp (by simpa [lenq]using h);simp [this]
@[reducible] def fit0 {α β:Type} : List α->List β->Bool
 | _,[]=>true
 | l,_::vs=>match l with
  | []=>false
  | _::r=>fit0 r vs
@[reducible] def fits {α β:Type} : List α->Nat->List β->Bool
 | [],j,a=>match j with
  | 0=>fit0 ([]:List α) a
  | _+1=>false
 | x::r,j,a=>match j with
  | 0=>fit0 (x::r) a
  | j+1=>fits r j a
theorem Zst{α β:Type} : ∀{vs:List β} {l:List α},fit0 l vs=true->vs.length<=l.length
 | [],_,_=>O5
 | _::vs,[],h=>O4
 | _::vs,_::r,h=>by simp_all [Zst]
theorem Ydi{α β:Type} : ∀{l:List α} {j:Nat} {vs:List β},fits l j vs=true->j+vs.length<=l.length
 | [],0,vs,h=>by have:=Zst O;omega
 | [],j+1,vs,h=>O4
 | x::r,0,vs,h=>by have:=Zst O;omega
 | x::r,j+1,vs,h=>by have:=Ydi (l:=r) O;grind
@[reducible] def seg {α:Type} : List α->Nat->Nat->List α
 | [],_,_=>[]
 | x::r,j,k=>match j with
  | j+1=>seg r j k
  | 0=>match k with
   | 0=>[]
   | k+1=>x::seg r 0 k
theorem Zks{α:Type} : ∀(l:List α) (j k n:Nat) (u:α),(seg l j k)[n]? = some u->l[j+n]? = some u
 | [],_,_,_,_,h=>O4
 | x::r,j+1,k,n,u,h=>by have:=Zks r j k n u (by simpa [seg]using h);rw [show j+1+n=(j+n)+1 by omega];simpa using this
 | x::r,0,0,n,u,h=>O4
 | x::r,0,k+1,0,u,h=>O4
 | x::r,0,k+1,n+1,u,h=>by have:=Zks r 0 k n u O4;grind
class LEv {α:Type} (l:List α) (r:outParam (List α)):Prop where h:l=r
instance {α:Type} : LEv ([]:List α) []:=⟨rfl⟩
instance {α:Type} {a:α} {l r:List α} [h:LEv l r]:LEv (a::l) (a::r):=⟨by rw [h.h]⟩
class AddN (a b:Nat) (c:outParam Nat):Prop where h:a+b=c
instance (priority:=low) {a b:Nat} : AddN a b (a+b):=⟨rfl⟩
instance {b:Nat} : AddN 0 b b:=⟨cJ b⟩
instance {a:Nat} : AddN a 0 a:=⟨rfl⟩
class Df (α:Type) (d:outParam α):Prop where t:True
instance:Df Int 0:=⟨aA⟩
instance:Df Nat 0:=⟨aA⟩
section
variable {x y:Operand} {v u:Value} {t tb:TypeId} {b j i k f:Nat} {l vs ws:List Value}
instance [h:Som (ev2 env x) (.pointer (some ⟨b,j,none⟩))] [h1:Agg P t false] [h2:BxI H b i tb l] [h3:Som (nth l j) v]:DI P N sc (.load t x) env H v True:=⟨λ_=>Zoz _ rfl h.e h2.h h1.h h3.n⟩
instance [h:Som (ev2 env x) (.pointer (some ⟨b,j,none⟩))] [h1:Agg P t true] [h2:BxI H b i tb l] [h4:Siz P t k] [h3:LEv (seg l j k) vs] [h5:TB (lenq vs k)]:DI P N sc (.load t x) env H (.agg vs.toArray) True:=
 ⟨λ_=>Yd3 rfl h.e h2.h h1.h h4.h (Zhp h5.h) (λn u hu=>by rw [<-h3.h]at hu;simpa using Zks l j k n u hu)⟩
instance [h:Som (ev2 env x) (.pointer (some ⟨b,j,none⟩))] [h1:Agg P t false] [h2:RxI H b i tb l] [h3:Som (nth l j) v]:DI P N sc (.load t x) env H v True:=⟨λ_=>d_lr rfl h.e h2.h h1.h h3.n⟩
instance [h:Som (ev2 env x) (.pointer (some ⟨b,j,none⟩))] [h1:Agg P t true] [h2:RxI H b i tb l] [h4:Siz P t k] [h3:LEv (seg l j k) vs] [h5:TB (lenq vs k)]:DI P N sc (.load t x) env H (.agg vs.toArray) True:=
 ⟨λ_=>d_lra rfl h.e h2.h h1.h h4.h (Zhp h5.h) (λn u hu=>by rw [<-h3.h]at hu;simpa using Zks l j k n u hu)⟩
instance {fs:List Field} {c q bo:Nat} {nm tag pk:String} {ft:TypeId} {em:Bool} [h:Som (ev2 env x) (.pointer (some ⟨b,j,none⟩))] [h1:Und P t (.struct fs.toArray)] [h2:Som (nth fs f) ⟨nm,ft,q,em,tag,pk,bo⟩] [h3:Siz P ft k] [h5:TB (neb k 0)] [h4:AddN j q c] :
  DI P N sc (.fieldAddr t x f) env H (.pointer (some ⟨b,c,none⟩)) True:=⟨λ_=>by
 obtain⟨k,rfl⟩:=Nat.exists_eq_succ_of_ne_zero (Zcm h5.h);exact Zz0 rfl h.e h1.h h2.n h3.h rfl h4.h⟩
instance {α:Type} {enc:α->Value} {xs:List α} {e:TypeId} {kd:IntKind} {n:Nat} [h:Som (ev2 env x) v] [h1:Som (ev2 env y) (.int kd (n:Int))] [h2:RdI P H v i k enc xs] [h3:Und P t (.slice e)] [h4:Siz P e k] :
  DI P N sc (.indexAddr t x y) env H (.pointer (some (ead v n k))) (n<xs.length):=⟨λs=>by obtain⟨p,h5,h6⟩:=h2.h;exact Zv _ _ rfl h.e h1.e h5 h6 h3.h h4.h rfl s⟩
instance {α:Type} {enc:α->Value} {xs:List α} {e:TypeId} {kd:IntKind} {n:Nat} [h:Som (ev2 env x) v] [h1:Som (ev2 env y) (.int kd (@OfNat.ofNat Int n (@instOfNat n)))] [hl:TB (eqb n n)] [h2:RdI P H v i k enc xs] [h3:Und P t (.slice e)] [h4:Siz P e k] :
  DI P N sc (.indexAddr t x y) env H (.pointer (some (ead v (@OfNat.ofNat Nat n (instOfNatNat n)) k))) (@OfNat.ofNat Nat n (instOfNatNat n)<xs.length):=⟨λs=>by obtain⟨p,h5,h6⟩:=h2.h;exact Zv _ _ rfl h.e h1.e h5 h6 h3.h h4.h rfl s⟩
instance {α:Type} {enc:α->Value} {xs:List α} {n:Nat} {d0:α} [h:Som (ev2 env x) (.pointer (some (ead v n k)))] [h2:RdI P H v i k enc xs] [h3:EncT P t k enc] [h4:Df α d0] :
  DI P N sc (.load t x) env H (enc (xs.getD n d0)) (n<xs.length):=⟨λs=>by obtain⟨p,h5,h6⟩:=h2.h;exact Xd _ d0 rfl h.e h5 h6 h3.h s⟩
instance {fs:List Field} {q bo:Nat} {nm tag pk:String} {ft:TypeId} {em:Bool} [h:Som (ev2 env x) (.agg l.toArray)] [h1:Und P t (.struct fs.toArray)] [h2:Som (nth fs f) ⟨nm,ft,q,em,tag,pk,bo⟩] [h3:Agg P ft false] [h4:Som (nth l q) v] :
  DI P N sc (.field t x f) env H v True:=⟨λ_=>d_fld rfl h.e h1.h h2.n h3.h h4.n⟩
end
class Adv (n:Nat) (p:Prop) (q:outParam Prop):Prop where h:q->p
def go(n:Nat){p q:Prop}[h:Adv n p q](k:q):p:=h.h k
@[reducible] def dsto (l:List Oper) (j:Nat):Option Nat:=match nth l j with
 | some o=>o.dst
 | none=>none
theorem Cm{l:List Oper}{j e:Nat}(h:Som (dsto l j) e):(l.toArray[j]?).bind (·.dst)=some e:=by
 have h:=h.h;unfold dsto at h;rw [Zy7]at h;simp only [List.getElem?_toArray];cases hb:l[j]? with
 | none=>rw [hb]at h;cases h
 | some o=>rw [hb]at h;exact h
section
variable {n:Nat} {q r s:Prop} {c x y:Code} {id:Nat} {l:List Oper} {ops:Array Oper} {rest:List Oper} {d j t:Nat} {op:Go.Op} {ty:TypeId} {pos:String} {af:Array Edge} {v:Value} {e:Exit} {b:Bool}
instance {p:Prop} : Adv 0 p p:=⟨λk=>k⟩
instance [h:Adv n (E P N sc x (Exit.then (y.wp P Q) Q) env H) q]:Adv (n+1) (E P N sc (.seq x y) Q env H) q:=⟨λk=>e_seq (h.h k)⟩
instance [h:Adv n (L P N sc l.toArray l Q env H) q]:Adv (n+1) (E P N sc (.region id l.toArray false) Q env H) q:=⟨λk=>e_reg (h.h k)⟩
instance [h:Adv n (X N sc .normal Q env H) q]:Adv (n+1) (E P N sc .skip Q env H) q:=⟨λk=>e_skip (h.h k)⟩
instance [h:Adv n (E P N sc c (Exit.inBlock id Q) env H) q]:Adv (n+1) (E P N sc (.block id c) Q env H) q:=⟨λk=>Yst (h.h k)⟩
instance [h:Adv n (X N sc (.exit id) Q env H) q]:Adv (n+1) (E P N sc (.exit id) Q env H) q:=⟨λk=>e_exit (h.h k)⟩
instance [h:Adv n (X N sc .ret Q env H) q]:Adv (n+1) (E P N sc .ret Q env H) q:=⟨λk=>e_ret (h.h k)⟩
instance {o:Operand} [h1:Som (ev2 env o) (.bool true)] [h:Adv n (E P N sc x Q env H) q]:Adv (n+1) (E P N sc (.cond o x y) Q env H) q:=⟨λk=>Ysr h1.e (h.h k)⟩
instance {o:Operand} [h1:Som (ev2 env o) (.bool false)] [h:Adv n (E P N sc y Q env H) q]:Adv (n+1) (E P N sc (.cond o x y) Q env H) q:=⟨λk=>Yss h1.e (h.h k)⟩
instance [h:Adv n (E P N sc y Q env H) q]:Adv (n+1) (X N sc .normal (Exit.then (y.wp P Q) Q) env H) q:=⟨λk=>x_then (h.h k)⟩
instance {K:Act->World->Prop} [h:Adv n (X N sc .ret Q env H) q]:Adv (n+1) (X N sc .ret (Exit.then K Q) env H) q:=⟨λk=>x_ret (h.h k)⟩
instance {K:Act->World->Prop} [h:Adv n (X N sc (.exit id) Q env H) q]:Adv (n+1) (X N sc (.exit id) (Exit.then K Q) env H) q:=⟨λk=>x_exit (h.h k)⟩
instance [h:Adv n (X N sc .normal Q env H) q]:Adv (n+1) (X N sc .normal (Exit.inBlock id Q) env H) q:=⟨λk=>x_bn (h.h k)⟩
instance [h:Adv n (X N sc .ret Q env H) q]:Adv (n+1) (X N sc .ret (Exit.inBlock id Q) env H) q:=⟨λk=>x_br (h.h k)⟩
instance [h:Adv n (X N sc .normal Q env H) q]:Adv (n+1) (X N sc (.exit id) (Exit.inBlock id Q) env H) q:=⟨λk=>x_be (h.h k)⟩
instance (priority:=low) {id':Nat} [hn:TB (neb id' id)] [h:Adv n (X N sc (.exit id') Q env H) q]:Adv (n+1) (X N sc (.exit id') (Exit.inBlock id Q) env H) q:=⟨λk=>x_bo (Zcm hn.h) (h.h k)⟩
instance [h:Adv n (X N sc .normal Q env H) q]:Adv (n+1) (L P N sc ops [] Q env H) q:=⟨λk=>l_nil (h.h k)⟩
instance [h1:DI P N sc op env H v s] [h2:TB (ltb d N)] [h:Adv n (L P N sc ops rest Q ((d,v)::env) H) q] [h3:AndO s q r]:Adv (n+1) (L P N sc ops (⟨some d,op,ty,pos,af,none⟩::rest) Q env H) r:=
 ⟨λk=>dt (h1.h (h3.h k).1) (h.h (h3.h k).2) (Nu h2.h)⟩
instance [hj:Som (dsto l j) t] [hg:Som (lk2 env t) (.bool b)] [h4:TB (ltb t N)] [h1:DI P N sc op env H v s] [h2:TB (ltb d N)] [h:Adv n (L P N sc l.toArray rest Q ((d,v)::env) H) q] [h3:AndO s q r]:Adv (n+1) (L P N sc l.toArray (⟨some d,op,ty,pos,af,some (j,b)⟩::rest) Q env H) r:=
 ⟨λk=>Bt (h1.h (h3.h k).1) (Cm hj) hg.l (h.h (h3.h k).2) (Nu h4.h) (Nu h2.h)⟩
instance [hj:Som (dsto l j) t] [hg:Som (lk2 env t) (.bool false)] [h4:TB (ltb t N)] [h2:TB (ltb d N)] [h:Adv n (L P N sc l.toArray rest Q ((d,undef)::env) H) q]:Adv (n+1) (L P N sc l.toArray (⟨some d,op,ty,pos,af,some (j,true)⟩::rest) Q env H) q:=
 ⟨λk=>gsk (Cm hj) hg.l rfl (Nu h4.h) (Nu h2.h) (h.h k)⟩
instance [hj:Som (dsto l j) t] [hg:Som (lk2 env t) (.bool true)] [h4:TB (ltb t N)] [h2:TB (ltb d N)] [h:Adv n (L P N sc l.toArray rest Q ((d,undef)::env) H) q]:Adv (n+1) (L P N sc l.toArray (⟨some d,op,ty,pos,af,some (j,false)⟩::rest) Q env H) q:=
 ⟨λk=>gsk (Cm hj) hg.l rfl (Nu h4.h) (Nu h2.h) (h.h k)⟩
instance [hj:Som (dsto l j) t] [hg:Som (lk2 env t) undef] [h2:TB (ltb d N)] [h:Adv n (L P N sc l.toArray rest Q ((d,undef)::env) H) q]:Adv (n+1) (L P N sc l.toArray (⟨some d,op,ty,pos,af,some (j,b)⟩::rest) Q env H) q:=
 ⟨λk=>gsku (Cm hj) hg.l (Nu h2.h) (h.h k)⟩
end
end Go.Sky

