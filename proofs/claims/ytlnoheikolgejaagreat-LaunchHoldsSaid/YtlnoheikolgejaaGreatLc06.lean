/- Rules, arithmetic and contracts: part 7. No conditions but those that each theorem names. -/
import Derived.Test.YtlnoheikolgejaaGreatLc05
set_option linter.all false
namespace Go.Sky
variable{x lo:Rat}{xs p o c r rest before q z:List Int}{a b m:R2}{y ov d:Int}{t i M N fuel:Nat}{ls cs:List (SL×List Int)}{ds:List (List Int)}
theorem Yfw(p:List Int)(x:Rat)(h:Zj p x≠0):∃δ:Rat,0<δ/\∀y,x-δ<=y->y<=x->Es (Zj p y)=Es (Zj p x):=by
 obtain⟨L,v,j⟩:=Br (x-1) x p;obtain⟨δ,g,k,n⟩:=Gh (show(0)<1 by rfl) (show 0<L+1 by grind) (show 0<(if 0<Zj p x then Zj p x else -Zj p x)/2 by grind);refine⟨δ,g,λy s u=>?_⟩;have l:=j y x O4 O4 O5;have b:=aG (a:=L) (b:=δ-(x-y)) O4 O4;rcases Pm (Zj p x)with⟨e,f⟩|⟨e,f⟩|⟨e,f⟩
 .grind [Yaw]
 .grind [Zpc]
 grind
theorem rsg_1(h:Es x=1):0<x:=by grind [Pm]
theorem Zqt(h:Es x=-1):x<0:=by
 rcases Pm x with⟨e,f⟩|⟨e,f⟩|⟨e,f⟩
 all_goals omega
def Ygs(p:List Int)(a b:Rat):Prop:=∃x,a<=x/\x<=b/\Zj p x<0
theorem Yml  {F:Nat} (hx:Tr xs) (h0:xs≠[]) (hC:Za5 F xs) {a b σ:Rat} (hσ:σ≠0) (a0:a<b)
  (f:∀x,a<=x->x<b->∃δ:Rat,0<δ/\∀y,x<y->y<=x+δ->y<=b->0<σ*Zj (sqf F xs) y) :
  vch F xs a-vch F xs b<=(if Zj (sqf F xs) b=0 then 1 else 0):=by
 obtain⟨h,h1,R⟩:=Znw hx h0 hC a b;have V:∀x,a<=x->x<b->0<=σ*Zj (sqf F xs) x:=λx ha hb=>by
  rcases(show 0<=σ*Zj (sqf F xs) x\/σ*Zj (sqf F xs) x<0 by grind)with q|q
  .omega
  .exfalso;have Y:Zj (sqf F xs) x≠0:=λe=>O10;obtain⟨δ,d1,D⟩:=f x ha hb;obtain⟨ε,e1,Q⟩:=Zpr (sqf F xs) x Y;obtain⟨y,I,y2,y3,y4⟩:∃y,x<y/\y<=x+δ/\y<=x+ε/\y<=b:=by
    rcases(show δ<=ε\/ε<=δ by grind)with w|w
    all_goals grind
   have Z:=D y I y2 y4;have j:=Q y I y3;rcases Pm (Zj (sqf F xs) x)with⟨G,g⟩|⟨G,g⟩|⟨G,g⟩
   .rw [g]at j;have H:=rsg_1 j;rcases(show σ<0\/0<σ by grind)with s|s
    .have:=bC (a:=-σ) (b:=Zj (sqf F xs) y) O4 H;grind
    grind [Rat.mul_pos]
   .rw [g]at j;have H:=Zqt j;rcases(show σ<0\/0<σ by grind)with s|s
    .have:=bC (a:=-σ) (b:=-Zj (sqf F xs) x) O4 O4;grind
    .have:=bC (a:=σ) (b:=-Zj (sqf F xs) y) s O4;grind
   grind
 have a3:0<=σ*Zj (sqf F xs) b:=by
  rcases(show 0<=σ*Zj (sqf F xs) b\/σ*Zj (sqf F xs) b<0 by grind)with q|q
  .omega
  .exfalso;have Y:Zj (sqf F xs) b≠0:=λe=>O10;obtain⟨ε,e1,Q⟩:=Yfw (sqf F xs) b Y;obtain⟨y,I,y2,y3⟩:∃y,a<=y/\y<b/\b-ε<=y:=by grind
   obtain⟨δ,d1,D⟩:=f y I y2;obtain⟨z,z1,z2,l⟩:∃z,y<z/\z<=y+δ/\z<=b:=by grind
   have Z:=D z z1 z2 l;have j:=Q z O4 l;rcases Pm (Zj (sqf F xs) b)with⟨G,g⟩|⟨G,g⟩|⟨G,g⟩
   .rw [g]at j;have H:=rsg_1 j;rcases(show σ<0\/0<σ by grind)with s|s
    .have:=bC (a:=-σ) (b:=Zj (sqf F xs) z) O4 H;grind
    grind [Rat.mul_pos]
   .rw [g]at j;have H:=Zqt j;rcases(show σ<0\/0<σ by grind)with s|s
    .have:=bC (a:=-σ) (b:=-Zj (sqf F xs) b) O4 O4;grind
    .have:=bC (a:=σ) (b:=-Zj (sqf F xs) z) s O4;grind
   grind
 have k:∀u v,a<=u->u<=v->v<=b->v-u<=h/2->vch F xs u-vch F xs v<=(if v=b/\Zj (sqf F xs) b=0 then 1 else 0):=λu v B c2 P c4=>by
  have e:=R u v B c2 P O4;have e':vch F xs u-vch F xs v=crs (Zj (sqf F xs)) u v:=e;rw [e'];unfold crs;by_cases S:Zj (sqf F xs) u≠0/\Zj (sqf F xs) u*Zj (sqf F xs) v<=0
  .rw [aP S];have W:u<b:=by
    rcases(show u<b\/u=b by grind)with q|q
    .omega
    .exfalso;have:v=u:=O4;subst this;have:=Fm S.1;grind
   have g1:=V u B W;have g2:0<=σ*Zj (sqf F xs) v:=by grind
   have a4:Zj (sqf F xs) v=0:=by
    rcases(show Zj (sqf F xs) v=0\/Zj (sqf F xs) v≠0 by grind)with q|q
    .omega
    .exfalso;have m1:=aG g1 g2;have m2:=Fm hσ;have m3:(σ*σ)*(Zj (sqf F xs) u*Zj (sqf F xs) v)>=0:=O4;rcases(show Zj (sqf F xs) u*Zj (sqf F xs) v<0\/Zj (sqf F xs) u*Zj (sqf F xs) v=0 by grind)with w|w
     .have:=bC m2 (show 0 < -(Zj (sqf F xs) u*Zj (sqf F xs) v) by grind);grind
     grind
   rcases(show v<b\/v=b by grind)with q|q
   .exfalso;obtain⟨δ,d1,D⟩:=f v O4 q;obtain⟨z,z1,z2,l,z4⟩:∃z,v<z/\z<=v+δ/\z<=b/\z-v<=h/2:=by
     rcases(show δ<=h/2\/h/2<=δ by grind)with w|w
     .rcases(show v+δ<=b\/b<=v+δ by grind)with t|t
      all_goals grind
     .rcases(show v+h/2<=b\/b<=v+h/2 by grind)with t|t
      all_goals grind
    have Z:=D z z1 z2 l;have a1:=R u z B O4 l O4;have a2:=R v z O4 O4 l O4;have r1:crs (Zj (sqf F xs)) u z=0:=by
     unfold crs;rw [aJ];rintro⟨w1,w2⟩;have g3:0<σ*Zj (sqf F xs) u:=by grind
     have m1:=bC g3 Z;have m2:=Fm hσ;have m3:0<(σ*σ)*(Zj (sqf F xs) u*Zj (sqf F xs) z):=O4;have m4:=aG (a:=σ*σ) (b:=-(Zj (sqf F xs) u*Zj (sqf F xs) z)) O4 O4;grind
    have r2:crs (Zj (sqf F xs)) v z=0:=by unfold crs;all_goals grind
    have r3:crs (Zj (sqf F xs)) u v=1:=by unfold crs;grind
    omega
   grind
  .rw [aJ S]
   all_goals omega
 have a5:∀n:Nat,∀u,a<=u->u<=b->b-u<=(n:Rat)*(h/2)->vch F xs u-vch F xs b<=(if Zj (sqf F xs) b=0 then 1 else 0):=λn=>by
  induction n with
  | zero=>
   grind
  | succ n ih=>
   intro u B c2 P;push_cast at P;by_cases hy:b-u<=h/2
   .grind
   .have i1:=ih (u+h/2) O4 O4 O4;have i2:=k u (u+h/2) B O4 O4 O4;rw [aJ (λe=>O4)]at i2;omega
 obtain⟨n,hn⟩:=Zh6 (b-a) (show 0<h/2 by grind);grind
structure Odp (F n:Nat) (p o:List Int):Prop where
 tr:Tr p
 ne:p≠[]
 sz:Sz n p
 hn:n<=220
 hl:p.length<=11
 hF:p.length<=F+1
 eq:o=Bg F p.length (Xg p)
 otr:Tr o
 one:o≠[]
 ok:Za5 F o
theorem Odp.sq{F n:Nat}(h:Odp F n p o):∃(c d:Int) (B:List Int),c≠0/\d≠0/\∀x:Rat,(d:Rat)*Zj p x=(c:Rat)*(Zj o x*(Zj B x*Zj B x)):=by have g:=Dp.start h.tr h.ne;obtain⟨⟨B,f⟩,-⟩:=Ec h.tr h.ne h.sz h.hn h.hl h.hF p.length _ g (by rw [Pt h.tr];omega);rw [<-h.eq]at f;obtain⟨c,d,j,k,e⟩:=Zgm ((Hk _).trans (Qm h.tr));exact⟨c,d,B,j,k,λx=>by rw [<-f x];exact(e x).symm⟩
theorem Odp.sqf{F n:Nat}(h:Odp F n p o):Go.Sky.sqf F o=Xg o:=by
 have g:=Dp.start h.tr h.ne;have e:=(g.ok h.tr h.ne h.sz h.hn h.hl h.hF).2;have f:Da F p:=by unfold Da at e ⊢;rwa [g.2.2.1]at e
 obtain⟨-,j⟩:=Ec h.tr h.ne h.sz h.hn h.hl h.hF p.length _ g (by rw [Pt h.tr];omega);rw [<-h.eq]at j;rw [Cf g.2.2.1]at j;exact(Zve h.tr h.ne h.sz h.hn h.hl h.hF h.otr h.one h.ok.1.2.2.1 f j).2
theorem Odp.srt{F n:Nat}(h:Odp F n p o):∃c d:Int,c≠0/\d≠0/\∀x:Rat,(c:Rat)*Zj (Go.Sky.sqf F o) x=(d:Rat)*Zj o x:=by rw [h.sqf];exact Zgm ((Hk _).trans (Qm h.otr))
theorem Odp.zero{F n:Nat}(h:Odp F n p o)(x:Rat):Zj (Go.Sky.sqf F o) x=0↔Zj o x=0:=by obtain⟨c,d,f,g,e⟩:=h.srt;grind [Rat.mul_eq_zero,Oj]
theorem Odp.nz{F n:Nat}(h:Odp F n p o)(j:Zj p x≠0):Zj o x≠0:=λz=>by obtain⟨c,d,B,f,g,e⟩:=h.sq;grind [Rat.mul_eq_zero,Oj]
theorem Odp.opp{F n:Nat}(h:Odp F n p o){y:Rat}(j:Zj p x*Zj p y<0):Zj o x*Zj o y<0/\Zj (Go.Sky.sqf F o) x*Zj (Go.Sky.sqf F o) y<0:=by obtain⟨c,d,B,s,u,e⟩:=h.sq;have v:=Zg3 (Oj s) (Oj u) (e x).symm (e y).symm j;have l:=Ykk v;obtain⟨w,D,f,g,k⟩:=h.srt;exact⟨l,Zg3 (Oj f) (Oj g) (k x) (k y) l⟩
theorem Odp.sem{F n:Nat}(h:Odp F n p o){a b:Rat}(j:a<b):(Dl p.length p a<0\/Zau F o a b)↔Ygs p a b:=by
 have H:=Yky h.tr h.ne h.sz h.hn h.hl h.hF h.eq h.otr h.one h.ok j;constructor
 .rintro(k|k)
  .obtain⟨δ,I,s⟩:=Zaa p.length p a (aF _);have r:=Ztj p.length p a;have hm:Dl p.length p a=-1:=O;rcases(show a+δ<=b\/b<=a+δ by grind)with q|q
   .exact⟨a+δ,O4,q,Zqt O4⟩
   .exact⟨b,O4,O5,Zqt O4⟩
  .rcases Classical.em (Ygs p a b)with q|q
   .omega
   .exfalso;have a0:∀x,a<=x->x<=b->0<=Zj p x:=λx u v=>by
     rcases(show 0<=Zj p x\/Zj p x<0 by grind)with w|w
     .omega
     .exact absurd ⟨x,u,v,w⟩ q
    have g:∀x,a<=x->x<b->∃δ:Rat,0<δ/\∀y,x<y->y<=x+δ->y<=b->0<Zj p y:=λx u v=>by obtain⟨δ,I,s⟩:=Zaa p.length p x (aF _);have r:=Ztj p.length p x;have r0:=Zh7 p.length p x h.tr h.ne (aF _);grind [Pm,r0]
    obtain⟨δ,I,s⟩:=g a O5 j;obtain⟨z,z1,z2,z3⟩:∃z,a<z/\z<=a+δ/\z<=b:=by grind
    have hz:=s z z1 z2 z3;have hσ:Zj (Go.Sky.sqf F o) z≠0:=λe=>h.nz (x:=z) O4 ((h.zero z).1 e);have hf:=Yml h.otr h.one h.ok (σ:=Zj (Go.Sky.sqf F o) z) hσ j (λx u v=>by
     obtain⟨ε,W,Y⟩:=g x u v;refine⟨ε,W,λy R S V=>?_⟩;have hy:=Y y R S V;have a1:Zj (Go.Sky.sqf F o) y≠0:=λe=>h.nz (x:=y) O4 ((h.zero y).1 e);rcases(show 0<Zj (Go.Sky.sqf F o) z*Zj (Go.Sky.sqf F o) y\/Zj (Go.Sky.sqf F o) z*Zj (Go.Sky.sqf F o) y<0\/Zj (Go.Sky.sqf F o) z*Zj (Go.Sky.sqf F o) y=0 by grind)with w|w|w
     .omega
     .exfalso;obtain⟨c,d,B,Z,hd,e⟩:=h.sq;obtain⟨c',d',D,G,P⟩:=h.srt;have w1:Zj o z*Zj o y<0:=Zg3 (Oj G) (Oj D) (P z).symm (P y).symm w;have p1:=bC hz hy;have Q:((d:Rat)*(d:Rat))*(Zj p z*Zj p y)=((c:Rat)*(c:Rat))*((Zj o z*Zj o y)*((Zj B z*Zj B y)*(Zj B z*Zj B y))):=by grind
      have l:=bC (Fm (Oj hd)) p1;have q3:0<=(Zj B z*Zj B y)*(Zj B z*Zj B y):=by grind [Rat.le_of_lt,Fm]
      have q4:=aG (cZ (Fm (Oj Z))) (aG (show 0<=-(Zj o z*Zj o y) by grind) q3);grind
     grind)
    unfold Zau at k;by_cases f:Zj o b=0
    .grind
    .rw [aJ f]at k;rw [aJ (λe=>f ((h.zero b).1 e))]at hf;omega
 .rintro⟨x,x1,x2,x3⟩;rcases(show x=a\/x=b\/(a<x/\x<b) by grind)with q|q|⟨Q,l⟩
  .grind
  .grind
  .have r:=Ztj p.length p a;have r0:=Zh7 p.length p a h.tr h.ne (aF _);rcases(show Dl p.length p a<0\/Dl p.length p a=1 by omega)with k|k
   .omega
   .right;have hv:=Zpq h.tr h.ne h.sz h.hn h.hl h.hF h.eq h.otr h.one h.ok Q k x3;have m1:=Zlj h.otr h.one h.ok (cZ l);unfold Zau;by_cases f:Zj o b=0
    .rw [aP f];have hx:Zj (Go.Sky.sqf F o) x≠0:=λe=>h.nz (x:=x) O4 ((h.zero x).1 e);rcases gD (vch F o b) (vch F o x)with w|w
     .omega
     .exfalso;have:=Zel h.otr h.one h.ok (cZ l) w hx b (cZ l) O5;rw [(h.zero b).2 f]at this;grind
    grind
theorem Zv4(g:Rat->Rat){h:Rat}(f:0<h):∀(n:Nat) (u v:Rat),u<v->v-u<=(n:Rat)*h->g u*g v<0->∃x y,u<=x/\x<y/\y<=v/\y-x<=h/\g x≠0/\g x*g y<=0
 | 0,u,v,a,b,_=>O4
 | n+1,u,v,a,b,c=>by
  have j:g u≠0:=λe=>O10;by_cases s:v-u<=h
  .grind
  .rcases(show g u*g (u+h)<=0\/0<g u*g (u+h) by grind)with q|q
   .grind
   .have k:g (u+h)*g v<0:=by
     have l:=Fm j;rcases(show g (u+h)*g v<0\/0<=g (u+h)*g v by grind)with w|w
     .omega
     .have P:=bC q (show 0 < -(g u*g v) by grind);have Q:=aG (cZ l) w;grind
    obtain⟨x,y,B,D,F,G,H,I⟩:=Zv4 g f n _ v O4 O4 k;grind
theorem Zpo{a b c:Rat}(h:a*b<0)(e:a-b<=c)(f:b-a<=c):-c<=a/\a<=c:=by
 rcases(show 0<a\/a<0\/a=0 by grind)with q|q|q
 .have:b<0:=by
   rcases(show b<0\/0<=b by grind)with w|w
   .omega
   .have:=aG (cZ q) w;grind
  grind
 .have:0<b:=by
   rcases(show 0<b\/b<=0 by grind)with w|w
   .omega
   .have:=aG (show 0<=-a by grind) (show 0<=-b by grind);grind
  grind
 grind
theorem Zwq{F:Nat}(hx:Tr xs)(h0:xs≠[])(hC:Za5 F xs)(ho:Tr o)(o0:o≠[])(hE:Ed o (sqf F xs)){u v:Rat}(g:u<v)(hu:Zj (sqf F xs) u≠0)(h:Zj o u*Zj o v<0):vch F xs v<vch F xs u:=by
 rcases gD (vch F xs v) (vch F xs u)with q|q
 .omega
 .exfalso;have hk:=Zel hx h0 hC (cZ g) q hu;obtain⟨k,w,Q,hw⟩:=hE;have H:=Oj Q;have f:∀d,Tr d->Ed d o->Ed d (tzl w)->d.length<=1:=λd hd e1 G=>by
   obtain⟨R,s1,D,r1⟩:=e1;obtain⟨k2,s2,Y,r2⟩:=G;refine Zgl hx h0 hC.1.2.2.1 hd ⟨k*R,lmul w s1,bE Q D,λx=>?_⟩ ⟨k*R*k2,Mv ((lmul (ld w) s1).map λa=>k2*a) ((lmul s2 (ld o)).map λa=>R*a),bE (bE Q D) Y,λx=>?_⟩
   .grind [Yn,r1]
   .rw [Xs,Zx,Zx,Yn,Yn,Kw];have a0:=Cq ((sqf F xs).map λa=>k*a) (lmul w o) (λy=>by grind [Zx,Yn]) x;grind [Zaj,Bs,r1,r2,Kc]
  obtain⟨ε,e1,G⟩:=Ydb ho (Xy w) o0 f u v;obtain⟨s,l1,l2⟩:=Br u v o;obtain⟨B,m1,m2⟩:=Br u v w;obtain⟨j,Z,-,d3⟩:=Gh (show(0:Rat)<1 by rfl) (show 0<s+B by grind) (show 0<ε/2 by grind);obtain⟨n,hn⟩:=Zh6 (v-u) Z;obtain⟨x,y,l,x2,V,x4,x5,x6⟩:=Zv4 (Zj o) Z n u v g hn h;have sx:=hk x l O4;have sy:=hk y O4 V;have ox:=hw x;have oy:=hw y;have a3:Zj o y≠0:=λe=>by grind [Rat.mul_eq_zero]
  have I:Zj o x*Zj o y<0:=by grind [Rat.mul_eq_zero]
  have S:0<Zj (sqf F xs) x*Zj (sqf F xs) y:=by
   have a1:=bC sx sy;have W:=Fm hu;rcases(show 0<Zj (sqf F xs) x*Zj (sqf F xs) y\/Zj (sqf F xs) x*Zj (sqf F xs) y<=0 by grind)with t|t
   .omega
   .have:=aG (cZ W) (show 0<=-(Zj (sqf F xs) x*Zj (sqf F xs) y) by grind);grind
  have P:Zj w x*Zj w y<0:=by
   have a1:(k:Rat)*k*(Zj (sqf F xs) x*Zj (sqf F xs) y)=(Zj w x*Zj w y)*(Zj o x*Zj o y):=by grind
   have W:=bC (Fm H) S;rcases(show Zj w x*Zj w y<0\/0<=Zj w x*Zj w y by grind)with t|t
   .omega
   .have:=aG t (show 0<=-(Zj o x*Zj o y) by grind);grind
  have D:=l2 x y l O4 V;have Y:=m2 x y l O4 V;have n1:=aG (a:=s) (b:=j-(y-x)) O4 O4;have n2:=aG (a:=B) (b:=j-(y-x)) O4 O4;have n3:=aG (a:=s) (b:=j) O4 O4;have n4:=aG (a:=B) (b:=j) O4 O4;obtain⟨b1,b2⟩:=Zpo (c:=ε/2) I O4 O4;obtain⟨b3,b4⟩:=Zpo (c:=ε/2) P O4 O4;rcases G x l O4 with t|t
  .unfold Big at t;grind
  .unfold Big at t;grind [Kc]
theorem Zpf{F:Nat}(j:Tr xs)(f:xs≠[])(g:Za5 F xs){u v:Rat}(e:u<v)(h:Zj (sqf F xs) u≠0)(k:Zj (sqf F xs) v=0):vch F xs v<vch F xs u:=by
 rcases gD _ _ with q|q
 .omega
 .have:=Zel j f g (cZ e) q h v (cZ e) O5;simp_all
theorem Odp.ed{F n:Nat}(h:Odp F n p o):Ed o (Go.Sky.sqf F p):=by have e:=Dp.start h.tr h.ne;obtain⟨-,f⟩:=Ec h.tr h.ne h.sz h.hn h.hl h.hF p.length _ e (by rw [Pt h.tr];omega);rw [<-h.eq]at f;rwa [Cf e.2.2.1]at f
theorem Yhu{F:Nat}(k:Tr xs)(f:xs≠[])(j:Za5 F xs)(x:Rat):Zj xs x=0↔Zj (sqf F xs) x=0:=by
 constructor
 .intro h;have l:(x.den:Int)≠0:=by exact_mod_cast x.den_nz
  have e:((x.num))/((x.den:Int))=x:=by grind [Rat.divInt_eq_div,Rat.num_divInt_den]
  have:=Yhw k f j.1.2.2.1 l (r:=x.num) O4;grind
 .obtain⟨g,n⟩:=Yql k f j.1.2.2.1;grind
theorem Yrc {F n:Nat}  (h:Odp F n p o) (f:Za5 F p) {K:Nat} {e:Nat} (l:∀u v:Rat,-(K:Rat)<=u->u<=v->v<=(K:Rat)->v-u<=1/((2^e:Nat):Rat)->vch F p u-vch F p v<=1)
  {s t:Rat} (h1:-(K:Rat)+1<=s) (Q:t<=(K:Rat)) (hs:0<=Zj p s) (ht:0<=Zj p t) (V:Ygs p s t):1/((2^(e+1):Nat):Rat)<t-s:=by
 obtain⟨x,x1,x2,x3⟩:=V;have B:s<x:=O4;have D:x<t:=O4;obtain⟨f1,f2,f3,f4,f5,f6⟩:=Ox F h.tr h.ne f.1.2.2.1;have j:Zj (Go.Sky.sqf F p) x≠0:=λz=>by have:=(Yhu h.tr h.ne f x).2 z;grind
 rcases(show 1/((2^(e+1):Nat):Rat)<t-s\/t-s<=1/((2^(e+1):Nat):Rat) by grind)with q|q
 .omega
 .exfalso;have W:=two_pow_pos e;have Y:=two_pow_pos (e+1);have I:((2^(e+1):Nat):Rat)=2*((2^e:Nat):Rat):=O4;have hi:0<((2^e:Nat):Rat)⁻¹:=eW.2 W;have R:1/((2^(e+1):Nat):Rat)=((2^e:Nat):Rat)⁻¹/2:=by rw [I];grind
  have P:1/((2^e:Nat):Rat)=((2^e:Nat):Rat)⁻¹:=O4;have S:((2^e:Nat):Rat)⁻¹<=1:=by
   have g1:(1:Rat)<=((2^e:Nat):Rat):=by have:1<=2^e:=dH e;exact_mod_cast this
   have g2:=aG (a:=((2^e:Nat):Rat)-1) (b:=((2^e:Nat):Rat)⁻¹) O4 O4;grind [Rat.mul_inv_cancel]
  obtain⟨u,u1,u2,u3⟩:∃u,s-((2^e:Nat):Rat)⁻¹/2<=u/\u<=s/\vch F p x<vch F p u:=by
   by_cases z:Zj (Go.Sky.sqf F p) s=0
   .obtain⟨δ,d1,H⟩:=Zaa (Go.Sky.sqf F p).length (Go.Sky.sqf F p) (s-((2^e:Nat):Rat)⁻¹/2) (aF _);have G:=Zh7 (Go.Sky.sqf F p).length (Go.Sky.sqf F p) (s-((2^e:Nat):Rat)⁻¹/2) f2 f3 (aF _);obtain⟨u,w1,w2,w3⟩:∃u,s-((2^e:Nat):Rat)⁻¹/2<u/\u<=s-((2^e:Nat):Rat)⁻¹/2+δ/\u<s:=by
     rcases(show s-((2^e:Nat):Rat)⁻¹/2+δ<s\/s<=s-((2^e:Nat):Rat)⁻¹/2+δ by grind)with w|w
     .grind
     .exact⟨s-((2^e:Nat):Rat)⁻¹/4,O4,O4,O4⟩
    have Z:Zj (Go.Sky.sqf F p) u≠0:=λc=>by have:=H u w1 w2;rw [c]at this;exact G this.symm
    have m1:=Zpf h.tr h.ne f w3 Z z;have m2:=Zlj h.tr h.ne f (cZ B);grind
   .have g:0<Zj p s:=by have:Zj p s≠0:=λc=>z ((Yhu h.tr h.ne f s).1 c);grind
    have k:=h.opp (x:=s) (y:=x) (by have:=bC g (show 0 < -Zj p x by grind);grind);exact⟨s,O4,O5,Zwq h.tr h.ne f h.otr h.one h.ed B z k.1⟩
  have u4:vch F p t<vch F p x:=by
   by_cases z:Zj (Go.Sky.sqf F p) t=0
   .exact Zpf h.tr h.ne f D j z
   .have g:0<Zj p t:=by have:Zj p t≠0:=λc=>z ((Yhu h.tr h.ne f t).1 c);grind
    have k:=h.opp (x:=x) (y:=t) (by have:=bC g (show 0 < -Zj p x by grind);grind);exact Zwq h.tr h.ne f h.otr h.one h.ed D j k.1
  have:=l u t O4 O4 Q O4;omega
def Zc1(xs:List Int)(m:Nat):Prop:=xs.length=0\/(xs.length+2)*(xs.length+2)*(Xx xs+m+2*(xs.length-1)+32)<=65536
instance (xs:List Int) (m:Nat):Decidable (Zc1 xs m):=by unfold Zc1;infer_instance
def sgf_t{m:Nat}(h:xs.length=0):Value.bool (decide (Zc1 xs m))= .bool true:=aD _ (aH (.inl h))
theorem sgf_i{m:Nat}{n:Int}(h:xs.length≠0)(e:n=(((xs.length+2)*(xs.length+2)*(Xx xs+m+2*(xs.length-1)+32):Nat):Int)):Value.bool (decide (Zc1 xs m))= .bool (decide (n<=65536)):=aD _ (bB.2 (by show(xs.length=0\/_<=65536)↔_;omega))
def efit(z:R2):Bool:=decide (max (bl z.1.natAbs) (bl z.2.natAbs)<=512)
def Zj6:List Int->Int
 | []=>0
 | x::r=>if x=0 then Zj6 r else x
theorem Zwe{s:Int}(h:s≠0):∀{L:List Int} {i:Nat},i<L.length->(∀k,k<i->L.getD k 0=0)->L.getD i 0=s->Zj6 L=s
 | [],i,hi,_,_=>absurd hi O5
 | x::r,0,_,_,hs=>by have e:x=s:=hs;unfold Zj6;omega
 | x::r,i+1,hi,hz,hs=>by have e:x=0:=hz 0 O5;unfold Zj6;rw [aP e];exact Zwe h O4 (λk f=>hz (k+1) O) hs
theorem Zpx:∀{L:List Int},(∀k,k<L.length->L.getD k 0=0)->Zj6 L=0
 | [],_=>rfl
 | x::r,hz=>by have e:x=0:=hz 0 O5;unfold Zj6;rw [aP e];exact Zpx λk f=>hz (k+1) (by simpa using f)
def aft(e:List (List Int))(m:R2):Int:=Zj6 (e.map (Bb m.1 m.2))
def vlu(e:List (List Int))(m:R2):Int:=if e.length=0 then 0 else Bb m.1 m.2 (e.getD 0 [])
def chv(e:List (List Int))(m:R2):Int:=chg (e.map (Bb m.1 m.2))
def crb(e:List (List Int))(a b:R2):Bool:=if e.length=0 then false else decide (0<chv e a-chv e b-if Bb b.1 b.2 (e.getD 0 [])=0 then 1 else 0)
def cmp(a b:R2):Int:=(a.1*b.2-b.1*a.2).sign
def ngb(ds cs:List (List Int))(a b:R2):Bool:=if cmp a b=0 then decide (vlu ds a<0)else(decide (aft ds a<0) || crb cs a b)
theorem Yec(ls:List (SL×List Int))(x y:Int):aft (ls.map Prod.snd) (x,y)=Zj6 (sgx ls (Bb x y)):=by unfold aft;grind [Yak]
theorem Yti(ls:List (SL×List Int))(x y:Int):chv (ls.map Prod.snd) (x,y)=chg (sgx ls (Bb x y)):=by unfold chv;grind [Yak]
theorem Zih(h:i<ls.length):(ls.map Prod.snd).getD i []=(ls.getD i Z0).2:=by grind
theorem Ydm(e:List (List Int))(m:R2):0<=chv e m/\chv e m<=(e.length:Int):=by have:=Zbt (e.map (Bb m.1 m.2));rw [aW]at this;exact this
theorem Zun(h:Es x=0):x=0:=by
 rcases Pm x with⟨e,f⟩|⟨e,f⟩|⟨e,f⟩
 all_goals omega
theorem sgm_i{x l:Int}(f:-1<=x/\x<=1)(e:-1<=l/\l<=1):Lo (x*l):=by
 rcases(show x=-1\/x=0\/x=1 by omega)with h|h|h<;>subst h
 .exact⟨O,O⟩
 .exact⟨O5,O5⟩
 .exact⟨O,O⟩
theorem Yam{x l:Int}(f:-1<=x/\x<=1)(e:-1<=l/\l<=1)(h:x*l<0):x=-l:=by rcases(show x=-1\/x=0\/x=1 by omega)with h|h|h<;>subst h<;>omega
theorem Yal{x l:Int}(g:-1<=x/\x<=1)(f:-1<=l/\l<=1)(h:¬x*l<0)(e:x≠0):¬x=-l:=by rcases(show x=-1\/x=0\/x=1 by omega)with h|h|h<;>subst h<;>omega
def Yan{x l:Int}(h:x=0):¬x*l<0:=O4
theorem crb_t{x e f:Int}(h:cs.length≠0)(g:Bb e f (cs.getD 0 Z0).2=0):Value.bool (crb (cs.map Prod.snd) (x,y) (e,f))= .bool (decide (0<chv (cs.map Prod.snd) (x,y)-chv (cs.map Prod.snd) (e,f)-1)):=by unfold crb;rw [aW,aJ h,Zih O,aP g]
theorem crb_f{x e f:Int}(h:cs.length≠0)(g:¬Bb e f (cs.getD 0 Z0).2=0):Value.bool (crb (cs.map Prod.snd) (x,y) (e,f))= .bool (decide (0<chv (cs.map Prod.snd) (x,y)-chv (cs.map Prod.snd) (e,f))):=by unfold crb;rw [aW,aJ h,Zih O,aJ g,eV]
theorem ngb_t{cs:List (List Int)}(h:¬cmp a b=0)(e:aft ds a<0):Value.bool (ngb ds cs a b)= .bool true:=by unfold ngb;grind
theorem ngb_f{cs:List (List Int)}(h:¬cmp a b=0)(e:¬aft ds a<0):Value.bool (ngb ds cs a b)= .bool (crb cs a b):=by unfold ngb;grind
def Zf1:Nat->List Int->List (List Int)
 | 0,_=>[]
 | n+1,p=>if p.length=0 then []else p::Zf1 n (Xh p)
theorem Zwu{m:R2}(h:0<m.2):∀(n:Nat) (p:List Int),p.length<=n->aft (Zf1 n p) m=Dl n p (qv m)
 | 0,p,l=>rfl
 | n+1,p,l=>by
  unfold Zf1;by_cases g:p.length=0
  .have:=aC g;subst this;have f:∀n,Dl n [] (qv m)=0:=λn=>by
    induction n with
    | zero=>rfl
    | succ n j=>assumption
   rw [f];rfl
  .rw [aJ g];have s:=Of p;have j:=Zwu h n (Xh p) O;unfold aft at j ⊢;rw [bQ];unfold Zj6 Dl;have k:Bb m.1 m.2 p=Es (Zj p (qv m)):=Zeo h p;rw [k];by_cases f:Zj p (qv m)=0
   .simp_all [aP,Zuo,aJ]
   .rw [aJ (λe=>f (Zun e)),aP f]
structure Cvd (xs:List Int):Prop where
 v:Vp xs
 s:Sz 205 xs
 l:xs.length<=11
theorem Zhq(h:Cvd xs)(e:xs≠[])(f:Dp xs r):Sz 220 r/\r.length<=11:=by obtain⟨g,j⟩:=f.sz h.v.tr e h.s (by have:=h.l;omega);exact⟨g,by have:=h.l;omega⟩
theorem Zeb(h:Cvd xs)(j:xs≠[])(e:Dp xs r) :
  Vp r/\r≠[]/\(∀i,bl (cf r (i+1)*((i:Int)+1)).natAbs<=65536)/\Vp (Xh r)/\¬Zpw r (Xh r)/\eok 13 (gA r (Xh r)) (gB r (Xh r))/\Nv 13 r (Xh r)=Om 13 r/\Vp (Om 13 r)/\
  Bx r (Om 13 r)=0/\pdv r (Om 13 r)/\Lv r (Om 13 r)=sqf 13 r/\Vp (sqf 13 r)/\Sz 235 (sqf 13 r)/\(sqf 13 r).length<=11/\Dp xs (Om 13 r)/\sqf 13 r≠[]/\((sqf 13 r).length≠1->(Om 13 r).length<r.length)/\Da 13 r:=by
 obtain⟨D,S⟩:=Zhq h j e;have s:Vp r:=⟨D.mono O5,e.1,O⟩;have f:=e.ok h.v.tr j h.s O5 (by have:=h.l;omega) (show xs.length<=13+1 by have:=h.l;omega);obtain⟨⟨R,G,H,w,B⟩,-,-⟩:=f.1;have P:=e.2.2.1;have l:=(chG 13 e.1 e.2.1 D O5 O O).2.1;have I:=(chG 13 e.1 e.2.1 D O5 O O).2.2.1;have v:=Zlg s e.2.1 f.1.1;have F:Om 13 r=Nv 13 r (Xh r):=by unfold Om;grind
 have k:=e.next f.2;have u:Vp (Om 13 r):=by obtain⟨t1,t2⟩:=Zhq h j k;exact⟨t1.mono O5,k.1,O⟩
 have n:sqf 13 r=Lv r (Om 13 r):=by unfold sqf Om;grind
 obtain⟨f1,f2,f3,f4,f5,f6⟩:=Ox 13 e.1 e.2.1 f.2;have g:∀i,bl (cf r (i+1)*((i:Int)+1)).natAbs<=65536:=λi=>by
  by_cases hi:i<r.length
  .grind
  .rw [Yt O];simp [Ky]
 rw [P]at G H w B;rw [<-F]at w B;refine⟨s,e.2.1,g,Zga s (λi _=>g i),G,H,F.symm,u,w,B,n.symm,v,l,O,k,f3,λQ=>?_,f.2⟩;refine Zng e.1 e.2.1 f.2 ?_;grind [Pn,List.length_pos_iff]
def Ij(xs:List Int):List Int:=Zrm 13 xs.length [1] (Xg xs)
structure OddI (xs:List Int) (t:Nat) (rest out before:List Int):Prop where
 ex:∃f q,Dp xs q/\q.length<=f/\Zrm 13 f out q=Ij xs/\Tr out/\Op xs out q/\((t%2=1/\rest=q)\/(t%2=0/\rest=Om 13 q/\before=sqf 13 q/\(sqf 13 q).length≠1))
theorem OddI.start{b:List Int}(h:Cvd xs)(e:xs≠[]):OddI xs 1 (Xg xs) [1] b:=
 ⟨xs.length,Xg xs,Dp.start h.v.tr e,by rw [Pt h.v.tr];omega,rfl,.inr O3,Op.start h.v.tr,.inl ⟨rfl,rfl⟩⟩
theorem OddI.dp{e:List Int}(h:Cvd xs)(j:xs≠[])(g:OddI xs t rest e before):Dp xs rest:=by
 obtain⟨f,q,k,l,n,s,u,v|⟨-,rfl,-⟩⟩:=g.ex
 all_goals simp_all [Zeb]
theorem OddI.out{e:List Int}(h:Cvd xs)(k:xs≠[])(s:OddI xs t rest e before):Vp e/\Sz 220 e/\e.length<=11:=by obtain⟨f,q,l,u,v,g,n,-⟩:=s.ex;obtain⟨j,w,B⟩:=n.sz h.v.tr k h.s (by have:=h.l;omega) g l.1;have:=h.l;exact⟨⟨j.mono O5,g,O⟩,j,O⟩
theorem OddI.odd_end{e:List Int}(h:Cvd xs)(k:xs≠[])(j:OddI xs t rest e before)(B:t%2=1)(w:(sqf 13 rest).length=1):e=Ij xs:=by
 obtain⟨f,q,l,n,g,s,u,⟨-,rfl⟩|⟨v,-⟩⟩:=j.ex
 .cases f with
  | zero=>assumption
  | succ f=>unfold Zrm at g;grind
 omega
theorem OddI.odd_next{e:List Int}(n:OddI xs t rest e before)(v:t%2=1)(s:(sqf 13 rest).length≠1):OddI xs (t+1) (Om 13 rest) e (sqf 13 rest):=by
 obtain⟨f,q,g,h,j,k,l,⟨-,rfl⟩|⟨u,-⟩⟩:=n.ex
 .exact⟨f,rest,g,h,j,k,l,.inr ⟨O,rfl,rfl,s⟩⟩
 omega
theorem OddI.even{g:List Int}(h:Cvd xs)(s:xs≠[])(hI:OddI xs t rest g before)(ht:t%2=0) :
  Vp before/\Bx before (sqf 13 rest)=0/\pdv before (sqf 13 rest)/\Vp (Lv before (sqf 13 rest))/\¬Zam g (Lv before (sqf 13 rest))/\
  ((sqf 13 rest).length=1->Pf g (Lv before (sqf 13 rest))=Ij xs)/\((sqf 13 rest).length≠1->OddI xs (t+1) (Om 13 rest) (Pf g (Lv before (sqf 13 rest))) (sqf 13 rest))/\Vp (Pf g (Lv before (sqf 13 rest))):=by
 obtain⟨f,q,j,h2,v,h4,W,⟨h7,-⟩|⟨-,rfl,rfl,Y⟩⟩:=hI.ex
 .omega
 obtain⟨a1,a2,a3,a4,a5,a6,a7,a8,a9,Z,a0,B,D,b0,F,c0,G,k⟩:=Zeb h s j;obtain⟨b1,b2,b3,b4,b5,b6,b7,b8,b9,c5,c6,c7,H,c8,l,I,P,n⟩:=Zeb h s F;obtain⟨c1,c2,V,c4⟩:=Ct j.1 j.2.1 k n;have Q:=W.next j.1 j.2.1 j.2.2.1 k n;have ho:=h.l;obtain⟨s1,s2,s3⟩:=Q.sz h.v.tr s h.s O (Qk _ _) l.1;obtain⟨o1,o2,o3⟩:=W.sz h.v.tr s h.s O h4 j.1;have c9:(Bm 13 q).length<=11:=by have e:=aD List.length c2;grind [Oz,List.length_pos_iff]
 have u:Sz 450 (Bm 13 q):=by obtain⟨a,ha,e⟩:=Q;have e2:Xg xs=Pf (Pf (Pf a (Om 13 (Om 13 q))) g) (Bm 13 q):=e.trans ((Qk _ _).ext (Qk _ _) λi=>Nq (λx=>by grind [Xi]) i);exact(Zy5 h.v.tr s h.s O (Qk _ _) V e2).1.mono O5
 have hd:Bx (sqf 13 q) (sqf 13 (Om 13 q))=0:=by
  have m1:=Qu D;have m2:=Qu H;have l1:=aI.2 I;unfold Bx;rw [aJ O];split
  .rfl
  .have:((sqf 13 q).length-(sqf 13 (Om 13 q)).length+1)*(Xx (sqf 13 (Om 13 q))+1)<=12*240:=aQ O O;omega
 have S:Vp (Bm 13 q):=⟨u.mono O5,V,O⟩;have hm:¬Zam g (Bm 13 q):=λhF=>by have m1:=Qu o1;have m2:=Qu u;rcases hF.2.2 with w|w<;>omega
 refine⟨B,hd,c1,S,hm,λR=>?_,λR=>?_,⟨s1.mono O5,Qk _ _,aB s2 O⟩⟩
 .cases f with
  | zero=>omega
  | succ f=>unfold Zrm at v;grind
 .cases f with
  | zero=>omega
  | succ f=>
   unfold Zrm at v;rw [aJ Y,aJ R]at v;have l1:=G Y;have l2:=P R;exact⟨f,Om 13 (Om 13 q),l,O,v,Qk _ _,Q,.inl ⟨O,rfl⟩⟩
theorem Yfi(h:Cvd xs)(f:xs≠[]):Ij xs=Bg 13 xs.length (Xg xs):=by have e:=Dp.start h.v.tr f;have j:=h.l;have g:=(e.ok h.v.tr f h.s O5 O (show xs.length<=13+1 by omega)).2;unfold Ij;rw [Ybo h.v.tr f h.s O5 O O _ [1] _ (.inr (show cf [1] 0≠0 by decide)) e (by rw [Pt h.v.tr];omega),Ybi (Zkt xs e.1 e.2.1 g)]
theorem Zcc(h:Cvd xs)(f:xs≠[]):Odp 13 205 xs (Ij xs)/\Vp (Ij xs)/\Sz 220 (Ij xs)/\(Ij xs).length<=xs.length/\Zc3 (Ij xs):=by
 have g:=Dp.start h.v.tr f;have G:=h.l;have l:=(g.ok h.v.tr f h.s O5 O (show xs.length<=13+1 by omega)).2;have n:=Yfi h f;have j:Tr (Ij xs):=by rw [n];exact Zkt xs g.1 g.2.1 l
 obtain⟨⟨B,F⟩,-⟩:=Ec h.v.tr f h.s O5 O (show xs.length<=13+1 by omega) xs.length (Xg xs) g (by rw [Pt h.v.tr];omega);have e:Xg xs=Pf (Pf B B) (Ij xs):=g.1.ext (Qk _ _) λi=>Nq (λx=>by grind [Xi]) i;obtain⟨k,w,s⟩:=Zy5 h.v.tr f h.s O (Qk _ _) j e;have v:=(chG 13 j s k O5 O O).1;refine⟨⟨h.v.tr,f,h.s,O5,O,O,n,j,s,v⟩,⟨k.mono O5,j,O⟩,k,w,.inr ?_⟩;have H:=Qu k;have u:((Ij xs).length+2)*((Ij xs).length+2)<=13*13:=aQ O O;have D:((Ij xs).length+2)*((Ij xs).length+2)*(Xx (Ij xs)+16)<=13*13*236:=aQ u O;omega
def Aa(xs:List Int):List (List Int):=if xs.length=0 then []else chn 13 (Ij xs)
def Pr(xs:List Int):List (List Int):=Zf1 xs.length xs
theorem Zwt:∀(n k:Nat) (p:List Int),Tr p->p.length<=25->Sz k p->∀q∈Zf1 n p,Tr q/\q.length<=p.length/\Sz (k+5*n) q
 | 0,_,_,_,_,_,q,e=>absurd e (by simp [Zf1])
 | n+1,k,p,f,h,hs,q,e=>by
  unfold Zf1 at e;by_cases g:p.length=0
  .grind
  .rw [aJ g]at e;rcases bI.1 e with rfl|e
   .exact⟨f,aF _,hs.mono O5⟩
   .have j:=Of p;obtain⟨l,s,u⟩:=Zwt n _ _ (Np f) O (Fe hs h) q e;grind
theorem Cb(h:Cvd xs):∀q∈Pr xs,Vp q/\Xx q<=6150/\q.length<=11:=λq g=>by have k:=h.l;obtain⟨f,j,e⟩:=Zwt _ 205 xs h.v.tr O h.s q g;have:=Qu e;exact⟨⟨e.mono O,f,O⟩,O,O⟩
theorem Zhy(h:Cvd xs):∀q∈Aa xs,Vp q/\Xx q<=6150/\q.length<=11:=λq f=>by
 have F:=h.l;unfold Aa at f;by_cases k:xs.length=0
 .grind
 .rw [aJ k]at f;have j:xs≠[]:=λe=>k O4;obtain⟨g,l,n,v,w⟩:=Zcc h j;obtain⟨s,B,D,u⟩:=chG 13 g.otr g.one n O5 O (show(Ij xs).length<=13+1 by omega);exact⟨Ygz l g.one s q f,(u q f).1,O4⟩
theorem Zk7(xs:List Int):(Aa xs).length<=1000:=by
 unfold Aa;split
 .simp
 .have:=Za4 13 (sqf 13 (Ij xs)) (Yf (Xh (sqf 13 (Ij xs))));unfold chn;omega
theorem Zua(g:Xx p<=6150)(h:p.length<=11)(a:bl m.1.natAbs<=5300)(b:bl m.2.natAbs<=5300):¬Ha p m.1 m.2:=λf=>by
 have e:=by show max (bl m.1.natAbs) (max (bl m.2.natAbs) 0)<=5300;omega
 have j:(p.length-1)*Xx [m.1,m.2]<=10*5300:=aQ O e;have:=f.2;omega
def Zdo(h:Cvd xs)(a:bl m.1.natAbs<=5300)(b:bl m.2.natAbs<=5300):(∀p∈Pr xs,¬Ha p m.1 m.2)/\(∀p∈Aa xs,¬Ha p m.1 m.2):=
 ⟨λp e=>Zua (Cb h p e).2.1 (Cb h p e).2.2 a b,λp e=>Zua (Zhy h p e).2.1 (Zhy h p e).2.2 a b⟩
theorem Yjz(e:0<a.2)(f:0<b.2):((a.1*b.2-b.1*a.2:Int):Rat)=(qv a-qv b)*((a.2:Rat)*(b.2:Rat)):=by have g:=Gn e;have h:=Gn f;unfold qv;grind
theorem Ys9(g:0<a.2)(j:0<b.2):cmp a b<0↔qv a<qv b:=by
 have e:=Yjz g j;have k:=bC (Gn g) (Gn j);unfold cmp;rw [Py];constructor
 .intro h;have f:((a.1*b.2-b.1*a.2):Rat)<0:=by exact_mod_cast h
  rcases(show qv a<qv b\/qv b<=qv a by grind)with q|q
  .omega
  .have:=aG (show 0<=qv a-qv b by grind) (Rat.le_of_lt k);grind
 .intro h;have:=bC (show 0<qv b-qv a by grind) k;have f:((a.1*b.2-b.1*a.2):Rat)<0:=O4;exact_mod_cast f
theorem Zsy(f:0<a.2)(g:0<b.2):cmp a b=0↔qv a=qv b:=by
 have e:=Yjz f g;have k:=bC (Gn f) (Gn g);unfold cmp;rw [dO];constructor
 .intro h;rw [h]at e;grind [Rat.mul_eq_zero]
 .intro h;have j:((a.1*b.2-b.1*a.2):Rat)=0:=O4;exact_mod_cast j
theorem Zsx(e:0<a.2)(f:0<b.2):cmp a b<=0↔qv a<=qv b:=by have g:=Ys9 e f;grind [Zsy,Rat.le_of_lt,Int.le_of_lt,Int.le_of_eq]
def Ymk(e:0<m.2)(p:List Int):Bb m.1 m.2 p=Es (Zj p (qv m)):=Zeo e p
theorem Yth(h:Cvd xs)(g:xs≠[])(v:0<a.2)(j:0<b.2):crb (Aa xs) a b=true↔Zau 13 (Ij xs) (qv a) (qv b):=by
 obtain⟨f,l,n,s,u⟩:=Zcc h g;unfold crb Zau Aa;have w:∃r,chn 13 (Ij xs)=sqf 13 (Ij xs)::r:=by unfold chn Ma;split<;>exact⟨_,rfl⟩
 have B:∀m:R2,0<m.2->chv _ m=vch 13 (Ij xs) _:=λm k=>(cvc_v k);rw [Ymk j];have D:Es _=0↔Zj _ (qv b)=0:=⟨λe=>(f.zero _).1 (Zun e),λe=>Zuo ((f.zero _).2 e)⟩;grind
theorem Zli(f:0<m.2):vlu (Pr xs) m=Es (Zj xs (qv m)):=by
 unfold vlu Pr;by_cases e:xs.length=0
 .have:=aC e;subst this;rfl
 .obtain⟨n,g⟩:∃n,xs.length=n+1:=⟨xs.length-1,O⟩;unfold Zf1;simp_all [aJ,Ymk]
theorem Zkx(h:Cvd xs)(f:0<a.2)(v:0<b.2)(j:qv a<=qv b):ngb (Pr xs) (Aa xs) a b=true↔Ygs xs (qv a) (qv b):=by
 unfold ngb;by_cases k:cmp a b=0
 .rw [aP k,Zli f,iP];have e:=(Zsy f v).1 k;constructor
  .intro n;refine⟨qv a,jY,j,?_⟩;rcases Pm (Zj xs (qv a))with⟨s,u⟩|⟨s,u⟩|⟨s,u⟩
   all_goals omega
  .rintro⟨x,B,D,F⟩;grind [Zpc]
 .rw [aJ k];have l:qv a<qv b:=by grind [Zsy]
  by_cases g:xs=[]
  .subst g;constructor
   .intro n;exact absurd n (by show ¬(decide ((0)<0) || false)=true;simp)
   .rintro⟨x,B,D,F⟩;assumption
  .obtain⟨w,G,H,I,P⟩:=Zcc h g;rw [<-w.sem l,Bool.or_eq_true,iP,Yth h g f v,show aft (Pr xs) a=Dl _ xs _ from Zwu f _ _ (aF _)]
theorem Zw1(h:Cvd xs){m:Nat}(j:m<=100):Zc1 xs m:=by refine .inr ?_;have g:=h.l;have k:=Qu h.s;have e:(xs.length+2)*(xs.length+2)<=13*13:=aQ O O;have f:(xs.length+2)*(xs.length+2)*(Xx xs+m+2*(xs.length-1)+32)<=13*13*357:=aQ e O;omega
theorem Zp2(h:xs.length=0):Pr xs=[]:=by unfold Pr;rw [h];rfl
theorem Ytg(h:xs.length=0):Aa xs=[]:=by unfold Aa;grind
theorem Zs1(h:xs.length≠0):Aa xs=chn 13 (Ij xs):=by unfold Aa;grind
theorem Zp3:∀(n m:Nat) (p:List Int),p.length<=n->p.length<=m->Zf1 n p=Zf1 m p
 | 0,m,p,f,g=>by
  cases m with
  | zero=>rfl
  | succ m=>unfold Zf1;grind
 | n+1,m,p,f,g=>by
  have h:=Of p;cases m with
  | zero=>unfold Zf1;grind
  | succ m=>
   unfold Zf1;by_cases e:p.length=0
   .grind
   .rw [aJ e,aJ e,Zp3 n m _ O O]
theorem Zeq(h:p.length≠0):Pr p=p::Pr (Xh p):=by have f:=Of p;unfold Pr;obtain⟨n,e⟩:∃n,p.length=n+1:=⟨p.length-1,O⟩;rw [e,show Zf1 _ p=if p.length=0 then []else p::Zf1 n _ from rfl,aJ h,Zp3 n _ _ O (aF _)]
def Ab(M:Nat)(p:List Int):Prop:=∀i,(cf p i).natAbs<=M
def Ab.sz{n:Nat}(h:Ab M p)(e:M<2^n):Sz n p:=λi=>(Qo n _).2 (aV (h i) e)
def Ab.mono(h:Ab M p)(e:M<=N):Ab N p:=λi=>aB (h i) e
theorem Dg(h:Ab M p)(c:Int):Ab (M*c.natAbs) (Zw p c):=λi=>by rw [Ym,cE];exact aM _ (h i)
theorem Zt6{f:Nat->Int}{M n:Nat}(h:∀k,(f k).natAbs<=M)(e:∀k,n<=k->f k=0):∀m,(Yo f m).natAbs<=min m n*M
 | 0=>by show(0:Int).natAbs<=_;simp
 | m+1=>by
  have g:=Zt6 h e m;rw [Ys];rcases bA m n with q|q
  .grind [Nat.succ_mul]
  grind
theorem Yor{n:Nat}(e:Ab M p)(f:Ab N q)(h:p.length<=n):Ab (n*(M*N)) (Pf p q):=λi=>by
 rw [Gw];exact aB (Zt6 (λk=>by rw [cE];exact aQ (e k) (f _)) (λk g=>by show cf p k*_=0;rw [Yt O,cJ]) _) (aM _ (Nat.min_le_right _ _))
theorem Zod(e:Ab M p)(f:Ab N q):Ab (M+N) (Gy p q):=λi=>by rw [Ck];have:=e i;have:=f i;omega
theorem Zz1(e:Ab M p)(f:Ab N q):Ab (M+N) (Bf p q):=λi=>by rw [Hd];have:=e i;have:=f i;omega
theorem ab_in(h:∀a∈c,Lo a):Ab (2^63) (tzl c):=λi=>by rw [Lg];obtain⟨e,f⟩:=Lj h i;show(c.getD i 0).natAbs<=_;omega
theorem Zhg{n:Nat}(e:p.length<=n)(f:q.length<=n):(Gy p q).length<=n:=by unfold Gy;grind [Nat.le_trans,Mg,Yy]
theorem Zr1 (n:Nat)(e:p.length<=n)(f:q.length<=n):(Bf p q).length<=n:=by unfold Bf;grind [Nat.le_trans,Mg,Yy]
theorem Yb6{n m:Nat}(j:Tr p)(k:Tr q)(g:p.length<=n)(h:q.length<=m):(Pf p q).length<=n+m-1:=by
 by_cases e:p=[]
 .simp_all [Fr,aX]
 .by_cases f:q=[]
  .simp_all [Zca,aX]
  grind [Oz]
structure Sgo (fr to ov:Int) (x y z:List Int):Prop where
 t1:0<=fr
 t2:fr<to
 t3:to<=3600000
 o1:1<=ov
 o2:ov<=4294967296
 hx:∀a∈x,Lo a
 hy:∀a∈y,Lo a
 hz:∀a∈z,Lo a
 lx:1<=x.length/\x.length<=6
 ly:1<=y.length/\y.length<=6
 lz:1<=z.length/\z.length<=6
def Sgo.hc{fr e:Int}{x y:List Int}(h:Sgo fr e ov x y z)(i:Nat):∀a∈Zt i x y z,Lo a:=Kx h.hx h.hy h.hz i
def Sgo.lc{fr e:Int}{x y:List Int}(h:Sgo fr e ov x y z)(i:Nat):1<=(Zt i x y z).length/\(Zt i x y z).length<=6:=Ep (p:=λl:List Int=>1<=l.length/\l.length<=6) h.lx h.ly h.lz
theorem Sgo.of{fr j:Int}{x y:List Int}(v:∀a∈x,Lo a)(w:∀a∈y,Lo a)(B:∀a∈z,Lo a)(h:Zaz fr j ov x y z=true):Sgo fr j ov x y z:=by unfold Zaz Yel axB at h;simp only [aY,dI]at h;obtain⟨⟨⟨⟨⟨⟨⟨⟨k,l⟩,n⟩,s⟩,u⟩,e⟩,f⟩,g⟩,-⟩:=h;exact⟨k,l,n,s,u,v,w,B,⟨e.1.1.1,e.1.1.2⟩,⟨f.1.1.1,f.1.1.2⟩,⟨g.1.1.1,g.1.1.2⟩⟩
theorem Zge(h:c.length<=6):¬25<(tzl c).length:=by grind [Mg]
def Lw(z:R2):Prop:=0<z.2/\Int.gcd z.1 z.2=1
theorem lgcd_p{x:Int}(e:0<y):Kl x y=(Int.gcd x y:Int):=by unfold Kl;omega
theorem Ylf (x:Int)(e:0<y):Lw (x/Kl x y,y/Kl x y):=by have f:0<Int.gcd x y:=Int.gcd_pos_of_ne_zero_right _ O;rw [lgcd_p e];refine⟨Int.ediv_pos_of_pos_of_dvd e O5 (jU ..),?_⟩;grind [Int.gcd_ediv_gcd_ediv_gcd]
theorem Zrt(e:0<a.2)(h:¬Hh a.1 a.2):Lw (slow a):=by obtain⟨f,g,-⟩:=Zfu h;have:=Ylf a.1 e;unfold slow;grind
theorem Yle(h:Ze7 a b)(e:0<a.2)(f:0<b.2):Lw (Nh a b):=by obtain⟨j,k,-⟩:=Zfu h.2;have g:0<Du _ _*2:=fH (Zyq h.1 (fH e f)) O;have:=Ylf (Av (a.1*b.2+b.1*a.2) (a.2*b.2)*1) g;unfold Nh;grind
structure Hv (n Q j:Nat) (W:Rat) (a b:R2):Prop where
 hQ:0<Q
 hQ2:Q<2^(2*n)
 ea:En (2^n) Q j a
 eb:En (2^n) Q j b
 wd:(qv b-qv a)*((2^j:Nat):Rat)=W
 le:qv a<=qv b
 la:Lw a
 lb:Lw b
theorem Hv.start{n:Nat}(g:0<a.2)(h:0<b.2)(k:bl a.1.natAbs<=n)(u:bl a.2.natAbs<=n)(l:bl b.1.natAbs<=n)(v:bl b.2.natAbs<=n)(s:n<=65536)(D:qv a<=qv b):∃Q,Hv n Q 0 (qv b-qv a) (slow a) (slow b):=by
 obtain⟨F,G,W,H,Y⟩:=Zc0 g k u s;obtain⟨t1,t2,t3,t4,t5⟩:=Zc0 h l v s;have P:=(Qo n _).1 H;have R:=(Qo n _).1 t4;have S:=Zq7 g (dC ((Qo n _).1 k));have V:=Zq7 h (dC ((Qo n _).1 l));have e:0<(slow a).2.natAbs*(slow b).2.natAbs:=gV O O;have f:(slow a).2.natAbs*(slow b).2.natAbs<2^(2*n):=by rw [show 2*n=n+n by omega,bP];simp_all [gY,dC,bZ]
 generalize I:(slow a).2.natAbs*(slow b).2.natAbs=Q at *;have j:((Q*2^0))=(slow a).2*(slow b).2:=by grind
 have w:En (2^n) Q 0 _:=⟨G,O10,O4,O4⟩;have B:En (2^n) Q 0 _:=⟨t2,O10,O4,O4⟩;exact⟨Q,e,f,w,B,O4,O4,Zrt g F,Zrt h t1⟩
theorem Hv.mid{n Q j B:Nat}{W:Rat}(h:Hv n Q j W a b)(V:3*n+2+j<=B)(g:B<=65536) :
  Ze7 a b/\(bl (Nh a b).1.natAbs<=B/\bl (Nh a b).2.natAbs<=B/\0<(Nh a b).2)/\qv (Nh a b)=(qv a+qv b)/2/\(bl a.1.natAbs<=B/\bl a.2.natAbs<=B/\0<a.2)/\(bl b.1.natAbs<=B/\bl b.2.natAbs<=B/\0<b.2)/\
  Hv n Q (j+1) W a (Nh a b)/\Hv n Q (j+1) W (Nh a b) b:=by
 have u:∀m,m<=B->2^m<=2^B:=λm h=>cY O h;have f:Q*2^(j+1)<2^B:=by have:Q*2^(j+1)<2^(2*n)*2^(j+1):=dJ h.hQ2 (bZ O);rw [<-bP]at this;grind
 have k:2*2^n*(Q*2^j)<2^B:=by
  have D:Q*2^j<2^(2*n)*2^j:=dJ h.hQ2 (bZ O);have R:2*2^n*(Q*2^j)<2*2^n*(2^(2*n)*2^j):=jP D (gV O (bZ O));have S:2*2^n*(2^(2*n)*2^j)=2^(3*n+1+j):=by rw [<-bP,<-lS,<-bP];grind
  grind
 obtain⟨w,l,s,G,H⟩:=mid_en h.ea h.eb h.hQ f k g;obtain⟨I,P⟩:=Ymr j 0 B h.ea h.hQ h.hQ2 O;obtain⟨r1,r2⟩:=Ymr j 0 B h.eb h.hQ h.hQ2 O;have e:=Yle w h.ea.pos h.eb.pos;have v:((2^(j+1):Nat))=2*((2^j:Nat)):=O4;have F:=h.le;refine⟨w,⟨G,H,l.pos⟩,s,⟨I,P,h.ea.pos⟩,⟨r1,r2,h.eb.pos⟩,⟨h.hQ,h.hQ2,h.ea.up,l,?_,O4,h.la,e⟩,⟨h.hQ,h.hQ2,l,h.eb.up,?_,O4,e,h.lb⟩⟩
 .rw [s,v,<-h.wd];grind
 .rw [s,v,<-h.wd];grind
def Yen{k n:Nat}(h:Sz k p)(e:k<=n)(i:Nat):(cf p i).natAbs<=2^n:=aB (Zif h i) (cY O e)
theorem Yp2(h:Cvd xs)(g:xs≠[]):Za5 13 xs/\∀u v:Rat,-((2^34:Nat):Rat)<=u->u<=v->v<=((2^34:Nat):Rat)->v-u<=1/((2^5000:Nat):Rat)->vch 13 xs u-vch 13 xs v<=1:=by have F:=h.l;obtain⟨j,e,B,D⟩:=chG 13 h.v.tr g h.s O5 O O;have k:=Fe e O;have f:∀n,n<=11->2<=n->Yaq (2^34) (2^225) n 5000=true:=O7;obtain⟨n,s⟩:∃n:Nat,n=225:=⟨_,rfl⟩;rw [<-s]at f;have k:Sz n (Xh (sqf 13 xs)):=O4;have w:∀i,(cf _ i).natAbs<=2^n:=λi=>Yen e O i;exact⟨j,λu v=>sep_of h.v.tr g j (bZ O) (bZ O) w (λi=>Zif k i) (λl=>f _ O l) u v⟩
theorem Yfd{j e w:Nat}{W:Rat}(s:1/((2^(e+1):Nat):Rat)<x)(u:x*((2^j:Nat):Rat)=W)(v:W<=((2^w:Nat):Rat)):j<e+1+w:=by
 have f:=two_pow_pos (e+1);have g:=two_pow_pos j;rcases bA j _ with q|q
 .omega
 .have hi:=eW.2 f;have h:((2^(e+1)))*((2^w))<=((2^j):Rat):=by
   have:2^(e+1)*2^w<=2^j:=by rw [<-bP];simp_all [cY]
   exact_mod_cast this
  have k:=bC (show 0<x-((2^(e+1)))⁻¹ by grind) g;have l:=aG (cZ hi) (show 0<=((2^j))-((2^(e+1)))*((2^w)) by grind);have n:((2^(e+1)):Rat)⁻¹*(((2^(e+1)))*((2^w)))=((2^w)):=by grind
  grind
structure NIn (xs:List Int) (s t:Rat) (j:Nat) (a b:R2):Prop where
 ex:∃Q W,Hv 34 Q j W a b/\W<=((2^34:Nat):Rat)
 lo:s<=qv a
 hi:qv b<=t
 l0:-((2^33:Nat):Rat)<=s
 h0:t<=((2^33:Nat):Rat)
 pa:0<=Zj xs (qv a)
 pb:0<=Zj xs (qv b)
 ng:Ygs xs (qv a) (qv b)
theorem NIn.j{hi:Rat}{j:Nat}(g:Cvd xs)(f:xs≠[])(h:NIn xs lo hi j a b):j<5035:=by obtain⟨Q,W,k,l⟩:=h.ex;obtain⟨n,hs⟩:=Yp2 g f;have u:=h.lo;have v:=h.hi;have B:=h.l0;have D:=h.h0;have:=Yrc (Zcc g f).1 n (K:=2^34) (e:=5000) hs (s:=qv a) (t:=qv b) O4 O4 h.pa h.pb h.ng;exact Yfd (e:=5000) (w:=34) this k.wd l
theorem NIn.start(e:0<a.2)(f:0<b.2)(h:bl a.1.natAbs<=32)(u:bl a.2.natAbs<=32)(j:bl b.1.natAbs<=32)(v:bl b.2.natAbs<=32)(g:qv a<=qv b)(B:0<=Zj xs (qv a))(D:0<=Zj xs (qv b))(w:Ygs xs (qv a) (qv b)) :
  NIn xs (qv a) (qv b) 0 (slow a) (slow b):=by
 obtain⟨Q,k⟩:=Hv.start (n:=34) e f O O O O O5 g;obtain⟨-,-,-,-,F⟩:=Zc0 e O O O5;obtain⟨-,-,-,-,t5⟩:=Zc0 f O O O5;have l:=Zq7 (K:=2^33) e (aB (dC ((Qo 32 _).1 h)) O);have s:=Zq7 (K:=2^33) f (aB (dC ((Qo 32 _).1 j)) O);exact⟨⟨Q,_,k,O4⟩,O4,O4,l.1,s.2,O4,O4,O4⟩
structure Fnd (xs:List Int) (s t:Rat) (m:R2):Prop where
 ng:Zj xs (qv m)<0
 lo:s<=qv m
 hi:qv m<=t
 b1:bl m.1.natAbs<=5200
 b2:bl m.2.natAbs<=5200
 lw:Lw m
theorem NIn.round{hi:Rat}{j:Nat}(D:Cvd xs)(I:xs≠[])(h:NIn xs lo hi j a b) :
  Ze7 a b/\(bl (Nh a b).1.natAbs<=5200/\bl (Nh a b).2.natAbs<=5200/\0<(Nh a b).2)/\(bl a.1.natAbs<=5200/\bl a.2.natAbs<=5200/\0<a.2)/\(bl b.1.natAbs<=5200/\bl b.2.natAbs<=5200/\0<b.2)/\
  (vlu (Pr xs) (Nh a b)<0->Fnd xs lo hi (Nh a b))/\(¬vlu (Pr xs) (Nh a b)<0->ngb (Pr xs) (Aa xs) a (Nh a b)=true->NIn xs lo hi (j+1) a (Nh a b))/\
  (¬vlu (Pr xs) (Nh a b)<0->ngb (Pr xs) (Aa xs) a (Nh a b)=false->NIn xs lo hi (j+1) (Nh a b) b):=by
 have hj:=h.j D I;obtain⟨Q,W,n,s⟩:=h.ex;obtain⟨F,k,m3,l,G,V,Y⟩:=n.mid (B:=5200) O O5;have P:=n.le;have R:=h.lo;have S:=h.hi;have hv:=Zli (xs:=xs) k.2.2;have g:¬vlu (Pr xs) (Nh a b)<0->0<=Zj xs (qv (Nh a b)):=λf=>by grind [Pm,Rat.le_of_lt,Rat.le_refl]
 have e:=Zkx D l.2.2 k.2.2 (show qv a<=qv _ by grind);refine⟨F,k,l,G,λf=>?_,λf w=>?_,λf w=>?_⟩
 .have:Zj xs (qv (Nh a b))<0:=by
   rcases Pm (Zj xs (qv (Nh a b)))with⟨u,v⟩|⟨u,v⟩|⟨u,v⟩
   all_goals omega
  exact⟨this,O4,O4,k.1,k.2.1,Yle F l.2.2 G.2.2⟩
 .exact⟨⟨Q,W,V,s⟩,R,O4,h.l0,h.h0,h.pa,g f,e.1 w⟩
 .refine⟨⟨Q,W,Y,s⟩,O4,S,h.l0,h.h0,g f,h.pb,?_⟩;obtain⟨x,Z,x2,H⟩:=h.ng;rcases(show x<=qv (Nh a b)\/qv (Nh a b)<=x by grind)with q|q
  .have:=e.2 ⟨x,Z,q,H⟩;grind
  .exact⟨x,q,x2,H⟩
structure E32 (a:R2):Prop where
 p:0<a.2
 b1:bl a.1.natAbs<=32
 b2:bl a.2.natAbs<=32
theorem E32.slow(h:E32 a):E32 (slow a)/\qv (Go.Sky.slow a)=qv a/\Lw (Go.Sky.slow a)/\¬Hh a.1 a.2:=by obtain⟨e,f,g,j,k⟩:=Zc0 (n:=32) h.p h.b1 h.b2 O;exact⟨⟨f,g,j⟩,k,Zrt h.p e,e⟩
theorem Zj9(g:0<m.2):vlu (Pr xs) m<0↔Zj xs (qv m)<0:=by
 rw [Zli g];rcases Pm (Zj xs (qv m))with⟨f,e⟩|⟨f,e⟩|⟨f,e⟩
 .rw [e];constructor
  .intro h;exact absurd h O3
  .intro h;grind
 .rw [e];exact⟨λ_=>f,λ_=>O3⟩
 .rw [e,f];constructor
  .intro h;exact absurd h O3
  .intro h;grind
theorem end_l(k:E32 a)(e:qv a<=qv b)(h:vlu (Pr xs) (slow a)<0):Fnd xs (qv a) (qv b) (slow a):=by obtain⟨f,g,l,n⟩:=k.slow;have j:=(Zj9 f.p).1 h;exact⟨j,by rw [g];exact jY,by rw [g];exact e,aB f.b1 O3,aB f.b2 O3,l⟩
theorem end_r(k:E32 b)(e:qv a<=qv b)(h:vlu (Pr xs) (slow b)<0):Fnd xs (qv a) (qv b) (slow b):=by obtain⟨f,g,l,n⟩:=k.slow;have j:=(Zj9 f.p).1 h;exact⟨j,by rw [g];exact e,by rw [g];exact jY,aB f.b1 O3,aB f.b2 O3,l⟩
theorem Yfj(l:Cvd xs)(f:E32 a)(g:E32 b)(h:qv a<=qv b)(j:¬vlu (Pr xs) (slow a)<0)(k:¬vlu (Pr xs) (slow b)<0)(n:ngb (Pr xs) (Aa xs) a b=true) :
  NIn xs (qv a) (qv b) 0 (slow a) (slow b):=by
 obtain⟨v,w,B,D⟩:=f.slow;obtain⟨t1,t2,t3,t4⟩:=g.slow;have s:¬Zj xs (qv (slow a))<0:=λe=>j ((Zj9 v.p).2 e);have u:¬Zj xs (qv (slow b))<0:=λe=>k ((Zj9 t1.p).2 e);rw [w]at s;rw [t2]at u;exact NIn.start f.p g.p f.b1 f.b2 g.b1 g.b2 h O4 O4 ((Zkx l f.p g.p h).1 n)
theorem ngb_ne(h:ngb (Pr xs) (Aa xs) a b=true):xs≠[]:=λe=>by
 subst e;unfold ngb at h;split at h
 .exact absurd h (by show ¬decide ((0:Int)<0)=true;decide)
 .exact absurd h (by show ¬(decide ((0:Int)<0) || false)=true;decide)
theorem E32.efit(h:E32 a):efit a=true:=by have:=h.b1;have:=h.b2;unfold Go.Sky.efit;exact aH O
structure FIn (xs:List Int) (j:Nat) (a b:R2):Prop where
 ex:∃Q W,Hv 34 Q j W a b
 bj:j<=200
theorem FIn.start(e:E32 a)(f:E32 b)(g:qv a<=qv b):FIn xs 0 (slow a) (slow b):=by obtain⟨Q,h⟩:=Hv.start (n:=34) e.p f.p (aB e.b1 O3) (aB e.b2 O3) (aB f.b1 O3) (aB f.b2 O3) O g;exact⟨⟨Q,_,h⟩,O⟩
theorem FIn.round{j:Nat}(h:FIn xs j a b) :
  Ze7 a b/\(bl (Nh a b).1.natAbs<=5200/\bl (Nh a b).2.natAbs<=5200/\0<(Nh a b).2)/\(bl a.1.natAbs<=5200/\bl a.2.natAbs<=5200/\0<a.2)/\(bl b.1.natAbs<=5200/\bl b.2.natAbs<=5200/\0<b.2)/\
  (j<200->FIn xs (j+1) a (Nh a b)/\FIn xs (j+1) (Nh a b) b):=by
 obtain⟨Q,W,e⟩:=h.ex;have v:=h.bj;obtain⟨g,k,w,l,n,s,u⟩:=e.mid (B:=5200) O O;exact⟨g,k,l,n,λf=>⟨⟨⟨Q,W,s⟩,O⟩,⟨⟨Q,W,u⟩,O⟩⟩⟩
theorem Yrb(g:E32 a)(j:E32 b)(f:qv a<=qv b)(hi:i<2)(h:vlu (Pr xs) ([slow a,slow b].getD i (0,0))<0):Fnd xs (qv a) (qv b) ([slow a,slow b].getD i (0,0)):=by
 rcases(show i=0\/i=1 by omega)with e|e
 .subst e;exact end_l g f h
 .subst e;exact end_r j f h
theorem Yso(f:E32 a)(g:E32 b)(i:Nat)(hi:i<2):E32 ([slow a,slow b].getD i (0,0)):=by
 rcases(show i=0\/i=1 by omega)with e|e
 .subst e;exact f.slow.1
 .subst e;exact g.slow.1
def Yta(e:E32 a)(f:E32 b)(h:¬0<cmp a b):qv a<=qv b:=(Zsx e.p f.p).1 O
def Zfa:E32 (0,1):=⟨O3,O3,O3⟩
def Ze9:E32 (1,1):=⟨O3,O3,O3⟩
def Zdq:¬0<cmp (0,1) (1,1):=O7
def Hu(xs:List Int):Bool:=ngb (Pr xs) (Aa xs) (0,1) (1,1)
def plT(c:List Int)(a d:Int)(k:Nat):Int:=c.getD k 0*(a^k*d^(5-(k:Int)).toNat)
def plS(c:List Int)(a d:Int):Nat->Int
 | 0=>0
 | k+1=>plS c a d k+plT c a d k
def pl(c:List Int)(a d:Int):Int:=plS c a d c.length
def atS(a d:Int)(x y z:List Int):Nat->List Int
 | 0=>List.replicate 3 0
 | i+1=>(atS a d x y z i).set i (pl (Zt i x y z) a d)
def gS(ov a d:Int)(x y z:List Int):Nat->Int
 | 0=>ov*d^5
 | i+1=>(Int.gcd (gS ov a d x y z i) (pl (Zt i x y z) a d):Int)
abbrev plV (p q r o:Int):Value:= .agg #[.bool (decide (p<0)),.string (Qy p.natAbs),.bool (decide (q<0)),.string (Qy q.natAbs),.bool (decide (r<0)),.string (Qy r.natAbs),.bool (decide (o<0)),.string (Qy o.natAbs)]
theorem Bw(a d:Int)(x y z:List Int):∀i,(atS a d x y z i).length=3
 | 0=>rfl
 | i+1=>by show(List.set _ _ _).length=3;rw [cT];exact Bw a d x y z i
theorem Yoj(a d:Int)(x y z:List Int)(h:i<3):atS a d x y z i=(atS a d x y z i).set i 0:=by
 match i,h with
 | 0,_=>rfl
 | 1,_=>rfl
 | 2,_=>rfl
theorem Zuh{l:List Int}{v:Int}(h:i<l.length):(l.set i v).getD i 0=v:=by grind
theorem Ybj(h:∀x∈c,Lo x){a:Int}(j:0<=a/\a<=3600000)(l:1<=d/\d<=3600000){k:Nat}(n:k<=5):(a^k*d^(5-(k:Int)).toNat).natAbs<=3600000^5/\(plT c a d k).natAbs<=9223372036854775808*3600000^5:=by
 have e:(a^k*d^(5-(k:Int)).toNat).natAbs<=3600000^5:=by rw [cE,jQ,jQ];refine aB (aQ (fK (show a.natAbs<=3600000 by omega) k) (fK (show d.natAbs<=3600000 by omega) _)) ?_;rw [<-bP,show k+(5-(k:Int)).toNat=5 by omega];omega
 obtain⟨f,g⟩:=Lj h k;refine⟨e,?_⟩;unfold plT;rw [cE];exact aQ O e
theorem Ybl{c:List Int}(h:∀x∈c,Lo x){a d:Int}(e:0<=a/\a<=3600000)(f:1<=d/\d<=3600000):∀k,k<=6->(plS c a d k).natAbs<=k*(9223372036854775808*3600000^5)
 | 0,_=>by show(0:Int).natAbs<=_;omega
 | k+1,g=>by have j:=Ybl h e f k O;have:=(Ybj h e f (k:=k) O).2;show(plS c a d k+plT c a d k).natAbs<=_;omega
def Zdu(h:∀x∈c,Lo x){a:Int}(f:0<=a/\a<=3600000)(g:1<=d/\d<=3600000){k:Nat}(e:k<=6):bl (plS c a d k).natAbs<=180:=
 (Qo 180 _).2 (aV (Ybl h f g k e) (aV (aM _ e) O))
theorem Zta(h:∀x∈c,Lo x){a:Int}(g:0<=a/\a<=3600000)(j:1<=d/\d<=3600000){k:Nat}(l:k<=5):bl (a^k*d^(5-(k:Int)).toNat).natAbs<=180/\bl (plT c a d k).natAbs<=180:=by obtain⟨e,f⟩:=Ybj h g j l;exact⟨(Qo 180 _).2 (aV e O),(Qo 180 _).2 (aV f O)⟩
theorem Zja (a:Int)(f:0<=a/\a<=3600000){k:Nat}(e:k<=5):bl (a^k).natAbs<=180:=by refine(Qo 180 _).2 ?_;rw [jQ];exact aV (aB (fK (show a.natAbs<=3600000 by omega) k) (cY O e)) O
theorem Zwd{fr k ov:Int}{x y z:List Int}(h:Sgo fr k ov x y z){a d:Int}(e:0<=a/\a<=3600000)(f:1<=d/\d<=3600000):∀i,0<gS ov a d x y z i/\bl (gS ov a d x y z i).natAbs<=180
 | 0=>by have g:=h.o1;have j:=h.o2;refine⟨fH O (jC O),(Qo 180 _).2 ?_⟩;show(ov*d^5).natAbs<_;rw [cE,jQ];exact aV (aQ (show ov.natAbs<=4294967296 by omega) (fK (show d.natAbs<=3600000 by omega) 5)) O
 | i+1=>by obtain⟨g,j⟩:=Zwd h e f i;have l:0<Int.gcd (gS ov a d x y z i) (pl (Zt i x y z) a d):=jJ _ O;have n:=Zlc (gS ov a d x y z i) (pl (Zt i x y z) a d);have s:bl (pl _ a d).natAbs<=180:=Zdu (h.hc i) e f (h.lc i).2;show 0<((Int.gcd _ _):Int)/\bl ((Int.gcd _ _):Int).natAbs<=180;omega
def sameP(ov a d:Int)(x y z:List Int)(e g f:Int)(h j k:List Int):Bool:=
 decide (pl x a d/gS ov a d x y z 3=pl h g f/gS e g f h j k 3/\pl y a d/gS ov a d x y z 3=pl j g f/gS e g f h j k 3/\pl z a d/gS ov a d x y z 3=pl k g f/gS e g f h j k 3/\ov*d^5/gS ov a d x y z 3=e*f^5/gS e g f h j k 3)
def Zm1(g ov:Int)(x y z:List Int)(e f:Int)(h j k:List Int):Bool:=decide (g=e) && sameP ov 1 1 x y z f 0 1 h j k
structure Gin (g:Zv):Prop where
 f:Lo g.1.1
 t:Lo g.1.2.1
 o:Lo g.1.2.2
 x:∀a∈g.2.1.2,Lo a
 y:∀a∈g.2.2.1.2,Lo a
 z:∀a∈g.2.2.2.2,Lo a
def seB(g:Zv):Bool:=Zaz g.1.1 g.1.2.1 g.1.2.2 g.2.1.2 g.2.2.1.2 g.2.2.2.2
def meG(g h:Zv):Bool:=Zm1 g.1.2.1 g.1.2.2 g.2.1.2 g.2.2.1.2 g.2.2.2.2 h.1.1 h.1.2.2 h.2.1.2 h.2.2.1.2 h.2.2.2.2
abbrev SgG (g:Zv):Prop:=Sgo g.1.1 g.1.2.1 g.1.2.2 g.2.1.2 g.2.2.1.2 g.2.2.2.2
def Nz{g:Zv}(h:Gin g)(e:seB g=true):SgG g:=Sgo.of h.x h.y h.z e
def Zev(ps:List Zv)(i:Nat):Bool:=seB (ps.getD i G0) && (decide (i=0) || meG (ps.getD (i-1) G0) (ps.getD i G0))
def Qg(ps:List Zv):Bool:=(List.range ps.length).all (Zev ps) && decide (1<=ps.length) && decide (ps.length<=256)
theorem Zcb{ps:List Zv}(h:Zev ps i=true):seB (ps.getD i G0)=true:=by unfold Zev at h;rw [aY]at h;exact h.1
theorem Ykp{ps:List Zv}(h:seB (ps.getD i G0)=false):Zev ps i=false:=by unfold Zev;rw [h];rfl
theorem Ykq{ps:List Zv}(h:seB (ps.getD i G0)=true)(e:i=0):Zev ps i=true:=by unfold Zev;rw [h,aH e];rfl
theorem Ziu{ps:List Zv}(h:seB (ps.getD i G0)=true)(e:0<i):Zev ps i=meG (ps.getD (i-1) G0) (ps.getD i G0):=by unfold Zev;rw [h,aE O];rfl
theorem Zg2 (i:Nat){ps:List Zv}(hi:i<ps.length)(h:Zev ps i=false):Qg ps=false:=by
 unfold Qg;have:(List.range ps.length).all (Zev ps)=false:=by
  cases hb:(List.range ps.length).all (Zev ps)with
  | false=>rfl
  | true=>have:=bK.1 hb i (fM.2 hi);rw [h]at this;cases this
 rw [this];rfl
theorem Zku{ps:List Zv}(h:∀i,i<ps.length->Zev ps i=true):Qg ps=decide (1<=ps.length/\ps.length<=256):=by unfold Qg;rw [bK.2 λi hi=>h i (fM.1 hi)];simp
theorem Zpb(g:Zv)(i:Nat):seB g=false\/(seB g=true/\i=0)\/(seB g=true/\0<i):=by
 cases seB g
 .exact .inl rfl
 .exact .inr (by rcases bD i with h|h;exact .inl ⟨rfl,h⟩;exact .inr ⟨rfl,h⟩)
theorem Gq{ps:List Zv}(h:Qg ps=true):(∀i,i<ps.length->Zev ps i=true)/\1<=ps.length/\ps.length<=256:=by unfold Qg at h;simp only [aY,dI]at h;exact⟨λi hi=>bK.1 h.1.1 i (fM.2 hi),h.1.2,h.2⟩
open Go.ChangeShapes Go.WideShapes Go.ChangeAt Go.RowKit Go.Joins Go.Deep
open Go.Proofs
variable {P:Program} {W:World} {H:Type} {enc:TypeId×Value->H}
theorem Zi1{n:Int}(h:(Lit.int .i64 n).wf=true):Lo n:=by simp [Lit.wf,IntKind.has,IntKind.min,IntKind.max,IntKind.bits,IntKind.signed]at h;exact⟨O,O⟩
theorem Zi9{w:World}{a:Addr}{v:Value}(h:w.cell? a=some v):a.spot=none/\a.block<w.heap.size:=by
 unfold World.cell? at h;split at h
 .rename_i c t f e;refine⟨?_,(aT.1 e).1⟩;cases hs:a.spot with
  | none=>rfl
  | some x=>rw [hs]at h;simp at h
 .cases h
theorem Zit{t e:TypeId}{c:Value}{x:DataW H×List MemPlace}(hs:P.underlying t=some (.slice e))(he:P.underlying e=some (.int .i64))(hc:P.cellsOf e=1)(h:DataW.trod enc P W 0 (λ_=>true) true fuel t [c]=some x) :
  ∃(s:SL) (l:List Int),c=Xd s/\(Yl 1 Zz (Xd s) l).holds W/\∀a∈l,Lo a:=by
 rcases open_ints hs he hc h with⟨B,_⟩|⟨a,f,k,zs,B,_,hl,hm,hz,_,n,Z⟩
 .cases B;exact⟨(none,0,0),[],rfl,Gr 1 Zz W,λx Q=>by cases Q⟩
 .cases B;have a0:zs.length=k:=by simpa using hz
  have D:(zs.take f).length=f:=by rw [cQ];omega
  by_cases hn:f=0
  .subst hn;exact⟨(some a,0,k),[],rfl,⟨⟨some a,k,rfl,hl,hm,.inl rfl⟩,λb R=>absurd rfl R.1⟩,λx Q=>by cases Q⟩
  .have c0:=n 0 O;obtain⟨g,v,w⟩:=a;rw [show(⟨g,v,w⟩:Addr).add 0=⟨g,v,w⟩from rfl]at c0;obtain⟨I,G⟩:=Zi9 c0;simp only at I G;subst I;refine⟨(some ⟨g,v,none⟩,f,k),zs.take f,rfl,⟨⟨some ⟨g,v,none⟩,k,by rw [D],by rw [D];exact hl,hm,.inr ⟨g,v,rfl,λi x hi j u V=>?_⟩⟩,λb R=>by cases R.2;exact G⟩,λx Q=>?_⟩
   .have S:i<f:=by
     rcases bA i f with h|h
     .exact h
     .rw [bJ (by rw [D];exact h)]at hi;cases hi
    have Y:j=0:=by
     rcases j with _|j
     .rfl
     .simp [Value.cells]at V
    subst Y;have F:=n i O;rw [Ol]at F;rw [kD S]at hi;rw [aK,hi]at F;simp [Value.cells]at V;subst V;simpa using F
   .have F:=Z x (eR Q);have h3:=bounds_i64 F;exact⟨O,O⟩
theorem Yew {t ti ts e:TypeId} {f0 f1 f2 f3 f4 f5:Field} {cs:List Value}  {x:DataW H×List MemPlace} (ht:P.underlying t=some (.struct #[f0,f1,f2,f3,f4,f5]))
  (h0:f0.type=ti) (h1:f1.type=ti) (h2:f2.type=ti) (h3:f3.type=ts) (h4:f4.type=ts) (h5:f5.type=ts) (o0:f0.offset=0) (o1:f1.offset=1) (o2:f2.offset=2) (o3:f3.offset=3) (o4:f4.offset=4) (o5:f5.offset=5)
  (hi:P.underlying ti=some (.int .i64)) (hs:P.underlying ts=some (.slice e)) (v:P.underlying e=some (.int .i64)) (s:P.cellsOf e=1) (j:P.cellsOf ti=1) (k:P.cellsOf ts=1) (hC:P.cellsOf t=6)
  (h:DataW.trod enc P W 0 (λ_=>true) true fuel t cs=some x):∃g:Zv,cs=[.int .i64 g.1.1,.int .i64 g.1.2.1,.int .i64 g.1.2.2,Xd g.2.1.1,Xd g.2.2.1.1,Xd g.2.2.2.1]/\(qG g).holds W/\Gin g:=by
 obtain⟨xs,n,_,hx,hl,l,f⟩:=DataW.trod_struct ht h;rw [hC]at hl
 match cs,hl with
 | [c0,c1,c2,c3,c4,c5],_=>
 match xs,l with
 | [y0,y1,y2,y3,y4,y5],_=>
 have Q:=f 0 f0 rfl;have R:=f 1 f1 rfl;have S:=f 2 f2 rfl;have V:=f 3 f3 rfl;have Y:=f 4 f4 rfl;have Z:=f 5 f5 rfl;rw [h0,o0,j]at Q;rw [h1,o1,j]at R;rw [h2,o2,j]at S;rw [h3,o3,k]at V;rw [h4,o4,k]at Y;rw [h5,o5,k]at Z;obtain⟨m0,q0,w0⟩:=DataW.trod_int hi Q;obtain⟨m1,q1,w1⟩:=DataW.trod_int hi R;obtain⟨m2,q2,w2⟩:=DataW.trod_int hi S;obtain⟨sx,x,rfl,w,B⟩:=Zit (enc:=enc) hs v s (c:=c3) (x:=y3) V;obtain⟨sy,y,rfl,D,F⟩:=Zit (enc:=enc) hs v s (c:=c4) (x:=y4) Y;obtain⟨sz,z,rfl,G,I⟩:=Zit (enc:=enc) hs v s (c:=c5) (x:=y5) Z;simp at q0 q1 q2;subst q0;subst q1;subst q2;exact⟨((m0,m1,m2),(sx,x),(sy,y),(sz,z)),rfl,λu hu=>by
  simp only [bI,dA,fL]at hu;rcases hu with rfl|rfl|rfl
  .exact w
  .exact D
  .exact G,⟨Zi1 w0.2,Zi1 w1.2,Zi1 w2.2,B,F,I⟩⟩
end Go.Sky
namespace Go.Sky
open Go.ChangeShapes Go.WideShapes Go.ChangeAt Go.RowKit Go.Joins Go.Deep
open Go.Proofs
variable {P:Program} {W:World} {H:Type} {enc:TypeId×Value->H}
theorem Zyn {t ti:TypeId} {f0 f1 f2:Field} {v:Value} {d:DataW H} {p:List MemPlace} (q:P.underlying t=some (.struct #[f0,f1,f2])) (F:P.cellsOf t=3) (z:f0.type=ti) (B:f1.type=ti) (D:f2.type=ti) (R:f0.offset=0) (S:f1.offset=1) (V:f2.offset=2)
  (hi:P.underlying ti=some (.int .i64)) (f:P.cellsOf ti=1) {r:Reach} {x:Nat} (I:Value.okWide P W r x t v) (h:DataW.Trod enc P W 0 (λ_=>true) true t v d p):∃a b c:Int,v= .agg #[.int .i64 a,.int .i64 b,.int .i64 c]/\Lo a/\Lo b/\Lo c:=by
 obtain⟨y,rfl,e⟩:=okWide_struct q I;obtain⟨o,G⟩:=h;obtain⟨xs,n,_,hx,hl,i,g⟩:=DataW.trod_struct q G;rw [F]at e;obtain⟨l⟩:=y;have e:l.length=3:=by simpa using e
 match l,e with
 | [c0,c1,c2],_=>
 match xs,i with
 | [y0,y1,y2],_=>
 have j:=g 0 f0 rfl;have k:=g 1 f1 rfl;have m:=g 2 f2 rfl;rw [z,R,f]at j;rw [B,S,f]at k;rw [D,V,f]at m;obtain⟨M,s,Y⟩:=DataW.trod_int hi j;obtain⟨N,u,Z⟩:=DataW.trod_int hi k;obtain⟨Q,w,w2⟩:=DataW.trod_int hi m;simp [Value.cells]at s u w;subst s;subst u;subst w;exact⟨M,N,Q,rfl,Zi1 Y.2,Zi1 Z.2,Zi1 w2.2⟩
end Go.Sky
namespace Go.Proofs.YtlnoheikolgejaaGreat
open Go Go.Joins Go.Sky
def Ka{a b:Bool}(h:a=true)(c:b=true):(a && b)=true:=by rw [h,c];rfl
def cf0:(λ(P:Program) (f:FuncId) (fn:Func) (s:ChangeSpec) (c:OpenClaim)=>c.wf (OpenSpec.ofChange s)) Tryz.checked.prog 4 Tryz.f4 Rows.launchHoldsSpec Rows.launchHoldsRow=true:=O6
def cf1:(λ(P:Program) (f:FuncId) (fn:Func) (s:ChangeSpec) (c:OpenClaim)=>laidOutB P) Tryz.checked.prog 4 Tryz.f4 Rows.launchHoldsSpec Rows.launchHoldsRow=true:=O6
def cf2:(λ(P:Program) (f:FuncId) (fn:Func) (s:ChangeSpec) (c:OpenClaim)=>mapsRowed P) Tryz.checked.prog 4 Tryz.f4 Rows.launchHoldsSpec Rows.launchHoldsRow=true:=O6
def cf3:(λ(P:Program) (f:FuncId) (fn:Func) (s:ChangeSpec) (c:OpenClaim)=>fn.params.all (P.readableRec ·)) Tryz.checked.prog 4 Tryz.f4 Rows.launchHoldsSpec Rows.launchHoldsRow=true:=O6
def cf4:(λ(P:Program) (f:FuncId) (fn:Func) (s:ChangeSpec) (c:OpenClaim)=>namedTie P c.named s.vars) Tryz.checked.prog 4 Tryz.f4 Rows.launchHoldsSpec Rows.launchHoldsRow=true:=O6
def cf5:(λ(P:Program) (f:FuncId) (fn:Func) (s:ChangeSpec) (c:OpenClaim)=>c.stops == []) Tryz.checked.prog 4 Tryz.f4 Rows.launchHoldsSpec Rows.launchHoldsRow=true:=O6
def cf6:(λ(P:Program) (f:FuncId) (fn:Func) (s:ChangeSpec) (c:OpenClaim)=>P.stops == []) Tryz.checked.prog 4 Tryz.f4 Rows.launchHoldsSpec Rows.launchHoldsRow=true:=O6
def cf7:(λ(P:Program) (f:FuncId) (fn:Func) (s:ChangeSpec) (c:OpenClaim)=>c.knobs == []) Tryz.checked.prog 4 Tryz.f4 Rows.launchHoldsSpec Rows.launchHoldsRow=true:=O6
def cf8:(λ(P:Program) (f:FuncId) (fn:Func) (s:ChangeSpec) (c:OpenClaim)=>P.stopKnobs == []) Tryz.checked.prog 4 Tryz.f4 Rows.launchHoldsSpec Rows.launchHoldsRow=true:=O6
def cf9:(λ(P:Program) (f:FuncId) (fn:Func) (s:ChangeSpec) (c:OpenClaim)=>c.inPlace == P.inPlace f) Tryz.checked.prog 4 Tryz.f4 Rows.launchHoldsSpec Rows.launchHoldsRow=true:=O6
def cf10:(λ(P:Program) (f:FuncId) (fn:Func) (s:ChangeSpec) (c:OpenClaim)=>c.unfollowed == P.unfollowed f) Tryz.checked.prog 4 Tryz.f4 Rows.launchHoldsSpec Rows.launchHoldsRow=true:=O6
def cf11:(λ(P:Program) (f:FuncId) (fn:Func) (s:ChangeSpec) (c:OpenClaim)=>c.recurses == P.recurses f) Tryz.checked.prog 4 Tryz.f4 Rows.launchHoldsSpec Rows.launchHoldsRow=true:=O6
def cf12:(λ(P:Program) (f:FuncId) (fn:Func) (s:ChangeSpec) (c:OpenClaim)=>c.named == P.varsNamed f) Tryz.checked.prog 4 Tryz.f4 Rows.launchHoldsSpec Rows.launchHoldsRow=true:=O6
def cf13:(λ(P:Program) (f:FuncId) (fn:Func) (s:ChangeSpec) (c:OpenClaim)=>(c.maps == (fn.params.toList ++ s.plain.varTypes P).any (P.mapsRec ·))) Tryz.checked.prog 4 Tryz.f4 Rows.launchHoldsSpec Rows.launchHoldsRow=true:=O6
def cf14:(λ(P:Program) (f:FuncId) (fn:Func) (s:ChangeSpec) (c:OpenClaim)=>(c.ifaces == (fn.params.toList ++ s.plain.varTypes P).any (P.ifacesRec ·))) Tryz.checked.prog 4 Tryz.f4 Rows.launchHoldsSpec Rows.launchHoldsRow=true:=O6
def cf15:(λ(P:Program) (f:FuncId) (fn:Func) (s:ChangeSpec) (c:OpenClaim)=>c.mapsOut == P.mapsAmong fn.resultTypes.toList) Tryz.checked.prog 4 Tryz.f4 Rows.launchHoldsSpec Rows.launchHoldsRow=true:=O6
def cf16:(λ(P:Program) (f:FuncId) (fn:Func) (s:ChangeSpec) (c:OpenClaim)=>(c.loops == (fn.params.toList ++ s.plain.varTypes P).any (P.loopsFrom ·))) Tryz.checked.prog 4 Tryz.f4 Rows.launchHoldsSpec Rows.launchHoldsRow=true:=O6
def cf17:(λ(P:Program) (f:FuncId) (fn:Func) (s:ChangeSpec) (c:OpenClaim)=>(c.wideKeys == (fn.params.toList ++ s.plain.varTypes P ++ fn.resultTypes.toList).any (P.wideKeysFrom ·))) Tryz.checked.prog 4 Tryz.f4 Rows.launchHoldsSpec Rows.launchHoldsRow=true:=O6
def cf18:(λ(P:Program) (f:FuncId) (fn:Func) (s:ChangeSpec) (c:OpenClaim)=>s.vars.all (P.varReadable ·)) Tryz.checked.prog 4 Tryz.f4 Rows.launchHoldsSpec Rows.launchHoldsRow=true:=O6
def cf19:(λ(P:Program) (f:FuncId) (fn:Func) (s:ChangeSpec) (c:OpenClaim)=>fn.resultTypes.all (λt=>P.readableRec t && decide (t<P.types.size))) Tryz.checked.prog 4 Tryz.f4 Rows.launchHoldsSpec Rows.launchHoldsRow=true:=O6
def cf20:(λ(P:Program) (f:FuncId) (fn:Func) (s:ChangeSpec) (c:OpenClaim)=>(c.ifacesOut == fn.resultTypes.toList.any (P.ifacesRec ·))) Tryz.checked.prog 4 Tryz.f4 Rows.launchHoldsSpec Rows.launchHoldsRow=true:=O6
def cf21:(λ(P:Program) (f:FuncId) (fn:Func) (s:ChangeSpec) (c:OpenClaim)=>(c.loopsOut == fn.resultTypes.toList.any (P.loopsFrom ·))) Tryz.checked.prog 4 Tryz.f4 Rows.launchHoldsSpec Rows.launchHoldsRow=true:=O6
def cf22:(λ(P:Program) (f:FuncId) (fn:Func) (s:ChangeSpec) (c:OpenClaim)=>c.plainKeys == P.plainKeys) Tryz.checked.prog 4 Tryz.f4 Rows.launchHoldsSpec Rows.launchHoldsRow=true:=O6
def cf23:(λ(P:Program) (f:FuncId) (fn:Func) (s:ChangeSpec) (c:OpenClaim)=>c.shortTexts.isNone) Tryz.checked.prog 4 Tryz.f4 Rows.launchHoldsSpec Rows.launchHoldsRow=true:=O6
def cf24:(λ(P:Program) (f:FuncId) (fn:Func) (s:ChangeSpec) (c:OpenClaim)=>P.stopsHeard) Tryz.checked.prog 4 Tryz.f4 Rows.launchHoldsSpec Rows.launchHoldsRow=true:=O6
def cf25:(λ(P:Program) (f:FuncId) (fn:Func) (s:ChangeSpec) (c:OpenClaim)=>P.mayEnter) Tryz.checked.prog 4 Tryz.f4 Rows.launchHoldsSpec Rows.launchHoldsRow=true:=O6
def cf26:(λ(P:Program) (f:FuncId) (fn:Func) (s:ChangeSpec) (c:OpenClaim)=>c.lifted == P.liftsFinal) Tryz.checked.prog 4 Tryz.f4 Rows.launchHoldsSpec Rows.launchHoldsRow=true:=O6
def cf27:(λ(P:Program) (f:FuncId) (fn:Func) (s:ChangeSpec) (c:OpenClaim)=>P.make == some c.make) Tryz.checked.prog 4 Tryz.f4 Rows.launchHoldsSpec Rows.launchHoldsRow=true:=O6
def cf28:(λ(P:Program) (f:FuncId) (fn:Func) (s:ChangeSpec) (c:OpenClaim)=>c.kinds == (if c.domain.isEmpty then []else fn.params.toList.map λt=>match P.underlying t with|some (.int k)=>some k|_=>none)) Tryz.checked.prog 4 Tryz.f4 Rows.launchHoldsSpec Rows.launchHoldsRow=true:=O6
def cf29:(λ(P:Program) (f:FuncId) (fn:Func) (s:ChangeSpec) (c:OpenClaim)=>c.pinned == c.pinnedBy) Tryz.checked.prog 4 Tryz.f4 Rows.launchHoldsSpec Rows.launchHoldsRow=true:=O6
def cf30:(λ(P:Program) (f:FuncId) (fn:Func) (s:ChangeSpec) (c:OpenClaim)=>(c.veiled == (fn.params.toList ++ s.plain.varTypes P ++ fn.resultTypes.toList).any (P.veiledRec ·))) Tryz.checked.prog 4 Tryz.f4 Rows.launchHoldsSpec Rows.launchHoldsRow=true:=O6
def cf31:(λ(P:Program) (f:FuncId) (fn:Func) (s:ChangeSpec) (c:OpenClaim)=>c.veiledFits P fn.params.toList (fn.params.toList ++ s.plain.varTypes P ++ fn.resultTypes.toList)) Tryz.checked.prog 4 Tryz.f4 Rows.launchHoldsSpec Rows.launchHoldsRow=true:=O6
set_option maxRecDepth 100000 in
def closed:joinedFacts Tryz.checked.prog 4 Tryz.f4 Rows.launchHoldsSpec Rows.launchHoldsRow=true:=(Ka (Ka (Ka (Ka (Ka (Ka (Ka (Ka (Ka (Ka (Ka (Ka (Ka (Ka (Ka (Ka (Ka (Ka (Ka (Ka (Ka (Ka (Ka (Ka (Ka (Ka (Ka (Ka (Ka (Ka (Ka cf0 cf1) cf2) cf3) cf4) cf5) cf6) cf7) cf8) cf9) cf10) cf11) cf12) cf13) cf14) cf15) cf16) cf17) cf18) cf19) cf20) cf21) cf22) cf23) cf24) cf25) cf26) cf27) cf28) cf29) cf30) cf31)
end Go.Proofs.YtlnoheikolgejaaGreat
namespace Go.Sky
variable {P:Program} {N:Nat} {sc:Nat->Prop} {env env':Px} {H H':Hp} {Q Q':Exit->Act->World->Prop} {M:Nat->Prop}
@[reducible] def lk2 {α:Type} : List (Nat×α)->Nat->Option α
 | [],_=>none
 | (k,v)::r,n=>match Nat.beq k n with
  | true=>some v
  | false=>lk2 r n
theorem Zyw{α:Type} : ∀(e:List (Nat×α)) (n:Nat),lk2 e n=lk e n
 | [],_=>rfl
 | (k,v)::r,n=>by unfold lk2 lk;cases Nat.beq k n<;>simp [Zyw r n]
@[reducible] def ev2 (e:Px):Operand->Option Value
 | .tmp t=>lk2 e t
 | .const v=>some v
 | .global g=>some (.pointer (some ⟨g,0,none⟩))
 | .func f=>some (.func (.func f) #[] #[])
theorem ev2_eq(e:Px)(x:Operand):ev2 e x=ev e x:=by cases x<;>simp [ev2,ev,Zyw]
@[reducible] def nth {α:Type} : List α->Nat->Option α
 | [],_=>none
 | x::r,n=>match n with
  | 0=>some x
  | n+1=>nth r n
theorem Zyo{α:Type} : ∀(l:List α) (n:Nat),nth l n=l[n]?
 | [],n=>by rfl
 | x::r,0=>by rfl
 | x::r,n+1=>by simp [nth,Zyo r n]
@[reducible] def ltb (a b:Nat):Bool:=match Nat.ble b a with
 | true=>false
 | false=>true
theorem Nt{a b:Nat}(h:ltb a b=true):Nat.blt a b=true:=by
 cases hb:Nat.ble b a with
 | true=>grind
 | false=>
  have c:¬b<=a:=λd=>by grind [Nat.ble_eq_true_of_le]
  simp_all
@[reducible] def neb (a b:Nat):Bool:=match Nat.beq a b with
 | true=>false
 | false=>true
theorem Zcd{a b:Nat}(h:neb a b=true):a≠b:=λe=>by grind [Nat.beq_refl]
class Som {α:Type} (a:Option α) (b:outParam α):Prop where h:a=some b
instance {α:Type} {b:α} : Som (some b) b:=⟨rfl⟩
class TB (a:Bool):Prop where h:a=true
instance:TB true:=⟨rfl⟩
def Som.e{x:Operand}{v:Value}(h:Som (ev2 env x) v):ev env x=some v:=(ev2_eq env x).symm.trans h.h
def Som.l{α:Type}{e:List (Nat×α)}{n:Nat}{v:α}(h:Som (lk2 e n) v):lk e n=some v:=(Zyw e n).symm.trans h.h
theorem Som.n{α:Type}{l:List α}{n:Nat}{v:α}(h:Som (nth l n) v):l.toArray[n]? = some v:=by have:=(Zyo l n).symm.trans h.h;simpa using this
class AndO (s q:Prop) (r:outParam Prop):Prop where h:r->s/\q
instance (priority:=low) {s q:Prop} : AndO s q (s/\q):=⟨id⟩
instance {q:Prop} : AndO True q q:=⟨λh=>⟨aA,h⟩⟩
class Und (P:Program) (t:TypeId) (d:outParam TypeDesc):Prop where h:P.underlying t=some d
class Siz (P:Program) (t:TypeId) (k:outParam Nat):Prop where h:∀w,(sizeOf t).run P w= .ok k w
class Agg (P:Program) (t:TypeId) (b:outParam Bool):Prop where h:∀w,(isAgg t).run P w= .ok b w
class EncT {α:Type} (P:Program) (t:TypeId) (k:Nat) (enc:α->Value):Prop where h:Enc P t k enc
class RdI (P:Program) (H:Hp) (v:Value) (i:outParam Nat) {α:outParam Type} (k:outParam Nat) (enc:outParam (α->Value)) (xs:outParam (List α)):Prop where
 h:∃p,lk H i=some p/\Rd p k enc v xs
instance {α:Type} {v:Value} {i k:Nat} {enc:α->Value} {xs:List α} : RdI P ((i,Yl k enc v xs)::H) v i k enc xs:=⟨_,Yv _ _ _,Zl⟩
instance {α:Type} {v:Value} {i k:Nat} {enc:α->Value} {xs:List α} {e:TypeId} [h:EncT P e k enc]:RdI P ((i,Oe k e enc v xs)::H) v i k enc xs:=⟨_,Yv _ _ _,Yb h.h⟩
instance {β:Type} {v:Value} {i k:Nat} {enc:β->Value} {q:β->Pc} {zs:List β} : RdI P ((i,Xv k enc q v zs)::H) v i k enc zs:=⟨_,Yv _ _ _,Zc⟩
instance (priority:=low) {α:Type} {v:Value} {i j k:Nat} {p:Pc} {enc:α->Value} {xs:List α} [h:RdI P H v i k enc xs] [hn:TB (neb j i)]:RdI P ((j,p)::H) v i k enc xs:=
 ⟨by obtain⟨q,h1,h2⟩:=h.h;exact⟨q,by rw [Yc _ _ (Zcd hn.h)];exact h1,h2⟩⟩
class BxI (H:Hp) (b:Nat) (i:outParam Nat) (t:outParam TypeId) (l:outParam (List Value)):Prop where h:lk H i=some (box b t l.toArray)
instance {b i:Nat} {t:TypeId} {l:List Value} : BxI ((i,box b t l.toArray)::H) b i t l:=⟨Yv _ _ _⟩
instance (priority:=low) {b i j:Nat} {t:TypeId} {p:Pc} {l:List Value} [h:BxI H b i t l] [hn:TB (neb j i)]:BxI ((j,p)::H) b i t l:=⟨by rw [Yc _ _ (Zcd hn.h)];exact h.h⟩
class RxI (H:Hp) (b:Nat) (i:outParam Nat) (t:outParam TypeId) (l:outParam (List Value)):Prop where h:lk H i=some (Hm b t l.toArray)
instance {b i:Nat} {t:TypeId} {l:List Value} : RxI ((i,Hm b t l.toArray)::H) b i t l:=⟨Yv _ _ _⟩
instance (priority:=low) {b i j:Nat} {t:TypeId} {p:Pc} {l:List Value} [h:RxI H b i t l] [hn:TB (neb j i)]:RxI ((j,p)::H) b i t l:=⟨by rw [Yc _ _ (Zcd hn.h)];exact h.h⟩
class DI (P:Program) (N:Nat) (sc:Nat->Prop) (op:Go.Op) (env:Px) (H:Hp) (v:outParam Value) (s:outParam Prop):Prop where
 h:s->∀{d:Option Tmp} {ty:TypeId} {pos:String} {af:Array Edge} {g:Option (Nat×Bool)},Mr P N sc ⟨d,op,ty,pos,af,g⟩ env H v
section
variable {x y c:Operand} {v u:Value} {t t':TypeId} {k:IntKind} {m n:Int}
instance [h:Som (ev2 env x) v]:DI P N sc (.move x) env H v True:=⟨λ_=>Zdm rfl h.e⟩
instance [h:Som (ev2 env x) v]:DI P N sc (.assign x) env H v True:=⟨λ_=>d_as rfl h.e⟩
instance {i:Nat} {vs:List Value} [h:Som (ev2 env x) (.tuple vs.toArray)] [h2:Som (nth vs i) v]:DI P N sc (.extract x i) env H v True:=⟨λ_=>Zze rfl h.e h2.n⟩
instance {ad:Addr} [h:Som (ev2 env x) (.pointer (some ad))]:DI P N sc (.nilCheck x) env H (.pointer (some ad)) True:=⟨λ_=>d_nc rfl h.e⟩
instance {p:Prop} [Decidable p] [h:Som (ev2 env x) (.bool (decide p))]:DI P N sc (.unOp .not t x) env H (.bool (decide (¬p))) True:=⟨λ_=>d_not rfl h.e⟩
instance (priority:=low) {b:Bool} [h:Som (ev2 env x) (.bool b)]:DI P N sc (.unOp .not t x) env H (.bool (!b)) True:=⟨λ_=>Qn rfl h.e⟩
instance (priority:=high) [h:Som (ev2 env x) (.bool true)]:DI P N sc (.unOp .not t x) env H (.bool false) True:=⟨λ_=>Qn rfl h.e⟩
instance (priority:=high) [h:Som (ev2 env x) (.bool false)]:DI P N sc (.unOp .not t x) env H (.bool true) True:=⟨λ_=>Qn rfl h.e⟩
instance [h:Som (ev2 env c) (.bool true)] [h1:Som (ev2 env x) v]:DI P N sc (.pick c x y) env H v True:=⟨λ_=>Bz rfl h.e h1.e⟩
instance [h:Som (ev2 env c) (.bool false)] [h1:Som (ev2 env y) v]:DI P N sc (.pick c x y) env H v True:=⟨λ_=>Zes rfl h.e h1.e⟩
instance [h:Som (ev2 env x) (.int k m)] [h1:Som (ev2 env y) (.int k n)]:DI P N sc (.binOp .lss t x y t') env H (.bool (decide (m<n))) True:=⟨λ_=>Ym7 rfl h.e h1.e⟩
instance [h:Som (ev2 env x) (.int k m)] [h1:Som (ev2 env y) (.int k n)]:DI P N sc (.binOp .leq t x y t') env H (.bool (decide (m<=n))) True:=⟨λ_=>d_leq rfl h.e h1.e⟩
instance [h:Som (ev2 env x) (.int k m)] [h1:Som (ev2 env y) (.int k n)]:DI P N sc (.binOp .gtr t x y t') env H (.bool (decide (n<m))) True:=⟨λ_=>Zbp rfl h.e h1.e⟩
instance [h:Som (ev2 env x) (.int k m)] [h1:Som (ev2 env y) (.int k n)]:DI P N sc (.binOp .geq t x y t') env H (.bool (decide (n<=m))) True:=⟨λ_=>d_geq rfl h.e h1.e⟩
instance [h:Som (ev2 env x) (.int k m)] [h1:Som (ev2 env y) (.int k n)]:DI P N sc (.binOp .eql t x y t') env H (.bool (decide (m=n))) True:=⟨λ_=>Ym8 rfl h.e h1.e⟩
instance [h:Som (ev2 env x) (.int k m)] [h1:Som (ev2 env y) (.int k n)]:DI P N sc (.binOp .neq t x y t') env H (.bool (decide (m≠n))) True:=⟨λ_=>Ym5 rfl h.e h1.e⟩
instance {a b:Bool} [h:Som (ev2 env x) (.bool a)] [h1:Som (ev2 env y) (.bool b)] [h2:Und P t .bool]:DI P N sc (.binOp .eql t x y t') env H (.bool (a == b)) True:=⟨λ_=>d_eqb rfl h.e h1.e h2.h⟩
instance {a b:Bool} [h:Som (ev2 env x) (.bool a)] [h1:Som (ev2 env y) (.bool b)] [h2:Und P t .bool]:DI P N sc (.binOp .neq t x y t') env H (.bool (a != b)) True:=⟨λ_=>d_neb rfl h.e h1.e h2.h⟩
instance [h:Som (ev2 env x) (.int .i64 m)] [h1:Som (ev2 env y) (.int .i64 n)]:DI P N sc (.binOp .add t x y t') env H (.int .i64 (m+n)) (-9223372036854775808<=m+n/\m+n<=9223372036854775807):=⟨λs=>d_add rfl h.e h1.e s⟩
instance [h:Som (ev2 env x) (.int .i64 m)] [h1:Som (ev2 env y) (.int .i64 n)]:DI P N sc (.binOp .sub t x y t') env H (.int .i64 (m-n)) (-9223372036854775808<=m-n/\m-n<=9223372036854775807):=⟨λs=>d_sub rfl h.e h1.e s⟩
instance [h:Som (ev2 env x) (.int .i64 m)] [h1:Som (ev2 env y) (.int .i64 n)]:DI P N sc (.binOp .mul t x y t') env H (.int .i64 (m*n)) (-9223372036854775808<=m*n/\m*n<=9223372036854775807):=⟨λs=>d_mul rfl h.e h1.e s⟩
instance {i kk:Nat} {α:Type} {enc:α->Value} {xs:List α} {e:TypeId} [h:Som (ev2 env x) v] [h1:RdI P H v i kk enc xs] [h2:Und P t (.slice e)]:DI P N sc (.call { callee:= .builtin .len,args:=#[x],argTypes:=#[t] }) env H (.int .i64 xs.length) True:=
 ⟨λ_=>by obtain⟨p,h3,h4⟩:=h1.h;exact Yc3 rfl h.e h3 h4 h2.h⟩
instance {s:ByteArray} [h:Som (ev2 env x) (.string s)] [h2:Und P t .string]:DI P N sc (.call { callee:= .builtin .len,args:=#[x],argTypes:=#[t] }) env H (.int .i64 s.size) True:=⟨λ_=>d_lens rfl h.e h2.h⟩
end
@[reducible] def eqb (a b:Nat):Bool:=match Nat.beq a b with
 | true=>true
 | false=>false
theorem eqb_eq{a b:Nat}(h:eqb a b=true):a=b:=by grind [Nat.eq_of_beq_eq_true]
@[reducible] def lenq {α:Type} : List α->Nat->Bool
 | [],n=>match n with
  | 0=>true
  | _+1=>false
 | _::r,n=>match n with
  | 0=>false
  | n+1=>lenq r n
theorem Zhc{α:Type} : ∀{l:List α} {n:Nat},lenq l n=true->l.length=n
 | [],0,_=>rfl
 | [],n+1,h=>O4
 | _::r,0,h=>O4
 | _::r,n+1,h=>by have:=Zhc (by simpa [lenq]using h);simp [this]
@[reducible] def fit0 {α β:Type} : List α->List β->Bool
 | _,[]=>true
 | l,_::vs=>match l with
  | []=>false
  | _::r=>fit0 r vs
@[reducible] def fits {α β:Type} : List α->Nat->List β->Bool
 | [],j,a=>match j with
  | 0=>fit0 ([]:List α) a
  | _+1=>false
 | x::r,j,a=>match j with
  | 0=>fit0 (x::r) a
  | j+1=>fits r j a
theorem Zse{α β:Type} : ∀{vs:List β} {l:List α},fit0 l vs=true->vs.length<=l.length
 | [],_,_=>O5
 | _::vs,[],h=>O4
 | _::vs,_::r,h=>by simp_all [Zse]
theorem Yci{α β:Type} : ∀{l:List α} {j:Nat} {vs:List β},fits l j vs=true->j+vs.length<=l.length
 | [],0,vs,h=>by have:=Zse O;omega
 | [],j+1,vs,h=>O4
 | x::r,0,vs,h=>by have:=Zse O;omega
 | x::r,j+1,vs,h=>by have:=Yci (l:=r) O;grind
@[reducible] def seg {α:Type} : List α->Nat->Nat->List α
 | [],_,_=>[]
 | x::r,j,k=>match j with
  | j+1=>seg r j k
  | 0=>match k with
   | 0=>[]
   | k+1=>x::seg r 0 k
theorem Zkf{α:Type} : ∀(l:List α) (j k n:Nat) (u:α),(seg l j k)[n]? = some u->l[j+n]? = some u
 | [],_,_,_,_,h=>O4
 | x::r,j+1,k,n,u,h=>by have:=Zkf r j k n u (by simpa [seg]using h);rw [show j+1+n=(j+n)+1 by omega];simpa using this
 | x::r,0,0,n,u,h=>O4
 | x::r,0,k+1,0,u,h=>O4
 | x::r,0,k+1,n+1,u,h=>by have:=Zkf r 0 k n u O4;grind
class LEv {α:Type} (l:List α) (r:outParam (List α)):Prop where h:l=r
instance {α:Type} : LEv ([]:List α) []:=⟨rfl⟩
instance {α:Type} {a:α} {l r:List α} [h:LEv l r]:LEv (a::l) (a::r):=⟨by rw [h.h]⟩
class AddN (a b:Nat) (c:outParam Nat):Prop where h:a+b=c
instance (priority:=low) {a b:Nat} : AddN a b (a+b):=⟨rfl⟩
instance {b:Nat} : AddN 0 b b:=⟨cD b⟩
instance {a:Nat} : AddN a 0 a:=⟨rfl⟩
class Df (α:Type) (d:outParam α):Prop where t:True
instance:Df Int 0:=⟨aA⟩
instance:Df Nat 0:=⟨aA⟩
section
variable {x y:Operand} {v u:Value} {t tb:TypeId} {b j i k f:Nat} {l vs ws:List Value}
instance [h:Som (ev2 env x) (.pointer (some ⟨b,j,none⟩))] [h1:Agg P t false] [h2:BxI H b i tb l] [h3:Som (nth l j) v]:DI P N sc (.load t x) env H v True:=⟨λ_=>Yge _ rfl h.e h2.h h1.h h3.n⟩
instance [h:Som (ev2 env x) (.pointer (some ⟨b,j,none⟩))] [h1:Agg P t true] [h2:BxI H b i tb l] [h4:Siz P t k] [h3:LEv (seg l j k) vs] [h5:TB (lenq vs k)]:DI P N sc (.load t x) env H (.agg vs.toArray) True:=
 ⟨λ_=>Yc4 rfl h.e h2.h h1.h h4.h (Zhc h5.h) (λn u hu=>by rw [<-h3.h]at hu;simpa using Zkf l j k n u hu)⟩
instance [h:Som (ev2 env x) (.pointer (some ⟨b,j,none⟩))] [h1:Agg P t false] [h2:RxI H b i tb l] [h3:Som (nth l j) v]:DI P N sc (.load t x) env H v True:=⟨λ_=>d_lr rfl h.e h2.h h1.h h3.n⟩
instance [h:Som (ev2 env x) (.pointer (some ⟨b,j,none⟩))] [h1:Agg P t true] [h2:RxI H b i tb l] [h4:Siz P t k] [h3:LEv (seg l j k) vs] [h5:TB (lenq vs k)]:DI P N sc (.load t x) env H (.agg vs.toArray) True:=
 ⟨λ_=>d_lra rfl h.e h2.h h1.h h4.h (Zhc h5.h) (λn u hu=>by rw [<-h3.h]at hu;simpa using Zkf l j k n u hu)⟩
instance {fs:List Field} {c q bo:Nat} {nm tag pk:String} {ft:TypeId} {em:Bool} [h:Som (ev2 env x) (.pointer (some ⟨b,j,none⟩))] [h1:Und P t (.struct fs.toArray)] [h2:Som (nth fs f) ⟨nm,ft,q,em,tag,pk,bo⟩] [h3:Siz P ft k] [h5:TB (neb k 0)] [h4:AddN j q c] :
  DI P N sc (.fieldAddr t x f) env H (.pointer (some ⟨b,c,none⟩)) True:=⟨λ_=>by
 obtain⟨k,rfl⟩:=Nat.exists_eq_succ_of_ne_zero (Zcd h5.h);exact d_fa rfl h.e h1.h h2.n h3.h rfl h4.h⟩
instance {α:Type} {enc:α->Value} {xs:List α} {e:TypeId} {kd:IntKind} {n:Nat} [h:Som (ev2 env x) v] [h1:Som (ev2 env y) (.int kd (n:Int))] [h2:RdI P H v i k enc xs] [h3:Und P t (.slice e)] [h4:Siz P e k] :
  DI P N sc (.indexAddr t x y) env H (.pointer (some (ead v n k))) (n<xs.length):=⟨λs=>by obtain⟨p,h5,h6⟩:=h2.h;exact Zs _ _ rfl h.e h1.e h5 h6 h3.h h4.h rfl s⟩
instance {α:Type} {enc:α->Value} {xs:List α} {e:TypeId} {kd:IntKind} {n:Nat} [h:Som (ev2 env x) v] [h1:Som (ev2 env y) (.int kd (@OfNat.ofNat Int n (@instOfNat n)))] [hl:TB (eqb n n)] [h2:RdI P H v i k enc xs] [h3:Und P t (.slice e)] [h4:Siz P e k] :
  DI P N sc (.indexAddr t x y) env H (.pointer (some (ead v (@OfNat.ofNat Nat n (instOfNatNat n)) k))) (@OfNat.ofNat Nat n (instOfNatNat n)<xs.length):=⟨λs=>by obtain⟨p,h5,h6⟩:=h2.h;exact Zs _ _ rfl h.e h1.e h5 h6 h3.h h4.h rfl s⟩
instance {α:Type} {enc:α->Value} {xs:List α} {n:Nat} {d0:α} [h:Som (ev2 env x) (.pointer (some (ead v n k)))] [h2:RdI P H v i k enc xs] [h3:EncT P t k enc] [h4:Df α d0] :
  DI P N sc (.load t x) env H (enc (xs.getD n d0)) (n<xs.length):=⟨λs=>by obtain⟨p,h5,h6⟩:=h2.h;exact Yr _ d0 rfl h.e h5 h6 h3.h s⟩
instance {fs:List Field} {q bo:Nat} {nm tag pk:String} {ft:TypeId} {em:Bool} [h:Som (ev2 env x) (.agg l.toArray)] [h1:Und P t (.struct fs.toArray)] [h2:Som (nth fs f) ⟨nm,ft,q,em,tag,pk,bo⟩] [h3:Agg P ft false] [h4:Som (nth l q) v] :
  DI P N sc (.field t x f) env H v True:=⟨λ_=>d_fld rfl h.e h1.h h2.n h3.h h4.n⟩
end
class Adv (n:Nat) (p:Prop) (q:outParam Prop):Prop where h:q->p
def go(n:Nat){p q:Prop}[h:Adv n p q](k:q):p:=h.h k
@[reducible] def dsto (l:List Oper) (j:Nat):Option Nat:=match nth l j with
 | some o=>o.dst
 | none=>none
theorem Cj{l:List Oper}{j e:Nat}(h:Som (dsto l j) e):(l.toArray[j]?).bind (·.dst)=some e:=by
 have h:=h.h;unfold dsto at h;rw [Zyo]at h;simp only [List.getElem?_toArray];cases hb:l[j]? with
 | none=>rw [hb]at h;cases h
 | some o=>rw [hb]at h;exact h
section
variable {n:Nat} {q r s:Prop} {c x y:Code} {id:Nat} {l:List Oper} {ops:Array Oper} {rest:List Oper} {d j t:Nat} {op:Go.Op} {ty:TypeId} {pos:String} {af:Array Edge} {v:Value} {e:Exit} {b:Bool}
instance {p:Prop} : Adv 0 p p:=⟨λk=>k⟩
instance [h:Adv n (E P N sc x (Exit.then (y.wp P Q) Q) env H) q]:Adv (n+1) (E P N sc (.seq x y) Q env H) q:=⟨λk=>e_seq (h.h k)⟩
instance [h:Adv n (L P N sc l.toArray l Q env H) q]:Adv (n+1) (E P N sc (.region id l.toArray false) Q env H) q:=⟨λk=>e_reg (h.h k)⟩
instance [h:Adv n (X N sc .normal Q env H) q]:Adv (n+1) (E P N sc .skip Q env H) q:=⟨λk=>e_skip (h.h k)⟩
instance [h:Adv n (E P N sc c (Exit.inBlock id Q) env H) q]:Adv (n+1) (E P N sc (.block id c) Q env H) q:=⟨λk=>Ysn (h.h k)⟩
instance [h:Adv n (X N sc (.exit id) Q env H) q]:Adv (n+1) (E P N sc (.exit id) Q env H) q:=⟨λk=>e_exit (h.h k)⟩
instance [h:Adv n (X N sc .ret Q env H) q]:Adv (n+1) (E P N sc .ret Q env H) q:=⟨λk=>e_ret (h.h k)⟩
instance {o:Operand} [h1:Som (ev2 env o) (.bool true)] [h:Adv n (E P N sc x Q env H) q]:Adv (n+1) (E P N sc (.cond o x y) Q env H) q:=⟨λk=>Ysl h1.e (h.h k)⟩
instance {o:Operand} [h1:Som (ev2 env o) (.bool false)] [h:Adv n (E P N sc y Q env H) q]:Adv (n+1) (E P N sc (.cond o x y) Q env H) q:=⟨λk=>Ysm h1.e (h.h k)⟩
instance [h:Adv n (E P N sc y Q env H) q]:Adv (n+1) (X N sc .normal (Exit.then (y.wp P Q) Q) env H) q:=⟨λk=>x_then (h.h k)⟩
instance {K:Act->World->Prop} [h:Adv n (X N sc .ret Q env H) q]:Adv (n+1) (X N sc .ret (Exit.then K Q) env H) q:=⟨λk=>x_ret (h.h k)⟩
instance {K:Act->World->Prop} [h:Adv n (X N sc (.exit id) Q env H) q]:Adv (n+1) (X N sc (.exit id) (Exit.then K Q) env H) q:=⟨λk=>x_exit (h.h k)⟩
instance [h:Adv n (X N sc .normal Q env H) q]:Adv (n+1) (X N sc .normal (Exit.inBlock id Q) env H) q:=⟨λk=>x_bn (h.h k)⟩
instance [h:Adv n (X N sc .ret Q env H) q]:Adv (n+1) (X N sc .ret (Exit.inBlock id Q) env H) q:=⟨λk=>x_br (h.h k)⟩
instance [h:Adv n (X N sc .normal Q env H) q]:Adv (n+1) (X N sc (.exit id) (Exit.inBlock id Q) env H) q:=⟨λk=>x_be (h.h k)⟩
instance (priority:=low) {id':Nat} [hn:TB (neb id' id)] [h:Adv n (X N sc (.exit id') Q env H) q]:Adv (n+1) (X N sc (.exit id') (Exit.inBlock id Q) env H) q:=⟨λk=>x_bo (Zcd hn.h) (h.h k)⟩
instance [h:Adv n (X N sc .normal Q env H) q]:Adv (n+1) (L P N sc ops [] Q env H) q:=⟨λk=>l_nil (h.h k)⟩
instance [h1:DI P N sc op env H v s] [h2:TB (ltb d N)] [h:Adv n (L P N sc ops rest Q ((d,v)::env) H) q] [h3:AndO s q r]:Adv (n+1) (L P N sc ops (⟨some d,op,ty,pos,af,none⟩::rest) Q env H) r:=
 ⟨λk=>dt (h1.h (h3.h k).1) (h.h (h3.h k).2) (Nt h2.h)⟩
instance [hj:Som (dsto l j) t] [hg:Som (lk2 env t) (.bool b)] [h4:TB (ltb t N)] [h1:DI P N sc op env H v s] [h2:TB (ltb d N)] [h:Adv n (L P N sc l.toArray rest Q ((d,v)::env) H) q] [h3:AndO s q r]:Adv (n+1) (L P N sc l.toArray (⟨some d,op,ty,pos,af,some (j,b)⟩::rest) Q env H) r:=
 ⟨λk=>Di (h1.h (h3.h k).1) (Cj hj) hg.l (h.h (h3.h k).2) (Nt h4.h) (Nt h2.h)⟩
instance [hj:Som (dsto l j) t] [hg:Som (lk2 env t) (.bool false)] [h4:TB (ltb t N)] [h2:TB (ltb d N)] [h:Adv n (L P N sc l.toArray rest Q ((d,undef)::env) H) q]:Adv (n+1) (L P N sc l.toArray (⟨some d,op,ty,pos,af,some (j,true)⟩::rest) Q env H) q:=
 ⟨λk=>gsk (Cj hj) hg.l rfl (Nt h4.h) (Nt h2.h) (h.h k)⟩
instance [hj:Som (dsto l j) t] [hg:Som (lk2 env t) (.bool true)] [h4:TB (ltb t N)] [h2:TB (ltb d N)] [h:Adv n (L P N sc l.toArray rest Q ((d,undef)::env) H) q]:Adv (n+1) (L P N sc l.toArray (⟨some d,op,ty,pos,af,some (j,false)⟩::rest) Q env H) q:=
 ⟨λk=>gsk (Cj hj) hg.l rfl (Nt h4.h) (Nt h2.h) (h.h k)⟩
instance [hj:Som (dsto l j) t] [hg:Som (lk2 env t) undef] [h2:TB (ltb d N)] [h:Adv n (L P N sc l.toArray rest Q ((d,undef)::env) H) q]:Adv (n+1) (L P N sc l.toArray (⟨some d,op,ty,pos,af,some (j,b)⟩::rest) Q env H) q:=
 ⟨λk=>gsku (Cj hj) hg.l (Nt h2.h) (h.h k)⟩
end
end Go.Sky
namespace Go.Sky
variable {P:Program} {N:Nat} {sc:Nat->Prop} {env env':Px} {H H':Hp} {Q Q':Exit->Act->World->Prop} {M:Nat->Prop}
class Hw (w0:World) (sc:Nat->Prop):Prop where h:∀b,w0.heap.size<=b->sc b
class EvI (env:Px) (xs:List Operand) (vs:outParam (List Value)):Prop where h:EvL env xs vs
instance:EvI env [] []:=⟨aA⟩
instance {x:Operand} {r:List Operand} {v:Value} {vs:List Value} [h:Som (ev2 env x) v] [h2:EvI env r vs]:EvI env (x::r) (v::vs):=⟨⟨h.e,h2.h⟩⟩
class CalF (P:Program) (f:FuncId):Prop where h:∀args w,(callFunc f args).run P w= .ok (.enter f args) w
class AddI (n:Nat) (l:List Pc) (H:Hp) (H':outParam Hp):Prop where h:adds n l H=H'
instance {n:Nat} : AddI n [] H H:=⟨rfl⟩
instance {n:Nat} {p:Pc} {r:List Pc} [h:AddI (n+1) r H H']:AddI n (p::r) H ((n,p)::H'):=⟨by rw [<-h.h]⟩
class PreL (P:Program) (H:Hp) (al:Bool) (ids:List Nat) (pre:outParam (List Pc)):Prop where h:PreOk H al pre
class RoI (p:Pc):Prop where h:p.own=false
instance {α:Type} {k:Nat} {enc:α->Value} {v:Value} {xs:List α} : RoI (Yl k enc v xs):=⟨rfl⟩
instance {β:Type} {k:Nat} {enc:β->Value} {q:β->Pc} {v:Value} {zs:List β} : RoI (Xv k enc q v zs):=⟨rfl⟩
instance {b:Nat} {t:TypeId} {cs:Array Value} : RoI (Hm b t cs):=⟨rfl⟩
class LnI (P:Program) (al:Bool) (i:Nat) (p:Pc) (q:outParam Pc):Prop where
 h:i≠0->∀{H r},lk H i=some p->PreOk H al r->PreOk H al (q::r)
theorem Zxg{i:Nat}(h:i≠0):Nat.beq i 0=false:=by grind [Nat.eq_of_beq_eq_true]
instance {al:Bool} {i:Nat} {p:Pc} [h:RoI p]:LnI P al i p p:=⟨λh0 _ _ hi hr=>Zp i hi (Zxg h0) h.h hr⟩
instance {α:Type} {i k:Nat} {e:TypeId} {enc:α->Value} {v:Value} {xs:List α} [h:EncT P e k enc]:LnI P false i (Oe k e enc v xs) (Yl k enc v xs):=⟨λh0 _ _ hi hr=>Zu7 i hi (Zxg h0) h.h hr⟩
instance {i b:Nat} {t:TypeId} {cs:Array Value} : LnI P false i (box b t cs) (Hm b t cs):=⟨λh0 _ _ hi hr=>Ziq i hi (Zxg h0) hr⟩
instance {al:Bool} : PreL P H al [] []:=⟨aA⟩
instance {al:Bool} {i:Nat} {ids:List Nat} {p q:Pc} {r:List Pc} [h:Som (lk2 H i) p] [h0:TB (neb i 0)] [h1:LnI P al i p q] [h2:PreL P H al ids r]:PreL P H al (i::ids) (q::r):=⟨h1.h (Zcd h0.h) h.l h2.h⟩
theorem T.conv{o:Oper}{G:Type}{φ:G->Prop}{c:G->Px}{a b:G->Hp}(h:T P N sc M o env H φ c a)(d:∀g,a g=b g):T P N sc M o env H φ c b:=by rw [show b=a from(funext d).symm];omega
section
variable {f:FuncId} {xs:List Operand} {ats:Array TypeId} {d:Nat} {vs fs us:List Value} {pre:List Pc} {al:Bool} {G:Type} {φ:G->Prop} {val:G->Value} {its:G->List Pc} {w0:World} {M0:Nat->Prop} {ty:TypeId} {pos:String} {af:Array Edge} {g:Option (Nat×Bool)}
def Zo(n:Nat)(a:List Nat)(c:Cal P f vs.toArray pre al φ val its){b:G->Hp}[hx:EvI env xs vs][hf:CalF P f][hp:PreL P H al a pre][h0:Som (lk2 H 0) (Xu w0 M0)][hN:TB (ltb d N)][hw:Hw w0 sc][ha:∀g,AddI n (its g) H (b g)] :
  T P N sc M ⟨some d,.call { callee:= .value (.func f),args:=xs.toArray,argTypes:=ats },ty,pos,af,g⟩ env H φ (λg=>(d,val g)::env) b:=
 (Xb _ c rfl rfl (Nt hN.h) hx.h hf.h hp.h h0.l hw.h).conv λg=>(ha g).h
class On1 (P:Program) (N:Nat) (sc:Nat->Prop) (env:Px) (H:Hp) (v:Value):Prop where h:One N sc env H v
instance {k:IntKind} {n:Int} : On1 P N sc env H (.int k n):=⟨Zk rfl⟩
instance {b:Bool} : On1 P N sc env H (.bool b):=⟨Zk rfl⟩
instance {s:ByteArray} : On1 P N sc env H (.string s):=⟨Zk rfl⟩
instance {a:Option Addr} : On1 P N sc env H (.pointer a):=⟨Zk rfl⟩
instance {a:Option Addr} {m n:Nat} : On1 P N sc env H (.slice a m n):=⟨Zk rfl⟩
instance (priority:=low) {α:Type} {i k:Nat} {v:Value} {enc:α->Value} {ys:List α} [h:RdI P H v i k enc ys]:On1 P N sc env H v:=⟨by obtain⟨p,h1,h2⟩:=h.h;exact Pj _ h1 h2⟩
class OnL (P:Program) (N:Nat) (sc:Nat->Prop) (env:Px) (H:Hp) (l:List Value):Prop where h:∀u∈l,One N sc env H u
instance:OnL P N sc env H []:=⟨λ_ h=>nomatch h⟩
instance {v:Value} {l:List Value} [h:On1 P N sc env H v] [h2:OnL P N sc env H l]:OnL P N sc env H (v::l):=⟨λu hu=>by
 cases hu with
 | head=>exact h.h
 | tail _ hu=>exact h2.h u hu⟩
class CeI (P:Program) (N:Nat) (sc:Nat->Prop) (env:Px) (H:Hp) (v:Value) (l:outParam (List Value)):Prop where
 h:∀a w,Sat N sc env H a w->v.cells=l.toArray
 o:∀u∈l,One N sc env H u
instance {l:List Value} [h:OnL P N sc env H l]:CeI P N sc env H (.agg l.toArray) l:=⟨λ_ _ _=>rfl,h.h⟩
instance (priority:=low) {v:Value} [h:On1 P N sc env H v]:CeI P N sc env H v [v]:=⟨λa w hs=>Zr (h.h a w hs),λu hu=>by rw [cF.1 hu];exact h.h⟩
class ClI (v:Value) (l:outParam (List Value)):Prop where h:v.cells=l.toArray
instance {l:List Value} : ClI (.agg l.toArray) l:=⟨rfl⟩
instance {k:IntKind} {n:Int} : ClI (.int k n) [.int k n]:=⟨rfl⟩
instance {b:Bool} : ClI (.bool b) [.bool b]:=⟨rfl⟩
instance {s:ByteArray} : ClI (.string s) [.string s]:=⟨rfl⟩
instance {a:Option Addr} : ClI (.pointer a) [.pointer a]:=⟨rfl⟩
instance {a:Option Addr} {m n:Nat} : ClI (.slice a m n) [.slice a m n]:=⟨rfl⟩
class Zer (P:Program) (t:TypeId) (z:outParam Value):Prop where h:∀w,(zeroValue t).run P w= .ok z w
variable {t tb:TypeId} {l l':List Value} {v z:Value} {x y:Operand} {i j k b:Nat}
def Yd(n:Nat)[hz:Zer P t z][hc:ClI z l][h0:Som (lk2 H 0) (Xu w0 M0)][hN:TB (ltb d N)][hw:Hw w0 sc] :
  T P N sc M ⟨some d,.alloc t,ty,pos,af,g⟩ env H (G:=Nat) (λ_=>True) (λb=>(d,.pointer (some ⟨b,0,none⟩))::env) (λb=>(n,box b t l.toArray)::H):=Zkb _ rfl rfl (Nt hN.h) hz.h hc.h h0.l hw.h
def Yg(n:Nat)[hx:Som (ev2 env x) v][hc:ClI v l][h0:Som (lk2 H 0) (Xu w0 M0)][hN:TB (ltb d N)][hw:Hw w0 sc] :
  T P N sc M ⟨some d,.box t x,ty,pos,af,g⟩ env H (G:=Nat) (λ_=>True) (λb=>(d,.pointer (some ⟨b,0,none⟩))::env) (λb=>(n,box b t l.toArray)::H):=t_box rfl rfl (Nt hN.h) hx.e hc.h h0.l hw.h
@[reducible] def lay2 {α:Type} : List α->Nat->List α->List α
 | [],_,_=>[]
 | c::r,j,vs=>match j with
  | j+1=>c::lay2 r j vs
  | 0=>match vs with
   | []=>c::r
   | v::vs=>v::lay2 r 0 vs
theorem Zr2{α:Type} : ∀(l:List α) (j:Nat) (vs:List α),j+vs.length<=l.length->lay2 l j vs=l.take j ++ vs ++ l.drop (j+vs.length)
 | [],j,vs,h=>by simp_all
 | c::r,j+1,vs,h=>by rw [show j+1+vs.length=(j+vs.length)+1 by omega];simp only [lay2,jE,List.drop_succ_cons,iD];rw [Zr2 r j vs (by simp at h;omega)]
 | c::r,0,[],h=>by rfl
 | c::r,0,v::vs,h=>by have a:0+vs.length<=r.length:=O4;have:=Zr2 r 0 vs a;grind
theorem Yhc [hx:Som (ev2 env x) (.pointer (some ⟨b,j,none⟩))] [hy:Som (ev2 env y) v] [hB:BxI H b i tb l] [hi:TB (neb i 0)] [hv:CeI P N sc env H v vs] [hk:Siz P t k] [hl:TB (lenq vs k)] [hf:TB (fits l j vs)] [hr:LEv (lay2 l j vs) l']
  [h0:Som (lk2 H 0) (Xu w0 M0)] [hw:Hw w0 sc] (e:M b):T P N sc M ⟨none,.store t x y,ty,pos,af,g⟩ env H (G:=Unit) (λ_=>True) (λ_=>env) (λ_=>(i,box b tb l'.toArray)::H):=λa w hs=>by
 have c:=Yci hf.h;refine Zji rfl rfl hx.e hy.e hB.h (Zcd hi.h) (hv.h a w hs) hk.h (Zhc hl.h) O hv.o ?_ h0.l hw.h e a w hs;unfold Fj;rw [<-hr.h,Zr2 l j vs c]
variable {ops:Array Oper} {rest:List Oper} {op:Go.Op} {genv:G->Px} {gH:G->Hp} {dd:Option Tmp}
def Yj(a:T P N sc (λ_=>True) ⟨dd,op,ty,pos,af,none⟩ env H φ genv gH)(h:∀g,φ g->L P N sc ops rest Q (genv g) (gH g)):L P N sc ops (⟨dd,op,ty,pos,af,none⟩::rest) Q env H:=tt a rfl h
def gt' {c:List Oper} {e:Nat} {a:Bool} (m:T P N sc (λ_=>True) ⟨dd,op,ty,pos,af,some (j,a)⟩ env H φ genv gH) [hj:Som (dsto c j) e] [he:Som (lk2 env e) (.bool a)] [hN:TB (ltb e N)]
  (h:∀g,φ g->L P N sc c.toArray rest Q (genv g) (gH g)):L P N sc c.toArray (⟨dd,op,ty,pos,af,some (j,a)⟩::rest) Q env H:=gtt m rfl (Cj hj) he.l (Nt hN.h) h
instance {n:Nat} {q:Prop} [hx:Som (ev2 env x) (.pointer (some ⟨b,j,none⟩))] [hy:Som (ev2 env y) v] [hB:BxI H b i tb l] [hi:TB (neb i 0)] [hv:CeI P N sc env H v vs] [hk:Siz P t k] [hl:TB (lenq vs k)] [hf:TB (fits l j vs)] [hr:LEv (lay2 l j vs) l']
  [h0:Som (lk2 H 0) (Xu w0 M0)] [hw:Hw w0 sc] [h:Adv n (L P N sc ops rest Q env ((i,box b tb l'.toArray)::H)) q]:Adv (n+1) (L P N sc ops (⟨none,.store t x y,ty,pos,af,none⟩::rest) Q env H) q:=
 ⟨λq=>Yj (Yhc aA) λ_ _=>h.h q⟩
end
end Go.Sky

