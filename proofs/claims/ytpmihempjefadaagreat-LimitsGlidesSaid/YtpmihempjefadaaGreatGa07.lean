/- Rules, arithmetic and contracts: part 8. No conditions but those that each theorem names. -/
import Derived.Test.YtpmihempjefadaaGreatGa06
set_option linter.all false
namespace Go.Sky
variable{a b m:R2}{c xs p x y r rest before q z d:List Int}{o t i M N k:Nat}{ls cs:List (SL×List Int)}{ds:List (List Int)}{ov:Int}{lo:Rat}
theorem Zn4(g:Rat->Rat){h:Rat}(l:0<h):∀(n:Nat) (u v:Rat),u<v->v-u<=(n:Rat)*h->g u*g v<0->∃x y,u<=x/\x<y/\y<=v/\y-x<=h/\g x≠0/\g x*g y<=0
 | 0,u,v,a,b,_=>by push_cast at b;grind
 | n+1,u,v,a,b,c=>by
  push_cast at b;have f:g u≠0:=λe=>by rw [e]at c;grind
  by_cases j:v-u<=h
  .exact⟨u,v,O4,a,O4,j,f,O4⟩
  .rcases(show g u*g (u+h)<=0\/0<g u*g (u+h) by grind)with q|q
   .exact⟨u,u+h,O4,O4,O4,O4,f,q⟩
   .have s:g (u+h)*g v<0:=by
     have I:=Kl f;rcases(show g (u+h)*g v<0\/0<=g (u+h)*g v by grind)with w|w
     .exact w
     .have Q:=aV q (show 0 < -(g u*g v) by grind);have R:=aC (cJ I) w;grind
    obtain⟨x,y,P,B,D,F,G,H⟩:=Zn4 g l n (u+h) v O4 O4 s;exact⟨x,y,O4,B,D,F,G,H⟩
theorem Zi7{a b c:Rat}(h:a*b<0)(e:a-b<=c)(f:b-a<=c):-c<=a/\a<=c:=by
 rcases(show 0<a\/a<0\/a=0 by grind)with q|q|q
 .have:b<0:=by
   rcases(show b<0\/0<=b by grind)with w|w
   .exact w
   .have:=aC (cJ q) w;grind
  grind
 .have:0<b:=by
   rcases(show 0<b\/b<=0 by grind)with w|w
   .exact w
   .have:=aC (show 0<=-a by grind) (show 0<=-b by grind);grind
  grind
 .rw [q]at h;grind
theorem Zok{o:List Int}{F:Nat}(hx:Tr xs)(h0:xs≠[])(hC:Eg F xs)(ho:Tr o)(o0:o≠[])(hE:Ed o (sqf F xs)){u v:Rat}(B:u<v)(hu:Zb (sqf F xs) u≠0)(h:Zb o u*Zb o v<0):Dd F xs v<Dd F xs u:=by
 rcases iH (Dd F xs v) (Dd F xs u)with q|q
 .exact q
 .exfalso;have hk:=Zat hx h0 hC (cJ B) q hu;obtain⟨k,w,Y,G⟩:=hE;have s:=Qb Y;have l:∀d,Tr d->Ed d o->Ed d (tzl w)->d.length<=1:=λd hd e1 R=>by
   obtain⟨f,s1,Q,r1⟩:=e1;obtain⟨g,s2,c2,r2⟩:=R;refine Zce hx h0 hC.1.2.2.1 hd ⟨k*f,lmul w s1,bA Y Q,λx=>?_⟩ ⟨k*f*g,Oq ((lmul (ld w) s1).map λa=>g*a) ((lmul s2 (ld o)).map λa=>f*a),bA (bA Y Q) c2,λx=>?_⟩
   .rw [Zi];have a1:=G x;have j:=r1 x;push_cast;grind
   .rw [Yh,Ze,Ze,Zi,Zi,Ma];have a0:=Gg ((sqf F xs).map λa=>k*a) (lmul w o) (λy=>by rw [Ze,Zi];exact G y) x;rw [El,Gv]at a0;have j:=r1 x;have a3:=r2 x;rw [Oj]at a3;push_cast;have b1:(k:Rat)*f*g*Zb (ld (sqf F xs)) x=(f:Rat)*g*(Zb (ld w) x*Zb o x+Zb w x*Zb (ld o) x):=by rw [<-a0];grind
    rw [b1];have b2:(f:Rat)*g*(Zb (ld w) x*Zb o x+Zb w x*Zb (ld o) x)=(g:Rat)*(Zb (ld w) x*((f:Rat)*Zb o x))+(f:Rat)*(((g:Rat)*Zb w x)*Zb (ld o) x):=O4;rw [b2,j,a3];grind
  obtain⟨ε,e1,R⟩:=Zt4 ho (Qd w) o0 l u v;obtain⟨I,l1,l2⟩:=Gu u v o;obtain⟨P,m1,m2⟩:=Gu u v w;obtain⟨D,d1,-,d3⟩:=Lq (show(0:Rat)<1 by decide) (show 0<I+P by grind) (show 0<ε/2 by grind);obtain⟨n,hn⟩:=Zdl (v-u) d1;obtain⟨x,y,H,x2,x3,x4,x5,x6⟩:=Zn4 (Zb o) d1 n u v B hn h;have sx:=hk x H O4;have sy:=hk y O4 x3;have ox:=G x;have oy:=G y;have W:Zb o y≠0:=λe=>by
   rw [e]at oy;rcases eG.1 (show(k:Rat)*Zb (sqf F xs) y=0 by grind)with t|t
   .exact s t
   .rw [t]at sy;grind
  have S:Zb o x*Zb o y<0:=by
   rcases(show Zb o x*Zb o y<0\/Zb o x*Zb o y=0 by grind)with t|t
   .exact t
   .rcases eG.1 t with t|t
    .exact absurd t x5
    .exact absurd t W
  have Z:0<Zb (sqf F xs) x*Zb (sqf F xs) y:=by
   have a1:=aV sx sy;have j:=Kl hu;rcases(show 0<Zb (sqf F xs) x*Zb (sqf F xs) y\/Zb (sqf F xs) x*Zb (sqf F xs) y<=0 by grind)with t|t
   .exact t
   .have:=aC (cJ j) (show 0<=-(Zb (sqf F xs) x*Zb (sqf F xs) y) by grind);grind
  have V:Zb w x*Zb w y<0:=by
   have a1:(k:Rat)*k*(Zb (sqf F xs) x*Zb (sqf F xs) y)=(Zb w x*Zb w y)*(Zb o x*Zb o y):=by
    have:((k:Rat)*Zb (sqf F xs) x)*((k:Rat)*Zb (sqf F xs) y)=(Zb w x*Zb o x)*(Zb w y*Zb o y):=by rw [ox,oy]
    grind
   have j:=aV (Kl s) Z;rcases(show Zb w x*Zb w y<0\/0<=Zb w x*Zb w y by grind)with t|t
   .exact t
   .have:=aC t (show 0<=-(Zb o x*Zb o y) by grind);grind
  have Q:=l2 x y H O4 x3;have c2:=m2 x y H O4 x3;have n1:=aC (a:=I) (b:=D-(y-x)) O4 O4;have n2:=aC (a:=P) (b:=D-(y-x)) O4 O4;have n3:=aC (a:=I) (b:=D) O4 O4;have n4:=aC (a:=P) (b:=D) O4 O4;obtain⟨b1,b2⟩:=Zi7 (c:=ε/2) S O4 O4;obtain⟨b3,b4⟩:=Zi7 (c:=ε/2) V O4 O4;rcases R x H O4 with t|t
  .unfold Big at t;grind
  .unfold Big at t;rw [Oj]at t;grind
theorem Zi0{F:Nat}(l:Tr xs)(f:xs≠[])(g:Eg F xs){u v:Rat}(e:u<v)(h:Zb (sqf F xs) u≠0)(j:Zb (sqf F xs) v=0):Dd F xs v<Dd F xs u:=by
 rcases iH (Dd F xs v) (Dd F xs u)with q|q
 .exact q
 .exfalso;have:=Zat l f g (cJ e) q h v (cJ e) O4;rw [j]at this;grind
theorem Odp.ed{F n:Nat}{o:List Int}(h:Odp F n p o):Ed o (Go.Sky.sqf F p):=by have e:=Dp.start h.tr h.ne;obtain⟨-,f⟩:=Ky h.tr h.ne h.sz h.hn h.hl h.hF p.length (Yk p) e (by rw [Qj h.tr];exact aH _);rw [<-h.eq]at f;rwa [Zj2 e.2.2.1]at f
theorem Zxe{F:Nat}(l:Tr xs)(f:xs≠[])(j:Eg F xs)(x:Rat):Zb xs x=0↔Zb (sqf F xs) x=0:=by
 constructor
 .intro h;have n:(x.den:Int)≠0:=by exact_mod_cast x.den_nz
  have e:((x.num:Int):Rat)/((x.den:Int):Rat)=x:=by rw [<-Rat.divInt_eq_div];exact Rat.num_divInt_den x
  have:=Zxg l f j.1.2.2.1 n (r:=x.num) (by rw [e];exact h);rwa [e]at this
 .intro h;obtain⟨g,s⟩:=Ydb l f j.1.2.2.1;rw [s x,h];grind
theorem Ydv {F n:Nat} {o:List Int} (h:Odp F n p o) (f:Eg F p) {K:Nat} {e:Nat} (l:∀u v:Rat,-(K:Rat)<=u->u<=v->v<=(K:Rat)->v-u<=1/((2^e:Nat):Rat)->Dd F p u-Dd F p v<=1)
  {s t:Rat} (h1:-(K:Rat)+1<=s) (Q:t<=(K:Rat)) (hs:0<=Zb p s) (ht:0<=Zb p t) (V:Zpi p s t):1/((2^(e+1):Nat):Rat)<t-s:=by
 obtain⟨x,x1,x2,x3⟩:=V;have B:s<x:=by rcases(show s<x\/s=x by grind)with q|q;exact q;subst q;grind
 have D:x<t:=by rcases(show x<t\/x=t by grind)with q|q;exact q;subst q;grind
 obtain⟨f1,f2,f3,f4,f5,f6⟩:=Pn F h.tr h.ne f.1.2.2.1;have j:Zb (Go.Sky.sqf F p) x≠0:=λz=>by have:=(Zxe h.tr h.ne f x).2 z;grind
 rcases(show 1/((2^(e+1):Nat):Rat)<t-s\/t-s<=1/((2^(e+1):Nat):Rat) by grind)with q|q
 .exact q
 .exfalso;have W:=two_pow_pos e;have Y:=two_pow_pos (e+1);have I:((2^(e+1):Nat):Rat)=2*((2^e:Nat):Rat):=by rw [bL];push_cast;grind
  have hi:0<((2^e:Nat):Rat)⁻¹:=fH.2 W;have R:1/((2^(e+1):Nat):Rat)=((2^e:Nat):Rat)⁻¹/2:=by rw [I];grind
  have P:1/((2^e:Nat):Rat)=((2^e:Nat):Rat)⁻¹:=O4;have S:((2^e:Nat):Rat)⁻¹<=1:=by
   have g1:(1:Rat)<=((2^e:Nat):Rat):=by have:1<=2^e:=dB e;exact_mod_cast this
   have g2:=aC (a:=((2^e:Nat):Rat)-1) (b:=((2^e:Nat):Rat)⁻¹) O4 O4;have g3:((2^e:Nat):Rat)*((2^e:Nat):Rat)⁻¹=1:=kE _ O4;grind
  obtain⟨u,u1,u2,u3⟩:∃u,s-((2^e:Nat):Rat)⁻¹/2<=u/\u<=s/\Dd F p x<Dd F p u:=by
   by_cases z:Zb (Go.Sky.sqf F p) s=0
   .obtain⟨δ,d1,H⟩:=Fx (Go.Sky.sqf F p).length (Go.Sky.sqf F p) (s-((2^e:Nat):Rat)⁻¹/2) (aH _);have G:=Zdm (Go.Sky.sqf F p).length (Go.Sky.sqf F p) (s-((2^e:Nat):Rat)⁻¹/2) f2 f3 (aH _);obtain⟨u,w1,w2,w3⟩:∃u,s-((2^e:Nat):Rat)⁻¹/2<u/\u<=s-((2^e:Nat):Rat)⁻¹/2+δ/\u<s:=by
     rcases(show s-((2^e:Nat):Rat)⁻¹/2+δ<s\/s<=s-((2^e:Nat):Rat)⁻¹/2+δ by grind)with w|w
     .exact⟨_,O4,gG,w⟩
     .exact⟨s-((2^e:Nat):Rat)⁻¹/4,O4,O4,O4⟩
    have Z:Zb (Go.Sky.sqf F p) u≠0:=λc=>by have:=H u w1 w2;rw [c]at this;exact G this.symm
    have m1:=Zi0 h.tr h.ne f w3 Z z;have m2:=Zfy h.tr h.ne f (cJ B);exact⟨u,O4,O4,O⟩
   .have g:0<Zb p s:=by have:Zb p s≠0:=λc=>z ((Zxe h.tr h.ne f s).1 c);grind
    have k:=h.opp (x:=s) (y:=x) (by have:=aV g (show 0 < -Zb p x by grind);grind);exact⟨s,O4,O4,Zok h.tr h.ne f h.otr h.one h.ed B z k.1⟩
  have u4:Dd F p t<Dd F p x:=by
   by_cases z:Zb (Go.Sky.sqf F p) t=0
   .exact Zi0 h.tr h.ne f D j z
   .have g:0<Zb p t:=by have:Zb p t≠0:=λc=>z ((Zxe h.tr h.ne f t).1 c);grind
    have k:=h.opp (x:=x) (y:=t) (by have:=aV g (show 0 < -Zb p x by grind);grind);exact Zok h.tr h.ne f h.otr h.one h.ed D j k.1
  have:=l u t O4 O4 Q O4;omega
def Bx(xs:List Int)(m:Nat):Prop:=xs.length=0\/(xs.length+2)*(xs.length+2)*(Qs xs+m+2*(xs.length-1)+32)<=65536
instance (xs:List Int) (m:Nat):Decidable (Bx xs m):=by unfold Bx;infer_instance
def sgf_t{m:Nat}(h:xs.length=0):Value.bool (decide (Bx xs m))= .bool true:=aP Value.bool (aO (.inl h))
theorem sgf_i{m:Nat}{n:Int}(h:xs.length≠0)(f:n=(((xs.length+2)*(xs.length+2)*(Qs xs+m+2*(xs.length-1)+32):Nat):Int)):Value.bool (decide (Bx xs m))= .bool (decide (n<=65536)):=aP Value.bool (cE.2 (by
 subst f;show(xs.length=0\/_<=65536)↔_;constructor
 .intro e;rcases e with e|e
  .exact absurd e h
  .exact kZ.2 e
 .intro e;exact .inr (kZ.1 e)))
def efit(z:R2):Bool:=decide (max (bl z.1.natAbs) (bl z.2.natAbs)<=512)
def Zk4:List Int->Int
 | []=>0
 | x::r=>if x=0 then Zk4 r else x
theorem Zod{s:Int}(h:s≠0):∀{L:List Int} {i:Nat},i<L.length->(∀k,k<i->L.getD k 0=0)->L.getD i 0=s->Zk4 L=s
 | [],i,hi,_,_=>absurd hi O7
 | x::r,0,_,_,hs=>by have e:x=s:=hs;subst e;unfold Zk4;rw [aE h]
 | x::r,i+1,hi,hz,hs=>by have e:x=0:=hz 0 O;unfold Zk4;rw [aG e];exact Zod h (L:=r) (i:=i) (by simpa using hi) (λk f=>hz (k+1) O) hs
theorem Zji:∀{L:List Int},(∀k,k<L.length->L.getD k 0=0)->Zk4 L=0
 | [],_=>rfl
 | x::r,hz=>by have e:x=0:=hz 0 O7;unfold Zk4;rw [aG e];exact Zji λk f=>hz (k+1) (by simpa using f)
def aft(e:List (List Int))(m:R2):Int:=Zk4 (e.map (fat m.1 m.2))
def vlu(e:List (List Int))(m:R2):Int:=if e.length=0 then 0 else fat m.1 m.2 (e.getD 0 [])
def chv(e:List (List Int))(m:R2):Int:=chg (e.map (fat m.1 m.2))
def crb(e:List (List Int))(a b:R2):Bool:=if e.length=0 then false else decide (0<chv e a-chv e b-if fat b.1 b.2 (e.getD 0 [])=0 then 1 else 0)
def cmp(a b:R2):Int:=(a.1*b.2-b.1*a.2).sign
def ngb(ds cs:List (List Int))(a b:R2):Bool:=if cmp a b=0 then decide (vlu ds a<0)else(decide (aft ds a<0) || crb cs a b)
theorem Zur(ls:List (SL×List Int))(x y:Int):aft (ls.map Prod.snd) (x,y)=Zk4 (sgx ls (fat x y)):=by unfold aft;rw [Zrv rfl]
theorem Yfb(ls:List (SL×List Int))(x y:Int):chv (ls.map Prod.snd) (x,y)=chg (sgx ls (fat x y)):=by unfold chv;rw [Zrv rfl]
theorem Zdx(h:i<ls.length):(ls.map Prod.snd).getD i []=(ls.getD i Z0).2:=by rw [aX,aX,fI,bB h];rfl
theorem chv_r(e:List (List Int))(m:R2):0<=chv e m/\chv e m<=(e.length:Int):=by have:=Zee (e.map (fat m.1 m.2));rw [bX]at this;exact this
theorem Zm2{x:Rat}(h:Ix x=0):x=0:=by
 rcases Qa x with⟨f,e⟩|⟨f,e⟩|⟨f,e⟩
 .rw [e]at h;exact absurd h O3
 .rw [e]at h;exact absurd h O3
 .exact f
theorem sgm_i{x l:Int}(f:-1<=x/\x<=1)(e:-1<=l/\l<=1):Qf (x*l):=by
 rcases(show x=-1\/x=0\/x=1 by omega)with h|h|h<;>subst h
 .exact⟨O,O⟩
 .exact⟨O,O⟩
 .exact⟨O,O⟩
theorem Zrx{x l:Int}(f:-1<=x/\x<=1)(e:-1<=l/\l<=1)(h:x*l<0):x=-l:=by rcases(show x=-1\/x=0\/x=1 by omega)with h|h|h<;>subst h<;>omega
theorem Zrw{x l:Int}(g:-1<=x/\x<=1)(f:-1<=l/\l<=1)(h:¬x*l<0)(e:x≠0):¬x=-l:=by rcases(show x=-1\/x=0\/x=1 by omega)with h|h|h<;>subst h<;>omega
theorem Zry{x l:Int}(h:x=0):¬x*l<0:=by subst h;omega
theorem crb_t{x y e f:Int}(h:cs.length≠0)(g:fat e f (cs.getD 0 Z0).2=0):Value.bool (crb (cs.map Prod.snd) (x,y) (e,f))= .bool (decide (0<chv (cs.map Prod.snd) (x,y)-chv (cs.map Prod.snd) (e,f)-1)):=by unfold crb;rw [bX,aE h,Zdx O,aG g]
theorem crb_f{x y e f:Int}(h:cs.length≠0)(g:¬fat e f (cs.getD 0 Z0).2=0):Value.bool (crb (cs.map Prod.snd) (x,y) (e,f))= .bool (decide (0<chv (cs.map Prod.snd) (x,y)-chv (cs.map Prod.snd) (e,f))):=by unfold crb;rw [bX,aE h,Zdx O,aE g,eX]
theorem ngb_t{cs:List (List Int)}(h:¬cmp a b=0)(e:aft ds a<0):Value.bool (ngb ds cs a b)= .bool true:=by unfold ngb;rw [aE h,aO e];rfl
theorem ngb_f{cs:List (List Int)}(h:¬cmp a b=0)(e:¬aft ds a<0):Value.bool (ngb ds cs a b)= .bool (crb cs a b):=by unfold ngb;rw [aE h,aM e];rfl
def Zbv:Nat->List Int->List (List Int)
 | 0,_=>[]
 | n+1,p=>if p.length=0 then []else p::Zbv n (Zy p)
theorem Zoq{m:R2}(j:0<m.2):∀(n:Nat) (p:List Int),p.length<=n->aft (Zbv n p) m=Iw n p (qv m)
 | 0,p,s=>rfl
 | n+1,p,s=>by
  unfold Zbv;by_cases h:p.length=0
  .rw [aG h];have:p=[]:=aF h;subst this;have f:∀n,Iw n [] (qv m)=0:=λn=>by
    induction n with
    | zero=>rfl
    | succ n g=>unfold Iw;rw [aE (by show ¬(0:Rat)≠0;simp)];exact g
   rw [f];rfl
  .rw [aE h];have u:=Ph p;have g:=Zoq j n (Zy p) O;unfold aft at g ⊢;rw [cH];unfold Zk4 Iw;have l:fat m.1 m.2 p=Ix (Zb p (qv m)):=Zk9 j p;rw [l];by_cases f:Zb p (qv m)=0
   .rw [aG (Zm3 f),aE (by simpa using f)];exact g
   .rw [aE (λe=>f (Zm2 e)),aG f]
structure Cvd (xs:List Int):Prop where
 v:Vp xs
 s:Sz 205 xs
 l:xs.length<=11
theorem Ztq(h:Cvd xs)(e:xs≠[])(f:Dp xs r):Sz 220 r/\r.length<=11:=by obtain⟨g,j⟩:=f.sz h.v.tr e h.s (by have:=h.l;omega);exact⟨g,by have:=h.l;omega⟩
theorem Zfn(h:Cvd xs)(l:xs≠[])(e:Dp xs r) :
  Vp r/\r≠[]/\(∀i,bl (cf r (i+1)*((i:Int)+1)).natAbs<=65536)/\Vp (Zy r)/\¬Zjf r (Zy r)/\eok 13 (gA r (Zy r)) (gB r (Zy r))/\Od 13 r (Zy r)=Ot 13 r/\Vp (Ot 13 r)/\
  Fc r (Ot 13 r)=0/\pdv r (Ot 13 r)/\Lc r (Ot 13 r)=sqf 13 r/\Vp (sqf 13 r)/\Sz 235 (sqf 13 r)/\(sqf 13 r).length<=11/\Dp xs (Ot 13 r)/\sqf 13 r≠[]/\((sqf 13 r).length≠1->(Ot 13 r).length<r.length)/\Dw 13 r:=by
 obtain⟨G,Y⟩:=Ztq h l e;have v:Vp r:=⟨G.mono O,e.1,O⟩;have f:=e.ok h.v.tr l h.s O (by have:=h.l;omega) (show xs.length<=13+1 by have:=h.l;omega);obtain⟨⟨S,I,P,D,F⟩,-,-⟩:=f.1;have j:=e.2.2.1;have s:=(chG 13 e.1 e.2.1 G O O O).2.1;have Q:=(chG 13 e.1 e.2.1 G O O O).2.2.1;have B:=Zpl v e.2.1 f.1.1;have H:Ot 13 r=Od 13 r (Zy r):=by unfold Ot;rw [j]
 have n:=e.next f.2;have w:Vp (Ot 13 r):=by obtain⟨t1,t2⟩:=Ztq h l n;exact⟨t1.mono O,n.1,O⟩
 have u:sqf 13 r=Lc r (Ot 13 r):=by unfold sqf Ot;rw [j]
 obtain⟨f1,f2,f3,f4,f5,f6⟩:=Pn 13 e.1 e.2.1 f.2;have g:∀i,bl (cf r (i+1)*((i:Int)+1)).natAbs<=65536:=λi=>by
  by_cases hi:i<r.length
  .have:=S i hi;rwa [j]at this
  .rw [Zv O];simp [Ms]
 rw [j]at I P D F;rw [<-H]at D F;refine⟨v,e.2.1,g,Zb5 v (λi _=>g i),I,P,H.symm,w,D,F,u.symm,B,s,O,n,f3,λR=>?_,f.2⟩;refine Zk2 e.1 e.2.1 f.2 ?_;have:=Pi e.1 e.2.1 f.2;have V:=aD.2 f3;have W:=aD.2 this.2.1;omega
def Ke(xs:List Int):List Int:=Znm 13 xs.length [1] (Yk xs)
structure OddI (xs:List Int) (t:Nat) (rest out before:List Int):Prop where
 ex:∃f q,Dp xs q/\q.length<=f/\Znm 13 f out q=Ke xs/\Tr out/\Op xs out q/\((t%2=1/\rest=q)\/(t%2=0/\rest=Ot 13 q/\before=sqf 13 q/\(sqf 13 q).length≠1))
theorem OddI.start{b:List Int}(h:Cvd xs)(e:xs≠[]):OddI xs 1 (Yk xs) [1] b:=
 ⟨xs.length,Yk xs,Dp.start h.v.tr e,by rw [Qj h.v.tr];exact aH _,rfl,.inr O3,Op.start h.v.tr,.inl ⟨rfl,rfl⟩⟩
theorem OddI.dp{e:List Int}(h:Cvd xs)(j:xs≠[])(n:OddI xs t rest e before):Dp xs rest:=by
 obtain⟨f,q,g,s,u,v,w,l|⟨-,rfl,-⟩⟩:=n.ex
 .rw [l.2];exact g
 .exact(Zfn h j g).2.2.2.2.2.2.2.2.2.2.2.2.2.2.1
theorem OddI.out{e:List Int}(h:Cvd xs)(l:xs≠[])(u:OddI xs t rest e before):Vp e/\Sz 220 e/\e.length<=11:=by obtain⟨f,q,n,v,w,g,s,-⟩:=u.ex;obtain⟨j,B,D⟩:=s.sz h.v.tr l h.s (by have:=h.l;omega) g n.1;have:=h.l;exact⟨⟨j.mono O,g,O⟩,j,O⟩
theorem OddI.odd_end{e:List Int}(h:Cvd xs)(s:xs≠[])(l:OddI xs t rest e before)(D:t%2=1)(n:(sqf 13 rest).length=1):e=Ke xs:=by
 obtain⟨f,q,j,u,g,v,w,⟨-,rfl⟩|⟨B,-⟩⟩:=l.ex
 .cases f with
  | zero=>exact absurd (aD.2 j.2.1) O
  | succ f=>unfold Znm at g;rw [aG n]at g;exact g
 .omega
theorem OddI.odd_next{e:List Int}(s:OddI xs t rest e before)(w:t%2=1)(u:(sqf 13 rest).length≠1):OddI xs (t+1) (Ot 13 rest) e (sqf 13 rest):=by
 obtain⟨f,q,g,h,j,l,n,⟨-,rfl⟩|⟨v,-⟩⟩:=s.ex
 .exact⟨f,rest,g,h,j,l,n,.inr ⟨O,rfl,rfl,u⟩⟩
 .omega
theorem OddI.even{g:List Int}(h:Cvd xs)(B:xs≠[])(hI:OddI xs t rest g before)(ht:t%2=0) :
  Vp before/\Fc before (sqf 13 rest)=0/\pdv before (sqf 13 rest)/\Vp (Lc before (sqf 13 rest))/\¬Gy g (Lc before (sqf 13 rest))/\
  ((sqf 13 rest).length=1->Yy g (Lc before (sqf 13 rest))=Ke xs)/\((sqf 13 rest).length≠1->OddI xs (t+1) (Ot 13 rest) (Yy g (Lc before (sqf 13 rest))) (sqf 13 rest))/\Vp (Yy g (Lc before (sqf 13 rest))):=by
 obtain⟨f,q,j,h2,n,h4,h5,⟨h7,-⟩|⟨-,rfl,rfl,Y⟩⟩:=hI.ex
 .omega
 obtain⟨a1,a2,a3,a4,a5,a6,a7,a8,a9,a0,b0,G,H,c0,I,c5,P,s⟩:=Zfn h B j;obtain⟨b1,b2,b3,b4,b5,b6,b7,b8,b9,c6,c7,Q,R,c8,u,l,S,v⟩:=Zfn h B I;obtain⟨c1,c2,V,c4⟩:=Ad j.1 j.2.1 s v;have W:=h5.next j.1 j.2.1 j.2.2.1 s v;have ho:=h.l;obtain⟨s1,s2,s3⟩:=W.sz h.v.tr B h.s O Xk u.1;obtain⟨o1,o2,o3⟩:=h5.sz h.v.tr B h.s O h4 j.1;have c9:(Dr 13 q).length<=11:=by have e:=aP List.length c2;rw [Oe V Q.tr c4 l]at e;have:=aD.2 l;omega
 have D:Sz 450 (Dr 13 q):=by obtain⟨a,ha,e⟩:=W;have e2:Yk xs=Yy (Yy (Yy a (Ot 13 (Ot 13 q))) g) (Dr 13 q):=e.trans ((Xk).ext Xk λi=>Nf (λx=>by simp only [Zx];grind) i);exact(Zqo h.v.tr B h.s O Xk V e2).1.mono O
 have hd:Fc (sqf 13 q) (sqf 13 (Ot 13 q))=0:=by
  have m1:=Qv H;have m2:=Qv R;have l1:=aD.2 l;unfold Fc;rw [aE O];split
  .rfl
  .have:((sqf 13 q).length-(sqf 13 (Ot 13 q)).length+1)*(Qs (sqf 13 (Ot 13 q))+1)<=12*240:=aY O O;rw [aE O]
 have Z:Vp (Dr 13 q):=⟨D.mono O,V,O⟩;have hm:¬Gy g (Dr 13 q):=λhF=>by have m1:=Qv o1;have m2:=Qv D;rcases hF.2.2 with w|w<;>omega
 refine⟨G,hd,c1,Z,hm,λF=>?_,λF=>?_,⟨s1.mono O,Xk,aB s2 O⟩⟩
 .cases f with
  | zero=>exact absurd (aD.2 j.2.1) O
  | succ f=>unfold Znm at n;rw [aE Y,aG F]at n;exact n
 .cases f with
  | zero=>exact absurd (aD.2 j.2.1) O
  | succ f=>
   unfold Znm at n;rw [aE Y,aE F]at n;have l1:=P Y;have l2:=S F;exact⟨f,Ot 13 (Ot 13 q),u,O,n,Xk,W,.inl ⟨O,rfl⟩⟩
theorem Zvm(h:Cvd xs)(f:xs≠[]):Ke xs=Zbi 13 xs.length (Yk xs):=by have e:=Dp.start h.v.tr f;have j:=h.l;have g:=(e.ok h.v.tr f h.s O O (show xs.length<=13+1 by omega)).2;unfold Ke;rw [Yds h.v.tr f h.s O O O xs.length [1] (Yk xs) (.inr (show cf [1] 0≠0 by decide)) e (by rw [Qj h.v.tr];exact aH _),Ydk (Zsf xs e.1 e.2.1 g)]
theorem Zcu(h:Cvd xs)(f:xs≠[]):Odp 13 205 xs (Ke xs)/\Vp (Ke xs)/\Sz 220 (Ke xs)/\(Ke xs).length<=xs.length/\Dj (Ke xs):=by
 have g:=Dp.start h.v.tr f;have H:=h.l;have s:=(g.ok h.v.tr f h.s O O (show xs.length<=13+1 by omega)).2;have n:=Zvm h f;have j:Tr (Ke xs):=by rw [n];exact Zsf xs g.1 g.2.1 s
 obtain⟨⟨B,u⟩,-⟩:=Ky h.v.tr f h.s O O (show xs.length<=13+1 by omega) xs.length (Yk xs) g (by rw [Qj h.v.tr];exact aH _);rw [<-n]at u;have e:Yk xs=Yy (Yy B B) (Ke xs):=g.1.ext Xk λi=>Nf (λx=>by rw [u x,Zx,Zx];grind) i;obtain⟨l,F,v⟩:=Zqo h.v.tr f h.s O Xk j e;have D:=(chG 13 j v l O O O).1;refine⟨⟨h.v.tr,f,h.s,O,O,O,n,j,v,D⟩,⟨l.mono O,j,O⟩,l,F,.inr ?_⟩;have I:=Qv l;have w:((Ke xs).length+2)*((Ke xs).length+2)<=13*13:=aY O O;have G:((Ke xs).length+2)*((Ke xs).length+2)*(Qs (Ke xs)+16)<=13*13*236:=aY w O;omega
def chx(xs:List Int):List (List Int):=if xs.length=0 then []else Bo 13 (Ke xs)
def Qz(xs:List Int):List (List Int):=Zbv xs.length xs
theorem Zop:∀(n k:Nat) (p:List Int),Tr p->p.length<=25->Sz k p->∀q∈Zbv n p,Tr q/\q.length<=p.length/\Sz (k+5*n) q
 | 0,_,_,_,_,_,q,e=>absurd e (by simp [Zbv])
 | n+1,k,p,g,l,hs,q,e=>by
  unfold Zbv at e;by_cases f:p.length=0
  .rw [aG f]at e;exact absurd e O7
  .rw [aE f]at e;rcases bO.1 e with rfl|e
   .exact⟨g,aH _,hs.mono O⟩
   .have s:=Ph p;obtain⟨h,u,j⟩:=Zop n (k+5) (Zy p) (Pm g) O (Fl hs l) q e;exact⟨h,O,j.mono O⟩
theorem Hi(h:Cvd xs):∀q∈Qz xs,Vp q/\Qs q<=6150/\q.length<=11:=λq g=>by have l:=h.l;obtain⟨f,j,e⟩:=Zop xs.length 205 xs h.v.tr O h.s q g;have:=Qv e;exact⟨⟨e.mono O,f,O⟩,O,O⟩
theorem Zdg(h:Cvd xs):∀q∈chx xs,Vp q/\Qs q<=6150/\q.length<=11:=λq f=>by
 have G:=h.l;unfold chx at f;by_cases j:xs.length=0
 .rw [aG j]at f;exact absurd f O7
 .rw [aE j]at f;have l:xs≠[]:=λe=>j (by rw [e];rfl);obtain⟨g,s,u,w,B⟩:=Zcu h l;obtain⟨v,D,F,n⟩:=chG 13 g.otr g.one u O O (show(Ke xs).length<=13+1 by omega);exact⟨vp_chn s g.one v q f,(n q f).1,by have:=(n q f).2;omega⟩
theorem Zls(xs:List Int):(chx xs).length<=1000:=by
 unfold chx;split
 .exact aZ _
 .have:=Zba 13 (sqf 13 (Ke xs)) (Zs (Zy (sqf 13 (Ke xs))));unfold Bo;omega
theorem Zms(g:Qs p<=6150)(h:p.length<=11)(a:bl m.1.natAbs<=5300)(b:bl m.2.natAbs<=5300):¬Nu p m.1 m.2:=λf=>by
 have e:Qs [m.1,m.2]<=5300:=by show max (bl m.1.natAbs) (max (bl m.2.natAbs) 0)<=5300;omega
 have j:(p.length-1)*Qs [m.1,m.2]<=10*5300:=aY O e;have:=f.2;omega
def Ax(h:Cvd xs)(a:bl m.1.natAbs<=5300)(b:bl m.2.natAbs<=5300):(∀p∈Qz xs,¬Nu p m.1 m.2)/\(∀p∈chx xs,¬Nu p m.1 m.2):=
 ⟨λp e=>Zms (Hi h p e).2.1 (Hi h p e).2.2 a b,λp e=>Zms (Zdg h p e).2.1 (Zdg h p e).2.2 a b⟩
theorem Zyc(e:0<a.2)(f:0<b.2):((a.1*b.2-b.1*a.2:Int):Rat)=(qv a-qv b)*((a.2:Rat)*(b.2:Rat)):=by have g:=Kb e;have h:=Kb f;unfold qv;push_cast;grind
theorem Ye4(g:0<a.2)(j:0<b.2):cmp a b<0↔qv a<qv b:=by
 have e:=Zyc g j;have l:=aV (Kb g) (Kb j);unfold cmp;rw [Pv];constructor
 .intro h;have f:((a.1*b.2-b.1*a.2:Int):Rat)<0:=by exact_mod_cast h
  rcases(show qv a<qv b\/qv b<=qv a by grind)with q|q
  .exact q
  .have:=aC (show 0<=qv a-qv b by grind) (Rat.le_of_lt l);grind
 .intro h;have:=aV (show 0<qv b-qv a by grind) l;have f:((a.1*b.2-b.1*a.2:Int):Rat)<0:=O4;exact_mod_cast f
theorem Zlo(f:0<a.2)(g:0<b.2):cmp a b=0↔qv a=qv b:=by
 have e:=Zyc f g;have l:=aV (Kb f) (Kb g);unfold cmp;rw [eY];constructor
 .intro h;rw [h]at e;rcases eG.1 (show(qv a-qv b)*((a.2:Rat)*(b.2:Rat))=0 by rw [<-e];rfl)with q|q
  .grind
  .rw [q]at l;grind
 .intro h;have j:((a.1*b.2-b.1*a.2:Int):Rat)=0:=by rw [e,h];grind
  exact_mod_cast j
theorem Ye5(g:0<a.2)(j:0<b.2):cmp a b<=0↔qv a<=qv b:=by
 have e:=Ye4 g j;have f:=Zlo g j;constructor
 .intro h;rcases(show cmp a b<0\/cmp a b=0 by omega)with q|q
  .exact cJ (e.1 q)
  .have:=f.1 q;grind
 .intro h;rcases(show qv a<qv b\/qv a=qv b by grind)with q|q
  .exact iV (e.2 q)
  .exact Int.le_of_eq (f.2 q)
def Yas(e:0<m.2)(p:List Int):fat m.1 m.2 p=Ix (Zb p (qv m)):=Zk9 e p
theorem Yfa(h:Cvd xs)(l:xs≠[])(w:0<a.2)(n:0<b.2):crb (chx xs) a b=true↔Ev 13 (Ke xs) (qv a) (qv b):=by
 obtain⟨j,H,I,P,Q⟩:=Zcu h l;have g:xs.length≠0:=λe=>l (aF e);unfold crb Ev chx;rw [aE g];have D:∃r,Bo 13 (Ke xs)=sqf 13 (Ke xs)::r:=by unfold Bo On;split<;>exact⟨_,rfl⟩
 obtain⟨r,s⟩:=D;have u:∀m:R2,0<m.2->chv (Bo 13 (Ke xs)) m=Dd 13 (Ke xs) (qv m):=λm G=>(cvc_v (F:=13) (xs:=Ke xs) G);rw [aE (by rw [s];simp),u a w,u b n];have B:(Bo 13 (Ke xs)).getD 0 []=sqf 13 (Ke xs):=by rw [s];rfl
 rw [B,Yas n];have v:Ix (Zb (sqf 13 (Ke xs)) (qv b))=0↔Zb (Ke xs) (qv b)=0:=⟨λe=>(j.zero _).1 (Zm2 e),λe=>Zm3 ((j.zero _).2 e)⟩;by_cases f:Zb (Ke xs) (qv b)=0
 .rw [aG f,aG (v.2 f)];exact fA
 .rw [aE f,aE (λe=>f (v.1 e))];exact fA
theorem Zfx(f:0<m.2):vlu (Qz xs) m=Ix (Zb xs (qv m)):=by
 unfold vlu Qz;by_cases e:xs.length=0
 .have:xs=[]:=aF e;subst this;rfl
 .obtain⟨n,g⟩:∃n,xs.length=n+1:=⟨xs.length-1,O⟩;rw [g];unfold Zbv;rw [aE e,aE O7];exact Yas f xs
theorem Zko(h:Cvd xs)(g:0<a.2)(v:0<b.2)(u:qv a<=qv b):ngb (Qz xs) (chx xs) a b=true↔Zpi xs (qv a) (qv b):=by
 unfold ngb;by_cases l:cmp a b=0
 .rw [aG l,Zfx g,fA];have e:=(Zlo g v).1 l;constructor
  .intro f;refine⟨qv a,gG,u,?_⟩;rcases Qa (Zb xs (qv a))with⟨s,j⟩|⟨s,j⟩|⟨s,j⟩
   .rw [j]at f;exact absurd f O3
   .exact s
   .rw [j]at f;exact absurd f O3
  .rintro⟨x,F,G,B⟩;have:x=qv a:=O4;rw [<-this,Ziy B];decide
 .rw [aE l];have w:qv a<qv b:=by have:=λe=>l ((Zlo g v).2 e);grind
  by_cases n:xs=[]
  .subst n;constructor
   .intro f;exact absurd f (by show ¬(decide ((0:Int)<0) || false)=true;decide)
   .rintro⟨x,F,G,B⟩;exact absurd B (by show ¬(0:Rat)<0;grind)
  .obtain⟨D,H,I,P,Q⟩:=Zcu h n;rw [<-D.sem w,jR,fA,Yfa h n g v,show aft (Qz xs) a=Iw xs.length xs (qv a)from Zoq g _ _ (aH _)]
theorem Zox(h:Cvd xs){m:Nat}(j:m<=100):Bx xs m:=by refine .inr ?_;have g:=h.l;have l:=Qv h.s;have e:(xs.length+2)*(xs.length+2)<=13*13:=aY O O;have f:(xs.length+2)*(xs.length+2)*(Qs xs+m+2*(xs.length-1)+32)<=13*13*357:=aY e O;omega
theorem Zjj(h:xs.length=0):Qz xs=[]:=by unfold Qz;rw [h];rfl
theorem Ye9(h:xs.length=0):chx xs=[]:=by unfold chx;rw [aG h]
theorem chx_ne(h:xs.length≠0):chx xs=Bo 13 (Ke xs):=by unfold chx;rw [aE h]
theorem Zjk:∀(n m:Nat) (p:List Int),p.length<=n->p.length<=m->Zbv n p=Zbv m p
 | 0,m,p,f,g=>by
  have e:p.length=0:=O;cases m with
  | zero=>rfl
  | succ m=>unfold Zbv;rw [aG e]
 | n+1,m,p,f,g=>by
  have h:=Ph p;cases m with
  | zero=>unfold Zbv;rw [aG O]
  | succ m=>
   unfold Zbv;by_cases e:p.length=0
   .rw [aG e,aG e]
   .rw [aE e,aE e,Zjk n m (Zy p) O O]
theorem Zwd(h:p.length≠0):Qz p=p::Qz (Zy p):=by have f:=Ph p;unfold Qz;obtain⟨n,e⟩:∃n,p.length=n+1:=⟨p.length-1,O⟩;rw [e,show Zbv (n+1) p=if p.length=0 then []else p::Zbv n (Zy p)from rfl,aE h,Zjk n (Zy p).length (Zy p) O (aH _)]
def Ab(M:Nat)(p:List Int):Prop:=∀i,(cf p i).natAbs<=M
def Ab.sz{n:Nat}(h:Ab M p)(e:M<2^n):Sz n p:=λi=>(Xo n _).2 (bC (h i) e)
def Ab.mono(h:Ab M p)(e:M<=N):Ab N p:=λi=>aB (h i) e
theorem Yb7{n:Nat}(h:Ab M p)(e:p.length<=n+1):Ab (n*M) (Zy p):=λi=>by
 rw [Mw];by_cases hi:i+1<p.length
 .rw [cC,aJ];exact aY O (h _)
 .rw [Zv O,dD];exact aZ _
theorem Zpg(h:Ab M p)(c:Int):Ab (M*c.natAbs) (Yc p c):=λi=>by rw [Xf,cC];exact aI _ (h i)
theorem Zmo{f:Nat->Int}{M n:Nat}(h:∀k,(f k).natAbs<=M)(e:∀k,n<=k->f k=0):∀m,(Zp f m).natAbs<=min m n*M
 | 0=>by show(0:Int).natAbs<=_;simp
 | m+1=>by
  have g:=Zmo h e m;rw [Ya];rcases bJ m n with q|q
  .have:=h m;rw [show min (m+1) n=min m n+1 by omega,eV];omega
  .rw [e m q,fD,show min (m+1) n=min m n by omega];exact g
theorem Yb6{n:Nat}(e:Ab M p)(f:Ab N q)(h:p.length<=n):Ab (n*(M*N)) (Yy p q):=λi=>by
 rw [Ld,PS.mul_c];exact aB (Zmo (n:=n) (M:=M*N) (λk=>by rw [cC];exact aY (e k) (f (i-k))) (λk g=>by show cf p k*_=0;rw [Zv O,dD]) _) (aI _ (Nat.min_le_right _ _))
theorem ab_add(e:Ab M p)(f:Ab N q):Ab (M+N) (Hf p q):=λi=>by rw [Zaz];have:=e i;have:=f i;omega
theorem ab_in(h:∀a∈c,Qf a):Ab (2^63) (tzl c):=λi=>by rw [Nj];obtain⟨e,f⟩:=Po h i;show(c.getD i 0).natAbs<=_;omega
theorem Yd6{n:Nat}(e:p.length<=n)(f:q.length<=n):(Hf p q).length<=n:=by unfold Hf;refine aB (Ic _) ?_;rw [Ye];omega
theorem Yd5{n:Nat}(e:p.length<=n)(f:q.length<=n):(Gw p q).length<=n:=by unfold Gw;refine aB (Ic _) ?_;rw [Ye];omega
theorem Zs6{n m:Nat}(g:Tr p)(h:Tr q)(j:p.length<=n)(l:q.length<=m):(Yy p q).length<=n+m-1:=by
 by_cases e:p=[]
 .rw [e,He];exact aZ _
 .by_cases f:q=[]
  .rw [f,Zbk];exact aZ _
  .have:=Oe g h e f;omega
theorem Zs7{n:Nat}(h:p.length<=n+1):(Zy p).length<=n:=by have:=Ph p;omega
def dN:Nat->List Int->List Int
 | 0,p=>p
 | n+1,p=>Zy (dN n p)
def axQ(o:Nat)(c:List Int):List Int:=Yc (dN o (tzl c)) (1000^o)
def sqQ(o:Nat)(c:List Int):List Int:=Yy (axQ o c) (axQ o c)
def Fn(o:Nat)(x y z:List Int):Nat->List Int
 | 0=>[]
 | i+1=>Hf (Fn o x y z i) (sqQ o (Yg i x y z))
def Ze9(o:Nat):Int:=Xi (List.replicate o 1000)
def Za2(o:Nat)(m ov T:Int):Int:=Xi (m::ov::List.replicate o T)
def Lk(o:Nat)(m ov T:Int):List Int:=Yc [1] (Za2 o m ov T)
def Im(o:Nat)(m ov T:Int)(x y z:List Int):List Int:=Zs (Gw (Yy (Lk o m ov T) (Lk o m ov T)) (Fn o x y z 3))
theorem Zs8(o:Nat):Ze9 o=1000^o:=by
 unfold Ze9
 induction o with
 | zero=>rfl
 | succ o e=>rw [fY,eR,<-e];show 1000*_=_;omega
theorem Zr9(o:Nat)(T:Int):Xi (List.replicate o T)=T^o:=by
 induction o with
 | zero=>rw [dE];rfl
 | succ o e=>rw [fY,eR,<-e];show T*_=_*T;rw [dJ]
structure Sgo (fr to ov:Int) (x y z:List Int):Prop where
 t1:0<=fr
 t2:fr<to
 t3:to<=3600000
 o1:1<=ov
 o2:ov<=4294967296
 hx:∀a∈x,Qf a
 hy:∀a∈y,Qf a
 hz:∀a∈z,Qf a
 lx:1<=x.length/\x.length<=6
 ly:1<=y.length/\y.length<=6
 lz:1<=z.length/\z.length<=6
def Sgo.hc{fr e:Int}(h:Sgo fr e ov x y z)(i:Nat):∀a∈Yg i x y z,Qf a:=Er h.hx h.hy h.hz i
def Sgo.lc{fr e:Int}(h:Sgo fr e ov x y z)(i:Nat):1<=(Yg i x y z).length/\(Yg i x y z).length<=6:=Zm1 (p:=λl:List Int=>1<=l.length/\l.length<=6) h.lx h.ly h.lz
theorem Sgo.of{fr j:Int}(w:∀a∈x,Qf a)(B:∀a∈y,Qf a)(D:∀a∈z,Qf a)(h:Ea fr j ov x y z=true):Sgo fr j ov x y z:=by unfold Ea Zw1 axB at h;simp only [aL,dW]at h;obtain⟨⟨⟨⟨⟨⟨⟨⟨l,n⟩,s⟩,u⟩,v⟩,e⟩,f⟩,g⟩,-⟩:=h;exact⟨l,n,s,u,v,w,B,D,⟨e.1.1.1,e.1.1.2⟩,⟨f.1.1.1,f.1.1.2⟩,⟨g.1.1.1,g.1.1.2⟩⟩
def Mk:Nat->Nat
 | 0=>2^63
 | 1=>5*2^63
 | _=>4*(5*2^63)
theorem dN_ok(h:∀a∈c,Qf a)(s:c.length<=6):∀k,k<=2->Tr (dN k (tzl c))/\(dN k (tzl c)).length<=6-k/\Ab (Mk k) (dN k (tzl c)):=λk l=>by
 have t0:Tr (tzl c):=Qd c;have e:(tzl c).length<=6:=aB (Ic c) s;have g:=ab_in h;have t1:=Pm t0;have f:(Zy (tzl c)).length<=5:=Zs7 e;have j:=Yb7 g (n:=5) e
 match k,l with
 | 0,_=>exact⟨t0,e,g⟩
 | 1,_=>exact⟨t1,f,j⟩
 | 2,_=>exact⟨Pm t1,Zs7 f,Yb7 j (n:=4) f⟩
theorem Mk_lt : Mk k<2^70:=by
 have e:(2:Nat)^63<2^70:=O3;have f:5*(2:Nat)^63<2^70:=O3;have g:4*(5*(2:Nat)^63)<2^70:=O3;unfold Mk;split
 .exact e
 .exact f
 .exact g
theorem Ybb(h:∀a∈c,Qf a)(j:c.length<=6)(g:k<=2):Vp (dN k (tzl c))/\(∀i,bl (cf (dN k (tzl c)) (i+1)*((i:Int)+1)).natAbs<=65536):=by obtain⟨e,l,f⟩:=dN_ok h j k g;have hs:=f.sz Mk_lt;exact⟨⟨hs.mono O,e,O⟩,λi=>by have:=Fl hs O i;rw [Mw]at this;omega⟩
theorem Zby(h:∀a∈c,Qf a)(G:c.length<=6)(j:o=1\/o=2) :
  bl (Ze9 o).natAbs<=65536/\(∀i,bl (cf (dN o (tzl c)) i*Ze9 o).natAbs<=65536)/\Vp (axQ o c)/\¬Gy (axQ o c) (axQ o c)/\Vp (sqQ o c)/\(sqQ o c).length<=11-2*o/\Ab (if o=1 then 5*(5*2^63*1000*(5*2^63*1000))else 4*(4*(5*2^63)*1000000*(4*(5*2^63)*1000000))) (sqQ o c)/\Sz 183 (sqQ o c):=by
 obtain⟨I,B,u⟩:=dN_ok h G o O;have P:bl (Ze9 o).natAbs<=20:=by rcases j with rfl|rfl<;>decide
 have hs:=u.sz Mk_lt;have l:Ab (Mk o*(Ze9 o).natAbs) (axQ o c):=by have:=Zpg u (Ze9 o);rw [Zs8]at this ⊢;exact this
 have n:(axQ o c).length<=6-o:=aB (Co _) B;have s:Tr (axQ o c):=Qx;have e:Sz 90 (axQ o c):=l.sz (by rcases j with rfl|rfl<;>decide);have H:Vp (axQ o c):=⟨e.mono O,s,O⟩;have F:=Yb6 l l n;have v:=Zs6 s s n n;have f:Ab (if o=1 then 5*(5*2^63*1000*(5*2^63*1000))else 4*(4*(5*2^63)*1000000*(4*(5*2^63)*1000000))) (sqQ o c):=by rcases j with rfl|rfl<;>exact F
 have g:Sz 183 (sqQ o c):=f.sz (by rcases j with rfl|rfl<;>decide);refine⟨O,λi=>?_,H,λD=>?_,⟨g.mono O,Xk,by have:(sqQ o c).length<=_:=v;omega⟩,by have:(sqQ o c).length<=_:=v;omega,f,g⟩
 .have:=hs i;have:=Xb (cf (dN o (tzl c)) i) (Ze9 o);omega
 .have m:=Qv e;rcases D.2.2 with w|w<;>omega
theorem Zfe{fr B:Int}(h:Sgo fr B ov x y z)(f:o=1\/o=2):∀i,i<=3->Tr (Fn o x y z i)/\(Fn o x y z i).length<=11-2*o/\Ab (i*if o=1 then 5*(5*2^63*1000*(5*2^63*1000))else 4*(4*(5*2^63)*1000000*(4*(5*2^63)*1000000))) (Fn o x y z i)/\Sz 184 (Fn o x y z i)/\Vp (Fn o x y z i):=λi hi=>by
 have e:Tr (Fn o x y z i)/\(Fn o x y z i).length<=11-2*o/\Ab (i*if o=1 then 5*(5*2^63*1000*(5*2^63*1000))else 4*(4*(5*2^63)*1000000*(4*(5*2^63)*1000000))) (Fn o x y z i):=by
  induction i with
  | zero=>exact⟨.inl rfl,aZ _,λi=>by show(cf [] i).natAbs<=_;rw [Zv O7];exact aZ _⟩
  | succ i v=>
   obtain⟨D,l,n⟩:=v O;obtain⟨-,-,-,-,-,s,u,-⟩:=Zby (h.hc i) (h.lc i).2 f;exact⟨Qd _,Yd6 l s,by rw [eV];exact ab_add n u⟩
 obtain⟨g,w,j⟩:=e;have hs:Sz 184 (Fn o x y z i):=j.sz (bC (aI _ hi) (by rcases f with rfl|rfl<;>decide));exact⟨g,w,j,hs,hs.mono O,g,O⟩
theorem timC_b{fr f m:Int}(h:Sgo fr f ov x y z)(u:0<=m)(v:m<=10000)(w:o=1\/o=2):(Za2 o m ov (f-fr)).natAbs<=10000*4294967296*3600000^o:=by
 have g:=h.t1;have j:=h.t2;have l:=h.t3;have n:=h.o1;have s:=h.o2;have e:Za2 o m ov (f-fr)=m*(ov*(f-fr)^o):=by unfold Za2;show m*(ov*Xi _)=_;rw [Zr9]
 rw [e,cC,cC,cF];refine aY O (aY O ?_);rw [jB];exact eH O o
theorem Zsp{fr e m:Int}(h:Sgo fr e ov x y z)(D:0<=m)(F:m<=10000)(n:o=1\/o=2) :
  bl (Za2 o m ov (e-fr)).natAbs<=89/\Vp (Lk o m ov (e-fr))/\(∀i,bl (cf [1] i*Za2 o m ov (e-fr)).natAbs<=65536)/\¬Gy (Lk o m ov (e-fr)) (Lk o m ov (e-fr))/\Vp (Yy (Lk o m ov (e-fr)) (Lk o m ov (e-fr)))/\
  (Yy (Lk o m ov (e-fr)) (Lk o m ov (e-fr))).length<=1/\Sz 178 (Yy (Lk o m ov (e-fr)) (Lk o m ov (e-fr))):=by
 have I:=timC_b h D F n;have B:bl (Za2 o m ov (e-fr)).natAbs<=89:=(Xo 89 _).2 (bC I (by rcases n with rfl|rfl<;>decide));have f:Ab 1 [1]:=λi=>by
  match i with
  | 0=>decide
  | i+1=>rw [Zv O7];decide
 have v:Ab (1*(Za2 o m ov (e-fr)).natAbs) (Lk o m ov (e-fr)):=Zpg f _;have g:=v.mono (N:=10000*4294967296*3600000^o) O;have s:(Lk o m ov (e-fr)).length<=1:=Co [1];have u:Tr (Lk o m ov (e-fr)):=Qx;have H:=Yb6 g g s;have Q:=Zs6 u u s s;have j:Sz 89 (Lk o m ov (e-fr)):=v.sz (by rw [kI];exact(Xo 89 _).1 B);have l:Sz 178 (Yy (Lk o m ov (e-fr)) (Lk o m ov (e-fr))):=H.sz (by rcases n with rfl|rfl<;>decide);refine⟨B,⟨j.mono O,u,O⟩,λi=>?_,λG=>?_,⟨l.mono O,Xk,O⟩,O,l⟩
 .have P:=Xb (cf [1] i) (Za2 o m ov (e-fr));have:=(Xo 1 _).2 (bC (f i) (by decide:1<2^1));omega
 .have m:=Qv j;rcases G.2.2 with w|w<;>omega
theorem Fu{fr e m:Int}(h:Sgo fr e ov x y z)(s:0<=m)(f:m<=10000)(g:o=1\/o=2) :
  (∀i,bl (cf (Yy (Lk o m ov (e-fr)) (Lk o m ov (e-fr))) i-cf (Fn o x y z 3) i).natAbs<=65536)/\Vp (Gw (Yy (Lk o m ov (e-fr)) (Lk o m ov (e-fr))) (Fn o x y z 3))/\Cvd (Im o m ov (e-fr) x y z):=by
 obtain⟨v,w,B,D,F,G,l⟩:=Zsp h s f g;obtain⟨H,I,P,n,Q⟩:=Zfe h g 3 O;have hs:Sz 185 (Gw (Yy (Lk o m ov (e-fr)) (Lk o m ov (e-fr))) (Fn o x y z 3)):=λi=>by rw [Fd];have f:=(Xo 178 _).1 (l i);have R:=(Xo 184 _).1 (n i);have S:(2:Nat)^178<=2^184:=cN O3 O3;have V:(2:Nat)^185=2*2^184:=O3;refine(Xo 185 _).2 ?_;omega
 have u:(Gw (Yy (Lk o m ov (e-fr)) (Lk o m ov (e-fr))) (Fn o x y z 3)).length<=9:=Yd5 O O;have j:Vp (Gw (Yy (Lk o m ov (e-fr)) (Lk o m ov (e-fr))) (Fn o x y z 3)):=⟨hs.mono O,Qd _,O⟩;refine⟨λi=>?_,j,Mt j,(Ge hs).mono O,by unfold Im;rw [Zk];exact aB u O3⟩;have:=hs i;rw [Fd]at this;omega
theorem Zqi(h:o=2):Ze9 o=Xi [1000,1000]:=by rw [h];rfl
theorem kilo_1(h:o=1):Ze9 o=Xi [1000]:=by rw [h];rfl
theorem Zpn{m T:Int}(h:o=2):Za2 o m ov T=Xi [m,ov,T,T]:=by rw [h];rfl
theorem timC_1{m T:Int}(h:o=1):Za2 o m ov T=Xi [m,ov,T]:=by rw [h];rfl
theorem Yco(h:c.length<=6):¬25<(tzl c).length:=by have:=Ic c;omega
def tzl1:(if 25<(tzl [(1:Int)]).length then []else tzl [1])=[1]:=O3
theorem vp1:Vp [1]:=⟨λi=>by
 match i with
 | 0=>decide
 | i+1=>rw [Zv O7];decide,.inr O3,O3⟩
def Ao{l:List Int}(h:∀a∈l,-9223372036854775808<=a/\a<=9223372036854775807):∀a∈l,Qf a:=h
theorem Ycv{fr f:Int}(h:Sgo fr f ov x y z)(e:o=1\/o=2)(hi:i<3):∀k,bl (cf (Fn o x y z i) k+cf (sqQ o (Yg i x y z)) k).natAbs<=65536:=λk=>by have:=(Zfe h e (i+1) hi).2.2.2.1 k;rw [show Fn o x y z (i+1)=Hf (Fn o x y z i) (sqQ o (Yg i x y z))from rfl,Zaz]at this;omega
def Lw(z:R2):Prop:=0<z.2/\Int.gcd z.1 z.2=1
theorem lgcd_p{x y:Int}(e:0<y):Nc x y=(Int.gcd x y:Int):=by unfold Nc;rw [aE O]
theorem Zzo (x:Int){y:Int}(e:0<y):Lw (x/Nc x y,y/Nc x y):=by have f:0<Int.gcd x y:=Int.gcd_pos_of_ne_zero_right _ O;rw [lgcd_p e];refine⟨Int.ediv_pos_of_pos_of_dvd e O (gT ..),?_⟩;exact Int.gcd_ediv_gcd_ediv_gcd f
theorem Zkr(e:0<a.2)(h:¬Md a.1 a.2):Lw (slow a):=by obtain⟨f,g,-⟩:=Cq h;have:=Zzo a.1 e;unfold slow;rw [f,g];exact this
theorem Zzn(h:Za9 a b)(e:0<a.2)(f:0<b.2):Lw (Qe a b):=by obtain⟨j,l,-⟩:=Cq h.2;have g:0<Kt (a.1*b.2+b.1*a.2) (a.2*b.2)*2:=fW (Zp8 h.1 (fW e f)) O3;have:=Zzo (Ie (a.1*b.2+b.1*a.2) (a.2*b.2)*1) g;unfold Qe;rw [j,l];exact this
structure Hv (n Q j:Nat) (W:Rat) (a b:R2):Prop where
 hQ:0<Q
 hQ2:Q<2^(2*n)
 ea:En (2^n) Q j a
 eb:En (2^n) Q j b
 wd:(qv b-qv a)*((2^j:Nat):Rat)=W
 le:qv a<=qv b
 la:Lw a
 lb:Lw b
theorem Hv.start{n:Nat}(j:0<a.2)(l:0<b.2)(u:bl a.1.natAbs<=n)(F:bl a.2.natAbs<=n)(v:bl b.1.natAbs<=n)(G:bl b.2.natAbs<=n)(w:n<=65536)(s:qv a<=qv b):∃Q,Hv n Q 0 (qv b-qv a) (slow a) (slow b):=by
 obtain⟨V,W,Z,Y,f⟩:=Bw _ j u F w;obtain⟨t1,t2,t3,t4,t5⟩:=Bw _ l v G w;have R:=(Xo n _).1 Y;have S:=(Xo n _).1 t4;have B:=Zkc j (dZ ((Xo n _).1 u));have D:=Zkc l (dZ ((Xo n _).1 v));have g:0<(slow a).2.natAbs*(slow b).2.natAbs:=fF O O;have h:(slow a).2.natAbs*(slow b).2.natAbs<2^(2*n):=by rw [show 2*n=n+n by omega,bH];exact gY R (dZ S) (bK O3)
 generalize P:(slow a).2.natAbs*(slow b).2.natAbs=Q at *;have e:((Q*2^0:Nat):Int)=(slow a).2*(slow b).2:=by rw [fC,lX,<-P];push_cast;rw [jP O,jP O]
 have H:En (2^n) Q 0 (slow a):=⟨W,by rw [e];exact gU _ _,by rw [f];exact B.1,by rw [f];exact B.2⟩;have I:En (2^n) Q 0 (slow b):=⟨t2,by rw [e];exact Int.dvd_mul_left _ _,by rw [t5];exact D.1,by rw [t5];exact D.2⟩;exact⟨Q,g,h,H,I,by rw [f,t5,fC];push_cast;grind,by rw [f,t5];exact s,Zkr j V,Zkr l t1⟩
theorem Hv.mid{n Q j B:Nat}{W:Rat}(h:Hv n Q j W a b)(Y:3*n+2+j<=B)(l:B<=65536) :
  Za9 a b/\(bl (Qe a b).1.natAbs<=B/\bl (Qe a b).2.natAbs<=B/\0<(Qe a b).2)/\qv (Qe a b)=(qv a+qv b)/2/\(bl a.1.natAbs<=B/\bl a.2.natAbs<=B/\0<a.2)/\(bl b.1.natAbs<=B/\bl b.2.natAbs<=B/\0<b.2)/\
  Hv n Q (j+1) W a (Qe a b)/\Hv n Q (j+1) W (Qe a b) b:=by
 have e:∀m,m<=B->2^m<=2^B:=λm h=>cN O3 h;have g:Q*2^(j+1)<2^B:=by have:Q*2^(j+1)<2^(2*n)*2^(j+1):=dP h.hQ2 (bK O3);rw [<-bH]at this;exact cL this (e _ O)
 have s:2*2^n*(Q*2^j)<2^B:=by
  have G:Q*2^j<2^(2*n)*2^j:=dP h.hQ2 (bK O3);have w:2*2^n*(Q*2^j)<2*2^n*(2^(2*n)*2^j):=iB G (fF O3 (bK O3));have H:2*2^n*(2^(2*n)*2^j)=2^(3*n+1+j):=by rw [<-bH,<-mK,<-bH];congr 1;omega
  rw [H]at w;exact cL w (e _ O)
 obtain⟨F,u,v,P,R⟩:=mid_en h.ea h.eb h.hQ g s l;obtain⟨S,V⟩:=Yax j 0 B h.ea h.hQ h.hQ2 O;obtain⟨r1,r2⟩:=Yax j 0 B h.eb h.hQ h.hQ2 O;have f:=Zzn F h.ea.pos h.eb.pos;have D:((2^(j+1):Nat):Rat)=2*((2^j:Nat):Rat):=by rw [bL];push_cast;grind
 have I:=h.le;refine⟨F,⟨P,R,u.pos⟩,v,⟨S,V,h.ea.pos⟩,⟨r1,r2,h.eb.pos⟩,⟨h.hQ,h.hQ2,h.ea.up,u,?_,O4,h.la,f⟩,⟨h.hQ,h.hQ2,u,h.eb.up,?_,O4,f,h.lb⟩⟩
 .rw [v,D,<-h.wd];grind
 .rw [v,D,<-h.wd];grind
def Zux{n:Nat}(h:Sz k p)(e:k<=n)(i:Nat):(cf p i).natAbs<=2^n:=aB (Zdt h i) (cN O3 e)
theorem Yc7(h:Cvd xs)(j:xs≠[]):Eg 13 xs/\∀u v:Rat,-((2^34:Nat):Rat)<=u->u<=v->v<=((2^34:Nat):Rat)->v-u<=1/((2^5000:Nat):Rat)->Dd 13 xs u-Dd 13 xs v<=1:=by
 have G:=h.l;obtain⟨l,e,D,F⟩:=chG 13 h.v.tr j h.s O O O;have g:=Fl e O;have f:∀n,n<=11->2<=n->Zr1 (2^34) (2^225) n 5000=true:=O5;obtain⟨n,s⟩:∃n:Nat,n=225:=⟨_,rfl⟩;rw [<-s]at f;have g:Sz n (Zy (sqf 13 xs)):=by rw [s];exact g
 have B:∀i,(cf (sqf 13 xs) i).natAbs<=2^n:=λi=>Zux e O i;exact⟨l,λu v=>sep_of h.v.tr j l (bK O3) (A:=2^n) (bK O3) B (λi=>Zdt g i) (λw=>f _ O w) u v⟩
theorem Zvh{j e w:Nat}{x W:Rat}(B:1/((2^(e+1):Nat):Rat)<x)(D:x*((2^j:Nat):Rat)=W)(F:W<=((2^w:Nat):Rat)):j<e+1+w:=by
 have g:=two_pow_pos (e+1);have h:=two_pow_pos j;rcases bJ j (e+1+w)with q|q
 .exact q
 .exfalso;have hi:0<((2^(e+1):Nat):Rat)⁻¹:=fH.2 g;have f:((2^(e+1):Nat):Rat)*((2^(e+1):Nat):Rat)⁻¹=1:=kE _ O4;have l:((2^(e+1):Nat):Rat)*((2^w:Nat):Rat)<=((2^j:Nat):Rat):=by
   have:2^(e+1)*2^w<=2^j:=by rw [<-bH];exact cN O3 q
   exact_mod_cast this
  have n:((2^(e+1):Nat):Rat)⁻¹<x:=O4;have s:=aV (show 0<x-((2^(e+1):Nat):Rat)⁻¹ by grind) h;have u:=aC (cJ hi) (show 0<=((2^j:Nat):Rat)-((2^(e+1):Nat):Rat)*((2^w:Nat):Rat) by grind);have v:((2^(e+1):Nat):Rat)⁻¹*(((2^(e+1):Nat):Rat)*((2^w:Nat):Rat))=((2^w:Nat):Rat):=by rw [<-jI,lE (((2^(e+1):Nat):Rat)⁻¹),f,nJ]
  grind
structure NIn (xs:List Int) (s t:Rat) (j:Nat) (a b:R2):Prop where
 ex:∃Q W,Hv 34 Q j W a b/\W<=((2^34:Nat):Rat)
 lo:s<=qv a
 hi:qv b<=t
 l0:-((2^33:Nat):Rat)<=s
 h0:t<=((2^33:Nat):Rat)
 pa:0<=Zb xs (qv a)
 pb:0<=Zb xs (qv b)
 ng:Zpi xs (qv a) (qv b)
theorem rat34:((2^34:Nat):Rat)=2*((2^33:Nat):Rat)/\(1:Rat)<=((2^33:Nat):Rat):=by
 have h:∀n:Nat,((2^(n+1):Nat):Rat)=2*((2^n:Nat):Rat):=λn=>by rw [bL];push_cast;grind
 constructor
 .exact h 33
 .exact_mod_cast (show 1<=2^33 by decide)
theorem NIn.j{hi:Rat}{j:Nat}(g:Cvd xs)(f:xs≠[])(h:NIn xs lo hi j a b):j<5035:=by obtain⟨Q,W,l,n⟩:=h.ex;obtain⟨u,hs⟩:=Yc7 g f;obtain⟨G,H⟩:=rat34;have v:=h.lo;have B:=h.hi;have D:=h.l0;have F:=h.h0;have:=Ydv (Zcu g f).1 u (K:=2^34) (e:=5000) hs (s:=qv a) (t:=qv b) O4 O4 h.pa h.pb h.ng;exact Zvh (e:=5000) (w:=34) this l.wd n
theorem NIn.start(e:0<a.2)(f:0<b.2)(j:bl a.1.natAbs<=32)(F:bl a.2.natAbs<=32)(l:bl b.1.natAbs<=32)(G:bl b.2.natAbs<=32)(g:qv a<=qv b)(v:0<=Zb xs (qv a))(w:0<=Zb xs (qv b))(u:Zpi xs (qv a) (qv b)) :
  NIn xs (qv a) (qv b) 0 (slow a) (slow b):=by
 obtain⟨Q,s⟩:=Hv.start (n:=34) e f O O O O O g;obtain⟨-,-,-,-,h⟩:=Bw 34 e O O O;obtain⟨-,-,-,-,t5⟩:=Bw 34 f O O O;have B:=Zkc (K:=2^33) e (aB (dZ ((Xo 32 _).1 j)) O3);have D:=Zkc (K:=2^33) f (aB (dZ ((Xo 32 _).1 l)) O3);obtain⟨H,I⟩:=rat34;exact⟨⟨Q,_,s,O4⟩,by rw [h];exact gG,by rw [t5];exact gG,B.1,D.2,by rw [h];exact v,by rw [t5];exact w,by rw [h,t5];exact u⟩
structure Fnd (xs:List Int) (s t:Rat) (m:R2):Prop where
 ng:Zb xs (qv m)<0
 lo:s<=qv m
 hi:qv m<=t
 b1:bl m.1.natAbs<=5200
 b2:bl m.2.natAbs<=5200
 lw:Lw m
theorem NIn.round{hi:Rat}{j:Nat}(F:Cvd xs)(R:xs≠[])(h:NIn xs lo hi j a b) :
  Za9 a b/\(bl (Qe a b).1.natAbs<=5200/\bl (Qe a b).2.natAbs<=5200/\0<(Qe a b).2)/\(bl a.1.natAbs<=5200/\bl a.2.natAbs<=5200/\0<a.2)/\(bl b.1.natAbs<=5200/\bl b.2.natAbs<=5200/\0<b.2)/\
  (vlu (Qz xs) (Qe a b)<0->Fnd xs lo hi (Qe a b))/\(¬vlu (Qz xs) (Qe a b)<0->ngb (Qz xs) (chx xs) a (Qe a b)=true->NIn xs lo hi (j+1) a (Qe a b))/\
  (¬vlu (Qz xs) (Qe a b)<0->ngb (Qz xs) (chx xs) a (Qe a b)=false->NIn xs lo hi (j+1) (Qe a b) b):=by
 have hj:=h.j F R;obtain⟨Q,W,w,D⟩:=h.ex;obtain⟨H,s,m3,v,I,Z,m7⟩:=w.mid (B:=5200) O O;have S:=w.le;have V:=h.lo;have Y:=h.hi;have G:=Zfx (xs:=xs) s.2.2;have n:¬vlu (Qz xs) (Qe a b)<0->0<=Zb xs (qv (Qe a b)):=λe=>by
  rw [G]at e;rcases Qa (Zb xs (qv (Qe a b)))with⟨f,g⟩|⟨f,g⟩|⟨f,g⟩
  .exact cJ f
  .rw [g]at e;exact absurd O3 e
  .rw [f];exact gG
 have l:=Zko F v.2.2 s.2.2 (show qv a<=qv (Qe a b) by grind);refine⟨H,s,v,I,λe=>?_,λe u=>?_,λe u=>?_⟩
 .have:Zb xs (qv (Qe a b))<0:=by
   rw [G]at e;rcases Qa (Zb xs (qv (Qe a b)))with⟨f,g⟩|⟨f,g⟩|⟨f,g⟩
   .rw [g]at e;exact absurd e O3
   .exact f
   .rw [g]at e;exact absurd e O3
  exact⟨this,O4,O4,s.1,s.2.1,Zzn H v.2.2 I.2.2⟩
 .exact⟨⟨Q,W,Z,D⟩,V,O4,h.l0,h.h0,h.pa,n e,l.1 u⟩
 .refine⟨⟨Q,W,m7,D⟩,O4,Y,h.l0,h.h0,n e,h.pb,?_⟩;obtain⟨x,x1,x2,P⟩:=h.ng;rcases(show x<=qv (Qe a b)\/qv (Qe a b)<=x by grind)with q|q
  .have:=l.2 ⟨x,x1,q,P⟩;rw [u]at this;exact absurd this O3
  .exact⟨x,q,x2,P⟩
def frs(xs:List Int):Nat->R2->R2->R2×R2
 | 0,a,b=>(a,b)
 | n+1,a,b=>if ngb (Qz xs) (chx xs) a (Qe a b)then frs xs n a (Qe a b)else frs xs n (Qe a b) b
structure E32 (a:R2):Prop where
 p:0<a.2
 b1:bl a.1.natAbs<=32
 b2:bl a.2.natAbs<=32
theorem E32.slow(h:E32 a):E32 (slow a)/\qv (Go.Sky.slow a)=qv a/\Lw (Go.Sky.slow a)/\¬Md a.1 a.2:=by obtain⟨e,f,g,j,l⟩:=Bw 32 h.p h.b1 h.b2 O;exact⟨⟨f,g,j⟩,l,Zkr h.p e,e⟩
theorem Zfd(g:0<m.2):vlu (Qz xs) m<0↔Zb xs (qv m)<0:=by
 rw [Zfx g];rcases Qa (Zb xs (qv m))with⟨f,e⟩|⟨f,e⟩|⟨f,e⟩
 .rw [e];constructor
  .intro h;exact absurd h O3
  .intro h;grind
 .rw [e];exact⟨λ_=>f,λ_=>O3⟩
 .rw [e,f];constructor
  .intro h;exact absurd h O3
  .intro h;grind
theorem end_l(l:E32 a)(e:qv a<=qv b)(h:vlu (Qz xs) (slow a)<0):Fnd xs (qv a) (qv b) (slow a):=by obtain⟨f,g,n,s⟩:=l.slow;have j:=(Zfd f.p).1 h;exact⟨j,by rw [g];exact gG,by rw [g];exact e,aB f.b1 O3,aB f.b2 O3,n⟩
theorem end_r(l:E32 b)(e:qv a<=qv b)(h:vlu (Qz xs) (slow b)<0):Fnd xs (qv a) (qv b) (slow b):=by obtain⟨f,g,n,s⟩:=l.slow;have j:=(Zfd f.p).1 h;exact⟨j,by rw [g];exact e,by rw [g];exact gG,aB f.b1 O3,aB f.b2 O3,n⟩
theorem Zvn(n:Cvd xs)(f:E32 a)(g:E32 b)(h:qv a<=qv b)(j:¬vlu (Qz xs) (slow a)<0)(l:¬vlu (Qz xs) (slow b)<0)(s:ngb (Qz xs) (chx xs) a b=true) :
  NIn xs (qv a) (qv b) 0 (slow a) (slow b):=by
 obtain⟨w,B,D,F⟩:=f.slow;obtain⟨t1,t2,t3,t4⟩:=g.slow;have u:¬Zb xs (qv (slow a))<0:=λe=>j ((Zfd w.p).2 e);have v:¬Zb xs (qv (slow b))<0:=λe=>l ((Zfd t1.p).2 e);rw [B]at u;rw [t2]at v;exact NIn.start f.p g.p f.b1 f.b2 g.b1 g.b2 h O4 O4 ((Zko n f.p g.p h).1 s)
theorem ngb_ne(h:ngb (Qz xs) (chx xs) a b=true):xs≠[]:=λe=>by
 subst e;unfold ngb at h;split at h
 .exact absurd h (by show ¬decide ((0:Int)<0)=true;decide)
 .exact absurd h (by show ¬(decide ((0:Int)<0) || false)=true;decide)
theorem E32.efit(h:E32 a):efit a=true:=by have:=h.b1;have:=h.b2;unfold Go.Sky.efit;exact aO O
structure FIn (xs:List Int) (j:Nat) (a b:R2):Prop where
 ex:∃Q W,Hv 34 Q j W a b
 bj:j<=200
theorem FIn.start(e:E32 a)(f:E32 b)(g:qv a<=qv b):FIn xs 0 (slow a) (slow b):=by obtain⟨Q,h⟩:=Hv.start (n:=34) e.p f.p (aB e.b1 O3) (aB e.b2 O3) (aB f.b1 O3) (aB f.b2 O3) O g;exact⟨⟨Q,_,h⟩,O⟩
theorem FIn.round{j:Nat}(h:FIn xs j a b) :
  Za9 a b/\(bl (Qe a b).1.natAbs<=5200/\bl (Qe a b).2.natAbs<=5200/\0<(Qe a b).2)/\(bl a.1.natAbs<=5200/\bl a.2.natAbs<=5200/\0<a.2)/\(bl b.1.natAbs<=5200/\bl b.2.natAbs<=5200/\0<b.2)/\
  (j<200->FIn xs (j+1) a (Qe a b)/\FIn xs (j+1) (Qe a b) b):=by
 obtain⟨Q,W,e⟩:=h.ex;have w:=h.bj;obtain⟨g,l,D,n,s,u,v⟩:=e.mid (B:=5200) O O;exact⟨g,l,n,s,λf=>⟨⟨⟨Q,W,u⟩,O⟩,⟨⟨Q,W,v⟩,O⟩⟩⟩
theorem Ydu(g:E32 a)(j:E32 b)(f:qv a<=qv b)(hi:i<2)(h:vlu (Qz xs) ([slow a,slow b].getD i (0,0))<0):Fnd xs (qv a) (qv b) ([slow a,slow b].getD i (0,0)):=by
 rcases(show i=0\/i=1 by omega)with e|e
 .subst e;exact end_l g f h
 .subst e;exact end_r j f h
theorem Yes(f:E32 a)(g:E32 b)(i:Nat)(hi:i<2):E32 ([slow a,slow b].getD i (0,0)):=by
 rcases(show i=0\/i=1 by omega)with e|e
 .subst e;exact f.slow.1
 .subst e;exact g.slow.1
def Ye6(e:E32 a)(f:E32 b)(h:¬0<cmp a b):qv a<=qv b:=(Ye5 e.p f.p).1 O
def e32_0:E32 (0,1):=⟨O3,O3,O3⟩
def e32_1:E32 (1,1):=⟨O3,O3,O3⟩
theorem rn01:Ie 0 1=0/\Kt 0 1=1:=by obtain⟨e,f,-⟩:=Cq e32_0.slow.2.2.2;exact⟨e.trans O5,f.trans O5⟩
theorem rn11:Ie 1 1=1/\Kt 1 1=1:=by obtain⟨e,f,-⟩:=Cq e32_1.slow.2.2.2;exact⟨e.trans O5,f.trans O5⟩
def cmp01:¬0<cmp (0,1) (1,1):=O5
def Gx(xs:List Int):Bool:=ngb (Qz xs) (chx xs) (0,1) (1,1)
def slS(d:List Int):Nat->Int
 | 0=>0
 | k+1=>slS d k+Xi [d.getD k 0,(k:Int)+1]
def fsS(d:List Int)(k:Nat):Int:=if k=0 then 0 else d.getD 0 0
def Zav(h:k≠0):fsS d k=d.getD 0 0:=aE h
def qr(a b:Int):R2:=(Ie a b,Kt a b)
def bgS(c:List Int):Int:=fsS (c.drop 1) (c.drop 1).length
def enS(c:List Int):Int:=slS (c.drop 1) (c.drop 1).length
def bS(ov T:Int)(x y z:List Int):Nat->List R2
 | 0=>List.replicate 3 (0,0)
 | i+1=>(bS ov T x y z i).set i (qr (bgS (Yg i x y z)) (Xi [ov,T]))
def eS(ov T:Int)(x y z:List Int):Nat->List R2
 | 0=>List.replicate 3 (0,0)
 | i+1=>(eS ov T x y z i).set i (qr (enS (Yg i x y z)) (Xi [ov,T]))
theorem Cw(ov T:Int)(x y z:List Int):∀i,(bS ov T x y z i).length=3
 | 0=>rfl
 | i+1=>by show(List.set _ _ _).length=3;rw [dA];exact Cw ov T x y z i
theorem Cv(ov T:Int)(x y z:List Int):∀i,(eS ov T x y z i).length=3
 | 0=>rfl
 | i+1=>by show(List.set _ _ _).length=3;rw [dA];exact Cv ov T x y z i
theorem Zrt{d:List Int}(h:∀a∈d,Qf a):∀k,k<=5->(slS d k).natAbs<=k*(9223372036854775808*5)
 | 0,_=>by show(0:Int).natAbs<=_;decide
 | k+1,j=>by
  have l:=Zrt h k O;obtain⟨e,f⟩:=Po h k;have g:(Xi [d.getD k 0,(k:Int)+1]).natAbs<=9223372036854775808*5:=by show(d.getD k 0*(((k:Int)+1)*1)).natAbs<=_;rw [cC];exact aY O O
  show(slS d k+Xi [d.getD k 0,(k:Int)+1]).natAbs<=_;rw [eV];omega
def Qo(h:∀a∈c,Qf a):∀a∈c.drop 1,Qf a:=λa e=>h a (hZ e)
def Zaa(h:∀a∈d,Qf a)(e:k<=5):bl (slS d k).natAbs<=80:=
 (Xo 80 _).2 (bC (Zrt h k e) (bC (aI _ e) O3))
theorem bl_fsS(h:∀a∈d,Qf a):bl (fsS d k).natAbs<=80:=by
 unfold fsS;split
 .decide
 .exact aB (Gq (Po h 0)) O3
theorem per_ok{fr f:Int}(h:Sgo fr f ov x y z):bl (Xi [ov,f-fr]).natAbs<=80/\Xi [ov,f-fr]≠0/\0<Xi [ov,f-fr]:=by
 have j:=h.t1;have l:=h.t2;have n:=h.t3;have s:=h.o1;have u:=h.o2;have e:Xi [ov,f-fr]=ov*(f-fr):=by show ov*((f-fr)*1)=_;rw [jN]
 have g:0<ov*(f-fr):=fW O O;rw [e];refine⟨(Xo 80 _).2 ?_,O,g⟩;rw [cC];exact bC (aY (show ov.natAbs<=4294967296 by omega) (show(f-fr).natAbs<=3600000 by omega)) O3
theorem in_pr{fr f:Int}(h:Sgo fr f ov x y z):∀a∈[ov,f-fr],Qf a:=λa e=>by have g:=h.t1;have j:=h.t2;have l:=h.t3;have n:=h.o1;have s:=h.o2;simp only [bO,dV,gX]at e;rcases e with rfl|rfl<;>exact⟨O,O⟩
theorem Zeh(h:∀a∈d,Qf a)(j:k<=5):bl (Xi [d.getD k 0,(k:Int)+1]).natAbs<=65536:=by have e:=Gq (Po h k);have f:bl (((k:Int)+1)*1).natAbs<=3:=(Xo 3 _).2 O;have g:=Xb (d.getD k 0) (((k:Int)+1)*1);show bl (d.getD k 0*(((k:Int)+1)*1)).natAbs<=_;omega
def Zjm(h:∀a∈d,Qf a)(e:k<5):Db (slS d k+Xi [d.getD k 0,(k:Int)+1])=slS d (k+1):=
 Ng (aB (Zaa h (k:=k+1) O) O3)
def Zn3(fr h ov:Int)(x y z:List Int)(e g f:Int)(j l n:List Int):Bool:=
 decide (qr (bgS j) (Xi [f,g-e])=qr (enS x) (Xi [ov,h-fr])/\qr (bgS l) (Xi [f,g-e])=qr (enS y) (Xi [ov,h-fr])/\qr (bgS n) (Xi [f,g-e])=qr (enS z) (Xi [ov,h-fr]))
def plT(c:List Int)(a d:Int)(k:Nat):Int:=c.getD k 0*(a^k*d^(5-(k:Int)).toNat)
def plS(c:List Int)(a d:Int):Nat->Int
 | 0=>0
 | k+1=>plS c a d k+plT c a d k
def pl(c:List Int)(a d:Int):Int:=plS c a d c.length
def atS(a d:Int)(x y z:List Int):Nat->List Int
 | 0=>List.replicate 3 0
 | i+1=>(atS a d x y z i).set i (pl (Yg i x y z) a d)
def gS(ov a d:Int)(x y z:List Int):Nat->Int
 | 0=>ov*d^5
 | i+1=>(Int.gcd (gS ov a d x y z i) (pl (Yg i x y z) a d):Int)
abbrev plV (p q r o:Int):Value:= .agg #[.bool (decide (p<0)),.string (Yw p.natAbs),.bool (decide (q<0)),.string (Yw q.natAbs),.bool (decide (r<0)),.string (Yw r.natAbs),.bool (decide (o<0)),.string (Yw o.natAbs)]
theorem Fb(a d:Int)(x y z:List Int):∀i,(atS a d x y z i).length=3
 | 0=>rfl
 | i+1=>by show(List.set _ _ _).length=3;rw [dA];exact Fb a d x y z i
theorem Yb0(a d:Int)(x y z:List Int)(h:i<3):atS a d x y z i=(atS a d x y z i).set i 0:=by
 match i,h with
 | 0,_=>rfl
 | 1,_=>rfl
 | 2,_=>rfl
theorem Zmz{l:List Int}{v:Int}(h:i<l.length):(l.set i v).getD i 0=v:=by rw [aX,List.getElem?_set_self h];rfl
theorem Zsg(h:∀x∈c,Qf x){a d:Int}(j:0<=a/\a<=3600000)(l:1<=d/\d<=3600000)(n:k<=5):(a^k*d^(5-(k:Int)).toNat).natAbs<=3600000^5/\(plT c a d k).natAbs<=9223372036854775808*3600000^5:=by
 have e:(a^k*d^(5-(k:Int)).toNat).natAbs<=3600000^5:=by rw [cC,jB,jB];refine aB (aY (eH (show a.natAbs<=3600000 by omega) k) (eH (show d.natAbs<=3600000 by omega) _)) ?_;rw [<-bH,show k+(5-(k:Int)).toNat=5 by omega];exact aH _
 obtain⟨f,g⟩:=Po h k;refine⟨e,?_⟩;unfold plT;rw [cC];exact aY O e
theorem Zsi{c:List Int}(h:∀x∈c,Qf x){a d:Int}(e:0<=a/\a<=3600000)(f:1<=d/\d<=3600000):∀k,k<=6->(plS c a d k).natAbs<=k*(9223372036854775808*3600000^5)
 | 0,_=>by show(0:Int).natAbs<=_;decide
 | k+1,g=>by have j:=Zsi h e f k O;have:=(Zsg h e f (k:=k) O).2;show(plS c a d k+plT c a d k).natAbs<=_;rw [eV];omega
def Zei(h:∀x∈c,Qf x){a d:Int}(f:0<=a/\a<=3600000)(g:1<=d/\d<=3600000)(e:k<=6):bl (plS c a d k).natAbs<=180:=
 (Xo 180 _).2 (bC (Zsi h f g k e) (bC (aI _ e) O3))
theorem Ybu(h:∀x∈c,Qf x){a d:Int}(g:0<=a/\a<=3600000)(j:1<=d/\d<=3600000)(l:k<=5):bl (a^k*d^(5-(k:Int)).toNat).natAbs<=180/\bl (plT c a d k).natAbs<=180:=by obtain⟨e,f⟩:=Zsg h g j l;exact⟨(Xo 180 _).2 (bC e O3),(Xo 180 _).2 (bC f O3)⟩
theorem Zq6 (a:Int)(f:0<=a/\a<=3600000)(e:k<=5):bl (a^k).natAbs<=180:=by refine(Xo 180 _).2 ?_;rw [jB];exact bC (aB (eH (show a.natAbs<=3600000 by omega) k) (cN O3 e)) O3
theorem Yai{fr l ov:Int}{x y z:List Int}(h:Sgo fr l ov x y z){a d:Int}(e:0<=a/\a<=3600000)(f:1<=d/\d<=3600000):∀i,0<gS ov a d x y z i/\bl (gS ov a d x y z i).natAbs<=180
 | 0=>by have g:=h.o1;have j:=h.o2;refine⟨fW O (nG O),(Xo 180 _).2 ?_⟩;show(ov*d^5).natAbs<_;rw [cC,jB];exact bC (aY (show ov.natAbs<=4294967296 by omega) (eH (show d.natAbs<=3600000 by omega) 5)) O3
 | i+1=>by obtain⟨g,j⟩:=Yai h e f i;have n:0<Int.gcd (gS ov a d x y z i) (pl (Yg i x y z) a d):=Int.gcd_pos_of_ne_zero_left _ O;have s:=Zlz (gS ov a d x y z i) (pl (Yg i x y z) a d);have u:bl (pl (Yg i x y z) a d).natAbs<=180:=Zei (h.hc i) e f (h.lc i).2;show 0<((Int.gcd _ _:Nat):Int)/\bl ((Int.gcd _ _:Nat):Int).natAbs<=180;exact⟨O,O⟩
def sameP(ov a d:Int)(x y z:List Int)(e g f:Int)(h j l:List Int):Bool:=
 decide (pl x a d/gS ov a d x y z 3=pl h g f/gS e g f h j l 3/\pl y a d/gS ov a d x y z 3=pl j g f/gS e g f h j l 3/\pl z a d/gS ov a d x y z 3=pl l g f/gS e g f h j l 3/\ov*d^5/gS ov a d x y z 3=e*f^5/gS e g f h j l 3)
def Zsz(g ov:Int)(x y z:List Int)(e f:Int)(h j l:List Int):Bool:=decide (g=e) && sameP ov 1 1 x y z f 0 1 h j l
structure Gin (g:Zl):Prop where
 f:Qf g.1.1
 t:Qf g.1.2.1
 o:Qf g.1.2.2
 x:∀a∈g.2.1.2,Qf a
 y:∀a∈g.2.2.1.2,Qf a
 z:∀a∈g.2.2.2.2,Qf a
def seB(g:Zl):Bool:=Ea g.1.1 g.1.2.1 g.1.2.2 g.2.1.2 g.2.2.1.2 g.2.2.2.2
def meG(g h:Zl):Bool:=Zsz g.1.2.1 g.1.2.2 g.2.1.2 g.2.2.1.2 g.2.2.2.2 h.1.1 h.1.2.2 h.2.1.2 h.2.2.1.2 h.2.2.2.2
abbrev SgG (g:Zl):Prop:=Sgo g.1.1 g.1.2.1 g.1.2.2 g.2.1.2 g.2.2.1.2 g.2.2.2.2
def Zj4{g:Zl}(h:Gin g)(e:seB g=true):SgG g:=Sgo.of h.x h.y h.z e
def Za4(ps:List Zl)(i:Nat):Bool:=seB (ps.getD i G0) && (decide (i=0) || meG (ps.getD (i-1) G0) (ps.getD i G0))
def Ok(ps:List Zl):Bool:=(List.range ps.length).all (Za4 ps) && decide (1<=ps.length) && decide (ps.length<=256)
theorem Zsq{ps:List Zl}(h:Za4 ps i=true):seB (ps.getD i G0)=true:=by unfold Za4 at h;rw [aL]at h;exact h.1
theorem okAt_s{ps:List Zl}(h:seB (ps.getD i G0)=false):Za4 ps i=false:=by unfold Za4;rw [h];rfl
theorem Zyz{ps:List Zl}(h:seB (ps.getD i G0)=true)(e:i=0):Za4 ps i=true:=by unfold Za4;rw [h,aO e];rfl
theorem Zyy{ps:List Zl}(h:seB (ps.getD i G0)=true)(e:0<i):Za4 ps i=meG (ps.getD (i-1) G0) (ps.getD i G0):=by unfold Za4;rw [h,aM O];rfl
theorem Zsm (i:Nat){ps:List Zl}(hi:i<ps.length)(h:Za4 ps i=false):Ok ps=false:=by
 unfold Ok;have:(List.range ps.length).all (Za4 ps)=false:=by
  cases hb:(List.range ps.length).all (Za4 ps)with
  | false=>rfl
  | true=>have:=bR.1 hb i (eN.2 hi);rw [h]at this;cases this
 rw [this];rfl
theorem Zsn{ps:List Zl}(h:∀i,i<ps.length->Za4 ps i=true):Ok ps=decide (1<=ps.length/\ps.length<=256):=by unfold Ok;rw [bR.2 λi hi=>h i (eN.1 hi)];simp
theorem Zu6(g:Zl)(i:Nat):seB g=false\/(seB g=true/\i=0)\/(seB g=true/\0<i):=by
 cases seB g
 .exact .inl rfl
 .exact .inr (by rcases aU i with h|h;exact .inl ⟨rfl,h⟩;exact .inr ⟨rfl,h⟩)
theorem Zvl{ps:List Zl}(h:Ok ps=true):(∀i,i<ps.length->Za4 ps i=true)/\1<=ps.length/\ps.length<=256:=by unfold Ok at h;simp only [aL,dW]at h;exact⟨λi hi=>bR.1 h.1.1 i (eN.2 hi),h.1.2,h.2⟩
open Go.ChangeShapes Go.WideShapes Go.ChangeAt Go.RowKit Go.Joins Go.Deep
open Go.Proofs
variable {P:Program} {W:World} {H:Type} {enc:TypeId×Value->H}
theorem Zhc{n:Int}(h:(Lit.int .i64 n).wf=true):Qf n:=by simp [Lit.wf,IntKind.has,IntKind.min,IntKind.max,IntKind.bits,IntKind.signed]at h;exact⟨O,O⟩
theorem Zyv {t:TypeId} {f0 f1:Field} {v:Value} {d:DataW H} {p:List MemPlace} (w:P.underlying t=some (.struct #[f0,f1])) (Q:P.cellsOf t=2) (Z:f0.offset=0) (o1:f1.offset=1) (G:P.underlying f0.type=some (.int .i64)) (I:P.underlying f1.type=some (.int .i64))
  (f:P.cellsOf f0.type=1) (g:P.cellsOf f1.type=1) {r:Reach} {F:Nat} (S:Value.okWide P W r F t v) (h:DataW.Trod enc P W 0 (λ_=>true) true t v d p):∃a b:Int,v= .agg #[.int .i64 a,.int .i64 b]/\Qf a/\Qf b:=by
 obtain⟨cs,rfl,e⟩:=okWide_struct w S;obtain⟨u,R⟩:=h;obtain⟨y0,y1,n,hx,hl,j,s⟩:=trod_struct2 w R;rw [Z,f]at j;rw [o1,g]at s;obtain⟨V,B,w0⟩:=DataW.trod_int G j;obtain⟨Y,D,w1⟩:=DataW.trod_int I s;rw [Q]at e;obtain⟨l⟩:=cs;have e:l.length=2:=by simpa using e
 match l,e with
 | [c0,c1],_=>
 simp [Value.cells]at B D;subst B;subst D;exact⟨V,Y,rfl,Zhc w0.2,Zhc w1.2⟩
end Go.Sky
namespace Go.Sky
open Go.ChangeShapes Go.WideShapes Go.ChangeAt Go.RowKit Go.Joins Go.Deep
open Go.Proofs
variable {P:Program} {W:World} {H:Type} {enc:TypeId×Value->H}
theorem Zgs {t ti:TypeId} {f0 f1 f2:Field} {v:Value} {d:DataW H} {p:List MemPlace} (q:P.underlying t=some (.struct #[f0,f1,f2])) (F:P.cellsOf t=3) (z:f0.type=ti) (B:f1.type=ti) (D:f2.type=ti) (R:f0.offset=0) (S:f1.offset=1) (o2:f2.offset=2)
  (hi:P.underlying ti=some (.int .i64)) (f:P.cellsOf ti=1) {r:Reach} {x:Nat} (I:Value.okWide P W r x t v) (h:DataW.Trod enc P W 0 (λ_=>true) true t v d p):∃a b c:Int,v= .agg #[.int .i64 a,.int .i64 b,.int .i64 c]/\Qf a/\Qf b/\Qf c:=by
 obtain⟨y,rfl,e⟩:=okWide_struct q I;obtain⟨o,G⟩:=h;obtain⟨xs,n,_,hx,hl,i,g⟩:=DataW.trod_struct q G;rw [F]at e;obtain⟨l⟩:=y;have e:l.length=3:=by simpa using e
 match l,e with
 | [c0,c1,c2],_=>
 match xs,i with
 | [y0,y1,y2],_=>
 have j:=g 0 f0 rfl;have k:=g 1 f1 rfl;have m:=g 2 f2 rfl;rw [z,R,f]at j;rw [B,S,f]at k;rw [D,o2,f]at m;obtain⟨M,s,V⟩:=DataW.trod_int hi j;obtain⟨N,u,Y⟩:=DataW.trod_int hi k;obtain⟨Q,w,Z⟩:=DataW.trod_int hi m;simp [Value.cells]at s u w;subst s;subst u;subst w;exact⟨M,N,Q,rfl,Zhc V.2,Zhc Y.2,Zhc Z.2⟩
end Go.Sky
namespace Go.Proofs.YtpmihempjefadaaGreat
open Go Go.Joins Go.Sky
def Nd{a b:Bool}(h:a=true)(c:b=true):(a && b)=true:=by rw [h,c];rfl
def cf0:(λ(P:Program) (f:FuncId) (fn:Func) (s:ChangeSpec) (c:OpenClaim)=>c.wf (OpenSpec.ofChange s)) Tryz.checked.prog 3 Tryz.f3 Rows.limitsGlidesSpec Rows.limitsGlidesRow=true:=O6
def cf1:(λ(P:Program) (f:FuncId) (fn:Func) (s:ChangeSpec) (c:OpenClaim)=>laidOutB P) Tryz.checked.prog 3 Tryz.f3 Rows.limitsGlidesSpec Rows.limitsGlidesRow=true:=O6
def cf2:(λ(P:Program) (f:FuncId) (fn:Func) (s:ChangeSpec) (c:OpenClaim)=>mapsRowed P) Tryz.checked.prog 3 Tryz.f3 Rows.limitsGlidesSpec Rows.limitsGlidesRow=true:=O6
def cf3:(λ(P:Program) (f:FuncId) (fn:Func) (s:ChangeSpec) (c:OpenClaim)=>fn.params.all (P.readableRec ·)) Tryz.checked.prog 3 Tryz.f3 Rows.limitsGlidesSpec Rows.limitsGlidesRow=true:=O6
def cf4:(λ(P:Program) (f:FuncId) (fn:Func) (s:ChangeSpec) (c:OpenClaim)=>namedTie P c.named s.vars) Tryz.checked.prog 3 Tryz.f3 Rows.limitsGlidesSpec Rows.limitsGlidesRow=true:=O6
def cf5:(λ(P:Program) (f:FuncId) (fn:Func) (s:ChangeSpec) (c:OpenClaim)=>c.stops == []) Tryz.checked.prog 3 Tryz.f3 Rows.limitsGlidesSpec Rows.limitsGlidesRow=true:=O6
def cf6:(λ(P:Program) (f:FuncId) (fn:Func) (s:ChangeSpec) (c:OpenClaim)=>P.stops == []) Tryz.checked.prog 3 Tryz.f3 Rows.limitsGlidesSpec Rows.limitsGlidesRow=true:=O6
def cf7:(λ(P:Program) (f:FuncId) (fn:Func) (s:ChangeSpec) (c:OpenClaim)=>c.knobs == []) Tryz.checked.prog 3 Tryz.f3 Rows.limitsGlidesSpec Rows.limitsGlidesRow=true:=O6
def cf8:(λ(P:Program) (f:FuncId) (fn:Func) (s:ChangeSpec) (c:OpenClaim)=>P.stopKnobs == []) Tryz.checked.prog 3 Tryz.f3 Rows.limitsGlidesSpec Rows.limitsGlidesRow=true:=O6
def cf9:(λ(P:Program) (f:FuncId) (fn:Func) (s:ChangeSpec) (c:OpenClaim)=>c.inPlace == P.inPlace f) Tryz.checked.prog 3 Tryz.f3 Rows.limitsGlidesSpec Rows.limitsGlidesRow=true:=O6
def cf10:(λ(P:Program) (f:FuncId) (fn:Func) (s:ChangeSpec) (c:OpenClaim)=>c.unfollowed == P.unfollowed f) Tryz.checked.prog 3 Tryz.f3 Rows.limitsGlidesSpec Rows.limitsGlidesRow=true:=O6
def cf11:(λ(P:Program) (f:FuncId) (fn:Func) (s:ChangeSpec) (c:OpenClaim)=>c.recurses == P.recurses f) Tryz.checked.prog 3 Tryz.f3 Rows.limitsGlidesSpec Rows.limitsGlidesRow=true:=O6
def cf12:(λ(P:Program) (f:FuncId) (fn:Func) (s:ChangeSpec) (c:OpenClaim)=>c.named == P.varsNamed f) Tryz.checked.prog 3 Tryz.f3 Rows.limitsGlidesSpec Rows.limitsGlidesRow=true:=O6
def cf13:(λ(P:Program) (f:FuncId) (fn:Func) (s:ChangeSpec) (c:OpenClaim)=>(c.maps == (fn.params.toList ++ s.plain.varTypes P).any (P.mapsRec ·))) Tryz.checked.prog 3 Tryz.f3 Rows.limitsGlidesSpec Rows.limitsGlidesRow=true:=O6
def cf14:(λ(P:Program) (f:FuncId) (fn:Func) (s:ChangeSpec) (c:OpenClaim)=>(c.ifaces == (fn.params.toList ++ s.plain.varTypes P).any (P.ifacesRec ·))) Tryz.checked.prog 3 Tryz.f3 Rows.limitsGlidesSpec Rows.limitsGlidesRow=true:=O6
def cf15:(λ(P:Program) (f:FuncId) (fn:Func) (s:ChangeSpec) (c:OpenClaim)=>c.mapsOut == P.mapsAmong fn.resultTypes.toList) Tryz.checked.prog 3 Tryz.f3 Rows.limitsGlidesSpec Rows.limitsGlidesRow=true:=O6
def cf16:(λ(P:Program) (f:FuncId) (fn:Func) (s:ChangeSpec) (c:OpenClaim)=>(c.loops == (fn.params.toList ++ s.plain.varTypes P).any (P.loopsFrom ·))) Tryz.checked.prog 3 Tryz.f3 Rows.limitsGlidesSpec Rows.limitsGlidesRow=true:=O6
def cf17:(λ(P:Program) (f:FuncId) (fn:Func) (s:ChangeSpec) (c:OpenClaim)=>(c.wideKeys == (fn.params.toList ++ s.plain.varTypes P ++ fn.resultTypes.toList).any (P.wideKeysFrom ·))) Tryz.checked.prog 3 Tryz.f3 Rows.limitsGlidesSpec Rows.limitsGlidesRow=true:=O6
def cf18:(λ(P:Program) (f:FuncId) (fn:Func) (s:ChangeSpec) (c:OpenClaim)=>s.vars.all (P.varReadable ·)) Tryz.checked.prog 3 Tryz.f3 Rows.limitsGlidesSpec Rows.limitsGlidesRow=true:=O6
def cf19:(λ(P:Program) (f:FuncId) (fn:Func) (s:ChangeSpec) (c:OpenClaim)=>fn.resultTypes.all (λt=>P.readableRec t && decide (t<P.types.size))) Tryz.checked.prog 3 Tryz.f3 Rows.limitsGlidesSpec Rows.limitsGlidesRow=true:=O6
def cf20:(λ(P:Program) (f:FuncId) (fn:Func) (s:ChangeSpec) (c:OpenClaim)=>(c.ifacesOut == fn.resultTypes.toList.any (P.ifacesRec ·))) Tryz.checked.prog 3 Tryz.f3 Rows.limitsGlidesSpec Rows.limitsGlidesRow=true:=O6
def cf21:(λ(P:Program) (f:FuncId) (fn:Func) (s:ChangeSpec) (c:OpenClaim)=>(c.loopsOut == fn.resultTypes.toList.any (P.loopsFrom ·))) Tryz.checked.prog 3 Tryz.f3 Rows.limitsGlidesSpec Rows.limitsGlidesRow=true:=O6
def cf22:(λ(P:Program) (f:FuncId) (fn:Func) (s:ChangeSpec) (c:OpenClaim)=>c.plainKeys == P.plainKeys) Tryz.checked.prog 3 Tryz.f3 Rows.limitsGlidesSpec Rows.limitsGlidesRow=true:=O6
def cf23:(λ(P:Program) (f:FuncId) (fn:Func) (s:ChangeSpec) (c:OpenClaim)=>c.shortTexts.isNone) Tryz.checked.prog 3 Tryz.f3 Rows.limitsGlidesSpec Rows.limitsGlidesRow=true:=O6
def cf24:(λ(P:Program) (f:FuncId) (fn:Func) (s:ChangeSpec) (c:OpenClaim)=>P.stopsHeard) Tryz.checked.prog 3 Tryz.f3 Rows.limitsGlidesSpec Rows.limitsGlidesRow=true:=O6
def cf25:(λ(P:Program) (f:FuncId) (fn:Func) (s:ChangeSpec) (c:OpenClaim)=>P.mayEnter) Tryz.checked.prog 3 Tryz.f3 Rows.limitsGlidesSpec Rows.limitsGlidesRow=true:=O6
def cf26:(λ(P:Program) (f:FuncId) (fn:Func) (s:ChangeSpec) (c:OpenClaim)=>c.lifted == P.liftsFinal) Tryz.checked.prog 3 Tryz.f3 Rows.limitsGlidesSpec Rows.limitsGlidesRow=true:=O6
def cf27:(λ(P:Program) (f:FuncId) (fn:Func) (s:ChangeSpec) (c:OpenClaim)=>P.make == some c.make) Tryz.checked.prog 3 Tryz.f3 Rows.limitsGlidesSpec Rows.limitsGlidesRow=true:=O6
def cf28:(λ(P:Program) (f:FuncId) (fn:Func) (s:ChangeSpec) (c:OpenClaim)=>c.kinds == (if c.domain.isEmpty then []else fn.params.toList.map λt=>match P.underlying t with|some (.int k)=>some k|_=>none)) Tryz.checked.prog 3 Tryz.f3 Rows.limitsGlidesSpec Rows.limitsGlidesRow=true:=O6
def cf29:(λ(P:Program) (f:FuncId) (fn:Func) (s:ChangeSpec) (c:OpenClaim)=>c.pinned == c.pinnedBy) Tryz.checked.prog 3 Tryz.f3 Rows.limitsGlidesSpec Rows.limitsGlidesRow=true:=O6
def cf30:(λ(P:Program) (f:FuncId) (fn:Func) (s:ChangeSpec) (c:OpenClaim)=>(c.veiled == (fn.params.toList ++ s.plain.varTypes P ++ fn.resultTypes.toList).any (P.veiledRec ·))) Tryz.checked.prog 3 Tryz.f3 Rows.limitsGlidesSpec Rows.limitsGlidesRow=true:=O6
def cf31:(λ(P:Program) (f:FuncId) (fn:Func) (s:ChangeSpec) (c:OpenClaim)=>c.veiledFits P fn.params.toList (fn.params.toList ++ s.plain.varTypes P ++ fn.resultTypes.toList)) Tryz.checked.prog 3 Tryz.f3 Rows.limitsGlidesSpec Rows.limitsGlidesRow=true:=O6
set_option maxRecDepth 100000 in
def closed:joinedFacts Tryz.checked.prog 3 Tryz.f3 Rows.limitsGlidesSpec Rows.limitsGlidesRow=true:=(Nd (Nd (Nd (Nd (Nd (Nd (Nd (Nd (Nd (Nd (Nd (Nd (Nd (Nd (Nd (Nd (Nd (Nd (Nd (Nd (Nd (Nd (Nd (Nd (Nd (Nd (Nd (Nd (Nd (Nd (Nd cf0 cf1) cf2) cf3) cf4) cf5) cf6) cf7) cf8) cf9) cf10) cf11) cf12) cf13) cf14) cf15) cf16) cf17) cf18) cf19) cf20) cf21) cf22) cf23) cf24) cf25) cf26) cf27) cf28) cf29) cf30) cf31)
end Go.Proofs.YtpmihempjefadaaGreat
namespace Go.Sky
variable {P:Program} {N:Nat} {sc:Nat->Prop} {env env':Xu} {H H':Hp} {Q Q':Exit->Act->World->Prop} {M:Nat->Prop}
@[reducible] def lk2 {α:Type} : List (Nat×α)->Nat->Option α
 | [],_=>none
 | (k,v)::r,n=>match Nat.beq k n with
  | true=>some v
  | false=>lk2 r n
theorem Zqe{α:Type} : ∀(e:List (Nat×α)) (n:Nat),lk2 e n=lk e n
 | [],_=>rfl
 | (k,v)::r,n=>by unfold lk2 lk;cases Nat.beq k n<;>simp [Zqe r n]
@[reducible] def ev2 (e:Xu):Operand->Option Value
 | .tmp t=>lk2 e t
 | .const v=>some v
 | .global g=>some (.pointer (some ⟨g,0,none⟩))
 | .func f=>some (.func (.func f) #[] #[])
theorem ev2_eq(e:Xu)(x:Operand):ev2 e x=ev e x:=by cases x<;>simp [ev2,ev,Zqe]
@[reducible] def nth {α:Type} : List α->Nat->Option α
 | [],_=>none
 | x::r,n=>match n with
  | 0=>some x
  | n+1=>nth r n
theorem Zp6{α:Type} : ∀(l:List α) (n:Nat),nth l n=l[n]?
 | [],n=>by simp [nth]
 | x::r,0=>by simp [nth]
 | x::r,n+1=>by simp [nth,Zp6 r n]
@[reducible] def ltb (a b:Nat):Bool:=match Nat.ble b a with
 | true=>false
 | false=>true
theorem Pl{a b:Nat}(h:ltb a b=true):Nat.blt a b=true:=by
 unfold ltb at h;cases hb:Nat.ble b a with
 | true=>rw [hb]at h;cases h
 | false=>
  have d:¬b<=a:=λc=>by rw [lN c]at hb;cases hb
  show Nat.ble (a+1) b=true;exact lN O
@[reducible] def neb (a b:Nat):Bool:=match Nat.beq a b with
 | true=>false
 | false=>true
theorem Cr{a b:Nat}(h:neb a b=true):a≠b:=λe=>by subst e;unfold neb at h;rw [Nat.beq_refl]at h;cases h
class Som {α:Type} (a:Option α) (b:outParam α):Prop where h:a=some b
instance {α:Type} {b:α} : Som (some b) b:=⟨rfl⟩
class TB (a:Bool):Prop where h:a=true
instance:TB true:=⟨rfl⟩
def Som.e{x:Operand}{v:Value}(h:Som (ev2 env x) v):ev env x=some v:=(ev2_eq env x).symm.trans h.h
def Som.l{α:Type}{e:List (Nat×α)}{n:Nat}{v:α}(h:Som (lk2 e n) v):lk e n=some v:=(Zqe e n).symm.trans h.h
theorem Som.n{α:Type}{l:List α}{n:Nat}{v:α}(h:Som (nth l n) v):l.toArray[n]? = some v:=by have:=(Zp6 l n).symm.trans h.h;simpa using this
class AndO (s q:Prop) (r:outParam Prop):Prop where h:r->s/\q
instance (priority:=low) {s q:Prop} : AndO s q (s/\q):=⟨id⟩
instance {q:Prop} : AndO True q q:=⟨λh=>⟨aA,h⟩⟩
class Und (P:Program) (t:TypeId) (d:outParam TypeDesc):Prop where h:P.underlying t=some d
class Siz (P:Program) (t:TypeId) (k:outParam Nat):Prop where h:∀w,(sizeOf t).run P w= .ok k w
class Agg (P:Program) (t:TypeId) (b:outParam Bool):Prop where h:∀w,(isAgg t).run P w= .ok b w
class EncT {α:Type} (P:Program) (t:TypeId) (k:Nat) (enc:α->Value):Prop where h:Enc P t k enc
class RdI (P:Program) (H:Hp) (v:Value) (i:outParam Nat) {α:outParam Type} (k:outParam Nat) (enc:outParam (α->Value)) (xs:outParam (List α)):Prop where
 h:∃p,lk H i=some p/\Rd p k enc v xs
instance {α:Type} {v:Value} {i k:Nat} {enc:α->Value} {xs:List α} : RdI P ((i,Ym k enc v xs)::H) v i k enc xs:=⟨_,Zz _ _ _,Zh⟩
instance {α:Type} {v:Value} {i k:Nat} {enc:α->Value} {xs:List α} {e:TypeId} [h:EncT P e k enc]:RdI P ((i,Nl k e enc v xs)::H) v i k enc xs:=⟨_,Zz _ _ _,Xc h.h⟩
instance {β:Type} {v:Value} {i k:Nat} {enc:β->Value} {q:β->Pc} {zs:List β} : RdI P ((i,Nv k enc q v zs)::H) v i k enc zs:=⟨_,Zz _ _ _,Yz⟩
instance (priority:=low) {α:Type} {v:Value} {i j k:Nat} {p:Pc} {enc:α->Value} {xs:List α} [h:RdI P H v i k enc xs] [hn:TB (neb j i)]:RdI P ((j,p)::H) v i k enc xs:=
 ⟨by obtain⟨q,h1,h2⟩:=h.h;exact⟨q,by rw [Zj (Cr hn.h)];exact h1,h2⟩⟩
class BxI (H:Hp) (b:Nat) (i:outParam Nat) (t:outParam TypeId) (l:outParam (List Value)):Prop where h:lk H i=some (box b t l.toArray)
instance {b i:Nat} {t:TypeId} {l:List Value} : BxI ((i,box b t l.toArray)::H) b i t l:=⟨Zz _ _ _⟩
instance (priority:=low) {b i j:Nat} {t:TypeId} {p:Pc} {l:List Value} [h:BxI H b i t l] [hn:TB (neb j i)]:BxI ((j,p)::H) b i t l:=⟨by rw [Zj (Cr hn.h)];exact h.h⟩
class RxI (H:Hp) (b:Nat) (i:outParam Nat) (t:outParam TypeId) (l:outParam (List Value)):Prop where h:lk H i=some (Ka b t l.toArray)
instance {b i:Nat} {t:TypeId} {l:List Value} : RxI ((i,Ka b t l.toArray)::H) b i t l:=⟨Zz _ _ _⟩
instance (priority:=low) {b i j:Nat} {t:TypeId} {p:Pc} {l:List Value} [h:RxI H b i t l] [hn:TB (neb j i)]:RxI ((j,p)::H) b i t l:=⟨by rw [Zj (Cr hn.h)];exact h.h⟩
class DI (P:Program) (N:Nat) (sc:Nat->Prop) (op:Go.Op) (env:Xu) (H:Hp) (v:outParam Value) (s:outParam Prop):Prop where
 h:s->∀{d:Option Tmp} {ty:TypeId} {pos:String} {af:Array Edge} {g:Option (Nat×Bool)},Ni P N sc ⟨d,op,ty,pos,af,g⟩ env H v
section
variable {x y c:Operand} {v u:Value} {t t':TypeId} {k:IntKind} {m n:Int}
instance [h:Som (ev2 env x) v]:DI P N sc (.move x) env H v True:=⟨λ_=>Zou rfl h.e⟩
instance [h:Som (ev2 env x) v]:DI P N sc (.assign x) env H v True:=⟨λ_=>d_as rfl h.e⟩
instance {i:Nat} {vs:List Value} [h:Som (ev2 env x) (.tuple vs.toArray)] [h2:Som (nth vs i) v]:DI P N sc (.extract x i) env H v True:=⟨λ_=>Zlk rfl h.e h2.n⟩
instance {ad:Addr} [h:Som (ev2 env x) (.pointer (some ad))]:DI P N sc (.nilCheck x) env H (.pointer (some ad)) True:=⟨λ_=>d_nc rfl h.e⟩
instance {p:Prop} [Decidable p] [h:Som (ev2 env x) (.bool (decide p))]:DI P N sc (.unOp .not t x) env H (.bool (decide (¬p))) True:=⟨λ_=>d_not rfl h.e⟩
instance (priority:=low) {b:Bool} [h:Som (ev2 env x) (.bool b)]:DI P N sc (.unOp .not t x) env H (.bool (!b)) True:=⟨λ_=>Xn rfl h.e⟩
instance (priority:=high) [h:Som (ev2 env x) (.bool true)]:DI P N sc (.unOp .not t x) env H (.bool false) True:=⟨λ_=>Xn rfl h.e⟩
instance (priority:=high) [h:Som (ev2 env x) (.bool false)]:DI P N sc (.unOp .not t x) env H (.bool true) True:=⟨λ_=>Xn rfl h.e⟩
instance [h:Som (ev2 env c) (.bool true)] [h1:Som (ev2 env x) v]:DI P N sc (.pick c x y) env H v True:=⟨λ_=>Yew rfl h.e h1.e⟩
instance [h:Som (ev2 env c) (.bool false)] [h1:Som (ev2 env y) v]:DI P N sc (.pick c x y) env H v True:=⟨λ_=>Yex rfl h.e h1.e⟩
instance [h:Som (ev2 env x) (.int k m)] [h1:Som (ev2 env y) (.int k n)]:DI P N sc (.binOp .lss t x y t') env H (.bool (decide (m<n))) True:=⟨λ_=>d_lss rfl h.e h1.e⟩
instance [h:Som (ev2 env x) (.int k m)] [h1:Som (ev2 env y) (.int k n)]:DI P N sc (.binOp .leq t x y t') env H (.bool (decide (m<=n))) True:=⟨λ_=>d_leq rfl h.e h1.e⟩
instance [h:Som (ev2 env x) (.int k m)] [h1:Som (ev2 env y) (.int k n)]:DI P N sc (.binOp .gtr t x y t') env H (.bool (decide (n<m))) True:=⟨λ_=>Ya8 rfl h.e h1.e⟩
instance [h:Som (ev2 env x) (.int k m)] [h1:Som (ev2 env y) (.int k n)]:DI P N sc (.binOp .geq t x y t') env H (.bool (decide (n<=m))) True:=⟨λ_=>d_geq rfl h.e h1.e⟩
instance [h:Som (ev2 env x) (.int k m)] [h1:Som (ev2 env y) (.int k n)]:DI P N sc (.binOp .eql t x y t') env H (.bool (decide (m=n))) True:=⟨λ_=>Ya9 rfl h.e h1.e⟩
instance [h:Som (ev2 env x) (.int k m)] [h1:Som (ev2 env y) (.int k n)]:DI P N sc (.binOp .neq t x y t') env H (.bool (decide (m≠n))) True:=⟨λ_=>d_neq rfl h.e h1.e⟩
instance {a b:Bool} [h:Som (ev2 env x) (.bool a)] [h1:Som (ev2 env y) (.bool b)] [h2:Und P t .bool]:DI P N sc (.binOp .eql t x y t') env H (.bool (a == b)) True:=⟨λ_=>d_eqb rfl h.e h1.e h2.h⟩
instance {a b:Bool} [h:Som (ev2 env x) (.bool a)] [h1:Som (ev2 env y) (.bool b)] [h2:Und P t .bool]:DI P N sc (.binOp .neq t x y t') env H (.bool (a != b)) True:=⟨λ_=>d_neb rfl h.e h1.e h2.h⟩
instance [h:Som (ev2 env x) (.int .i64 m)] [h1:Som (ev2 env y) (.int .i64 n)]:DI P N sc (.binOp .add t x y t') env H (.int .i64 (m+n)) (-9223372036854775808<=m+n/\m+n<=9223372036854775807):=⟨λs=>Zt2 rfl h.e h1.e s⟩
instance [h:Som (ev2 env x) (.int .i64 m)] [h1:Som (ev2 env y) (.int .i64 n)]:DI P N sc (.binOp .sub t x y t') env H (.int .i64 (m-n)) (-9223372036854775808<=m-n/\m-n<=9223372036854775807):=⟨λs=>d_sub rfl h.e h1.e s⟩
instance [h:Som (ev2 env x) (.int .i64 m)] [h1:Som (ev2 env y) (.int .i64 n)]:DI P N sc (.binOp .mul t x y t') env H (.int .i64 (m*n)) (-9223372036854775808<=m*n/\m*n<=9223372036854775807):=⟨λs=>d_mul rfl h.e h1.e s⟩
instance {i kk:Nat} {α:Type} {enc:α->Value} {xs:List α} {e:TypeId} [h:Som (ev2 env x) v] [h1:RdI P H v i kk enc xs] [h2:Und P t (.slice e)]:DI P N sc (.call { callee:= .builtin .len,args:=#[x],argTypes:=#[t] }) env H (.int .i64 xs.length) True:=
 ⟨λ_=>by obtain⟨p,h3,h4⟩:=h1.h;exact d_len rfl h.e h3 h4 h2.h⟩
instance {s:ByteArray} [h:Som (ev2 env x) (.string s)] [h2:Und P t .string]:DI P N sc (.call { callee:= .builtin .len,args:=#[x],argTypes:=#[t] }) env H (.int .i64 s.size) True:=⟨λ_=>d_lens rfl h.e h2.h⟩
end
@[reducible] def eqb (a b:Nat):Bool:=match Nat.beq a b with
 | true=>true
 | false=>false
theorem eqb_eq{a b:Nat}(h:eqb a b=true):a=b:=by
 unfold eqb at h;cases hb:Nat.beq a b with
 | true=>exact cQ hb
 | false=>rw [hb]at h;cases h
@[reducible] def lenq {α:Type} : List α->Nat->Bool
 | [],n=>match n with
  | 0=>true
  | _+1=>false
 | _::r,n=>match n with
  | 0=>false
  | n+1=>lenq r n
theorem Zc4{α:Type} : ∀{l:List α} {n:Nat},lenq l n=true->l.length=n
 | [],0,_=>rfl
 | [],n+1,h=>by simp [lenq]at h
 | _::r,0,h=>by simp [lenq]at h
 | _::r,n+1,h=>by have:=Zc4 (l:=r) (n:=n) (by simpa [lenq]using h);simp [this]
@[reducible] def fit0 {α β:Type} : List α->List β->Bool
 | _,[]=>true
 | l,_::vs=>match l with
  | []=>false
  | _::r=>fit0 r vs
@[reducible] def fits {α β:Type} : List α->Nat->List β->Bool
 | [],j,a=>match j with
  | 0=>fit0 ([]:List α) a
  | _+1=>false
 | x::r,j,a=>match j with
  | 0=>fit0 (x::r) a
  | j+1=>fits r j a
theorem Zk5{α β:Type} : ∀{vs:List β} {l:List α},fit0 l vs=true->vs.length<=l.length
 | [],_,_=>O7
 | _::vs,[],h=>by simp [fit0]at h
 | _::vs,_::r,h=>by have:=Zk5 (vs:=vs) (l:=r) (by simpa [fit0]using h);simp;omega
theorem Ztg{α β:Type} : ∀{l:List α} {j:Nat} {vs:List β},fits l j vs=true->j+vs.length<=l.length
 | [],0,vs,h=>by have:=Zk5 (by simpa [fits]using h);simpa using this
 | [],j+1,vs,h=>by simp [fits]at h
 | x::r,0,vs,h=>by have:=Zk5 (l:=x::r) (by simpa [fits]using h);simpa using this
 | x::r,j+1,vs,h=>by have:=Ztg (l:=r) (j:=j) (by simpa [fits]using h);simp;omega
@[reducible] def seg {α:Type} : List α->Nat->Nat->List α
 | [],_,_=>[]
 | x::r,j,k=>match j with
  | j+1=>seg r j k
  | 0=>match k with
   | 0=>[]
   | k+1=>x::seg r 0 k
theorem Zfi{α:Type} : ∀(l:List α) (j k n:Nat) (u:α),(seg l j k)[n]? = some u->l[j+n]? = some u
 | [],_,_,_,_,h=>by simp [seg]at h
 | x::r,j+1,k,n,u,h=>by have:=Zfi r j k n u (by simpa [seg]using h);rw [show j+1+n=(j+n)+1 by omega];simpa using this
 | x::r,0,0,n,u,h=>by simp [seg]at h
 | x::r,0,k+1,0,u,h=>by simpa [seg]using h
 | x::r,0,k+1,n+1,u,h=>by have:=Zfi r 0 k n u (by simpa [seg]using h);rw [cP]at this ⊢;simpa using this
class LEv {α:Type} (l:List α) (r:outParam (List α)):Prop where h:l=r
instance {α:Type} : LEv ([]:List α) []:=⟨rfl⟩
instance {α:Type} {a:α} {l r:List α} [h:LEv l r]:LEv (a::l) (a::r):=⟨by rw [h.h]⟩
class AddN (a b:Nat) (c:outParam Nat):Prop where h:a+b=c
instance (priority:=low) {a b:Nat} : AddN a b (a+b):=⟨rfl⟩
instance {b:Nat} : AddN 0 b b:=⟨cP b⟩
instance {a:Nat} : AddN a 0 a:=⟨rfl⟩
class Df (α:Type) (d:outParam α):Prop where t:True
instance:Df Int 0:=⟨aA⟩
instance:Df Nat 0:=⟨aA⟩
section
variable {x y:Operand} {v u:Value} {t tb:TypeId} {b j i k f:Nat} {l vs ws:List Value}
instance [h:Som (ev2 env x) (.pointer (some ⟨b,j,none⟩))] [h1:Agg P t false] [h2:BxI H b i tb l] [h3:Som (nth l j) v]:DI P N sc (.load t x) env H v True:=⟨λ_=>d_lb rfl h.e h2.h h1.h h3.n⟩
instance [h:Som (ev2 env x) (.pointer (some ⟨b,j,none⟩))] [h1:Agg P t true] [h2:BxI H b i tb l] [h4:Siz P t k] [h3:LEv (seg l j k) vs] [h5:TB (lenq vs k)]:DI P N sc (.load t x) env H (.agg vs.toArray) True:=
 ⟨λ_=>Ztz rfl h.e h2.h h1.h h4.h (Zc4 h5.h) (λn u hu=>by rw [<-h3.h]at hu;simpa using Zfi l j k n u hu)⟩
instance [h:Som (ev2 env x) (.pointer (some ⟨b,j,none⟩))] [h1:Agg P t false] [h2:RxI H b i tb l] [h3:Som (nth l j) v]:DI P N sc (.load t x) env H v True:=⟨λ_=>d_lr rfl h.e h2.h h1.h h3.n⟩
instance [h:Som (ev2 env x) (.pointer (some ⟨b,j,none⟩))] [h1:Agg P t true] [h2:RxI H b i tb l] [h4:Siz P t k] [h3:LEv (seg l j k) vs] [h5:TB (lenq vs k)]:DI P N sc (.load t x) env H (.agg vs.toArray) True:=
 ⟨λ_=>d_lra rfl h.e h2.h h1.h h4.h (Zc4 h5.h) (λn u hu=>by rw [<-h3.h]at hu;simpa using Zfi l j k n u hu)⟩
instance {fs:List Field} {c q bo:Nat} {nm tag pk:String} {ft:TypeId} {em:Bool} [h:Som (ev2 env x) (.pointer (some ⟨b,j,none⟩))] [h1:Und P t (.struct fs.toArray)] [h2:Som (nth fs f) ⟨nm,ft,q,em,tag,pk,bo⟩] [h3:Siz P ft k] [h5:TB (neb k 0)] [h4:AddN j q c] :
  DI P N sc (.fieldAddr t x f) env H (.pointer (some ⟨b,c,none⟩)) True:=⟨λ_=>by
 obtain⟨k,rfl⟩:=Nat.exists_eq_succ_of_ne_zero (Cr h5.h);exact d_fa rfl h.e h1.h h2.n h3.h rfl h4.h⟩
instance {α:Type} {enc:α->Value} {xs:List α} {e:TypeId} {kd:IntKind} {n:Nat} [h:Som (ev2 env x) v] [h1:Som (ev2 env y) (.int kd (n:Int))] [h2:RdI P H v i k enc xs] [h3:Und P t (.slice e)] [h4:Siz P e k] :
  DI P N sc (.indexAddr t x y) env H (.pointer (some (ead v n k))) (n<xs.length):=⟨λs=>by obtain⟨p,h5,h6⟩:=h2.h;exact Yu _ _ rfl h.e h1.e h5 h6 h3.h h4.h rfl s⟩
instance {α:Type} {enc:α->Value} {xs:List α} {e:TypeId} {kd:IntKind} {n:Nat} [h:Som (ev2 env x) v] [h1:Som (ev2 env y) (.int kd (@OfNat.ofNat Int n (@instOfNat n)))] [hl:TB (eqb n n)] [h2:RdI P H v i k enc xs] [h3:Und P t (.slice e)] [h4:Siz P e k] :
  DI P N sc (.indexAddr t x y) env H (.pointer (some (ead v (@OfNat.ofNat Nat n (instOfNatNat n)) k))) (@OfNat.ofNat Nat n (instOfNatNat n)<xs.length):=⟨λs=>by obtain⟨p,h5,h6⟩:=h2.h;exact Yu _ _ rfl h.e h1.e h5 h6 h3.h h4.h rfl s⟩
instance {α:Type} {enc:α->Value} {xs:List α} {n:Nat} {d0:α} [h:Som (ev2 env x) (.pointer (some (ead v n k)))] [h2:RdI P H v i k enc xs] [h3:EncT P t k enc] [h4:Df α d0] :
  DI P N sc (.load t x) env H (enc (xs.getD n d0)) (n<xs.length):=⟨λs=>by obtain⟨p,h5,h6⟩:=h2.h;exact Mh _ d0 rfl h.e h5 h6 h3.h s⟩
instance {fs:List Field} {q bo:Nat} {nm tag pk:String} {ft:TypeId} {em:Bool} [h:Som (ev2 env x) (.agg l.toArray)] [h1:Und P t (.struct fs.toArray)] [h2:Som (nth fs f) ⟨nm,ft,q,em,tag,pk,bo⟩] [h3:Agg P ft false] [h4:Som (nth l q) v] :
  DI P N sc (.field t x f) env H v True:=⟨λ_=>d_fld rfl h.e h1.h h2.n h3.h h4.n⟩
end
class Adv (n:Nat) (p:Prop) (q:outParam Prop):Prop where h:q->p
def go(n:Nat){p q:Prop}[h:Adv n p q](k:q):p:=h.h k
@[reducible] def dsto (l:List Oper) (j:Nat):Option Nat:=match nth l j with
 | some o=>o.dst
 | none=>none
theorem Hu{l:List Oper}{j e:Nat}(h:Som (dsto l j) e):(l.toArray[j]?).bind (·.dst)=some e:=by
 have h:=h.h;unfold dsto at h;rw [Zp6]at h;simp only [List.getElem?_toArray];cases hb:l[j]? with
 | none=>rw [hb]at h;cases h
 | some o=>rw [hb]at h;exact h
section
variable {n:Nat} {q r s:Prop} {c x y:Code} {id:Nat} {l:List Oper} {ops:Array Oper} {rest:List Oper} {d j t:Nat} {op:Go.Op} {ty:TypeId} {pos:String} {af:Array Edge} {v:Value} {e:Exit} {b:Bool}
instance {p:Prop} : Adv 0 p p:=⟨λk=>k⟩
instance [h:Adv n (E P N sc x (Exit.then (y.wp P Q) Q) env H) q]:Adv (n+1) (E P N sc (.seq x y) Q env H) q:=⟨λk=>e_seq (h.h k)⟩
instance [h:Adv n (L P N sc l.toArray l Q env H) q]:Adv (n+1) (E P N sc (.region id l.toArray false) Q env H) q:=⟨λk=>e_reg (h.h k)⟩
instance [h:Adv n (X N sc .normal Q env H) q]:Adv (n+1) (E P N sc .skip Q env H) q:=⟨λk=>e_skip (h.h k)⟩
instance [h:Adv n (E P N sc c (Exit.inBlock id Q) env H) q]:Adv (n+1) (E P N sc (.block id c) Q env H) q:=⟨λk=>Yer (h.h k)⟩
instance [h:Adv n (X N sc (.exit id) Q env H) q]:Adv (n+1) (E P N sc (.exit id) Q env H) q:=⟨λk=>e_exit (h.h k)⟩
instance [h:Adv n (X N sc .ret Q env H) q]:Adv (n+1) (E P N sc .ret Q env H) q:=⟨λk=>e_ret (h.h k)⟩
instance {o:Operand} [h1:Som (ev2 env o) (.bool true)] [h:Adv n (E P N sc x Q env H) q]:Adv (n+1) (E P N sc (.cond o x y) Q env H) q:=⟨λk=>Yep h1.e (h.h k)⟩
instance {o:Operand} [h1:Som (ev2 env o) (.bool false)] [h:Adv n (E P N sc y Q env H) q]:Adv (n+1) (E P N sc (.cond o x y) Q env H) q:=⟨λk=>Yeq h1.e (h.h k)⟩
instance [h:Adv n (E P N sc y Q env H) q]:Adv (n+1) (X N sc .normal (Exit.then (y.wp P Q) Q) env H) q:=⟨λk=>x_then (h.h k)⟩
instance {K:Act->World->Prop} [h:Adv n (X N sc .ret Q env H) q]:Adv (n+1) (X N sc .ret (Exit.then K Q) env H) q:=⟨λk=>x_ret (h.h k)⟩
instance {K:Act->World->Prop} [h:Adv n (X N sc (.exit id) Q env H) q]:Adv (n+1) (X N sc (.exit id) (Exit.then K Q) env H) q:=⟨λk=>x_exit (h.h k)⟩
instance [h:Adv n (X N sc .normal Q env H) q]:Adv (n+1) (X N sc .normal (Exit.inBlock id Q) env H) q:=⟨λk=>x_bn (h.h k)⟩
instance [h:Adv n (X N sc .ret Q env H) q]:Adv (n+1) (X N sc .ret (Exit.inBlock id Q) env H) q:=⟨λk=>x_br (h.h k)⟩
instance [h:Adv n (X N sc .normal Q env H) q]:Adv (n+1) (X N sc (.exit id) (Exit.inBlock id Q) env H) q:=⟨λk=>x_be (h.h k)⟩
instance (priority:=low) {id':Nat} [hn:TB (neb id' id)] [h:Adv n (X N sc (.exit id') Q env H) q]:Adv (n+1) (X N sc (.exit id') (Exit.inBlock id Q) env H) q:=⟨λk=>x_bo (Cr hn.h) (h.h k)⟩
instance [h:Adv n (X N sc .normal Q env H) q]:Adv (n+1) (L P N sc ops [] Q env H) q:=⟨λk=>l_nil (h.h k)⟩
instance [h1:DI P N sc op env H v s] [h2:TB (ltb d N)] [h:Adv n (L P N sc ops rest Q ((d,v)::env) H) q] [h3:AndO s q r]:Adv (n+1) (L P N sc ops (⟨some d,op,ty,pos,af,none⟩::rest) Q env H) r:=
 ⟨λk=>dt (h1.h (h3.h k).1) (h.h (h3.h k).2) (Pl h2.h)⟩
instance [hj:Som (dsto l j) t] [hg:Som (lk2 env t) (.bool b)] [h4:TB (ltb t N)] [h1:DI P N sc op env H v s] [h2:TB (ltb d N)] [h:Adv n (L P N sc l.toArray rest Q ((d,v)::env) H) q] [h3:AndO s q r]:Adv (n+1) (L P N sc l.toArray (⟨some d,op,ty,pos,af,some (j,b)⟩::rest) Q env H) r:=
 ⟨λk=>Et (h1.h (h3.h k).1) (Hu hj) hg.l (h.h (h3.h k).2) (Pl h4.h) (Pl h2.h)⟩
instance [hj:Som (dsto l j) t] [hg:Som (lk2 env t) (.bool false)] [h4:TB (ltb t N)] [h2:TB (ltb d N)] [h:Adv n (L P N sc l.toArray rest Q ((d,undef)::env) H) q]:Adv (n+1) (L P N sc l.toArray (⟨some d,op,ty,pos,af,some (j,true)⟩::rest) Q env H) q:=
 ⟨λk=>gsk (Hu hj) hg.l rfl (Pl h4.h) (Pl h2.h) (h.h k)⟩
instance [hj:Som (dsto l j) t] [hg:Som (lk2 env t) (.bool true)] [h4:TB (ltb t N)] [h2:TB (ltb d N)] [h:Adv n (L P N sc l.toArray rest Q ((d,undef)::env) H) q]:Adv (n+1) (L P N sc l.toArray (⟨some d,op,ty,pos,af,some (j,false)⟩::rest) Q env H) q:=
 ⟨λk=>gsk (Hu hj) hg.l rfl (Pl h4.h) (Pl h2.h) (h.h k)⟩
instance [hj:Som (dsto l j) t] [hg:Som (lk2 env t) undef] [h2:TB (ltb d N)] [h:Adv n (L P N sc l.toArray rest Q ((d,undef)::env) H) q]:Adv (n+1) (L P N sc l.toArray (⟨some d,op,ty,pos,af,some (j,b)⟩::rest) Q env H) q:=
 ⟨λk=>gsku (Hu hj) hg.l (Pl h2.h) (h.h k)⟩
end
end Go.Sky
namespace Go.Sky
variable {P:Program} {N:Nat} {sc:Nat->Prop} {env env':Xu} {H H':Hp} {Q Q':Exit->Act->World->Prop} {M:Nat->Prop}
class Hw (w0:World) (sc:Nat->Prop):Prop where h:∀b,w0.heap.size<=b->sc b
class EvI (env:Xu) (xs:List Operand) (vs:outParam (List Value)):Prop where h:EvL env xs vs
instance:EvI env [] []:=⟨aA⟩
instance {x:Operand} {r:List Operand} {v:Value} {vs:List Value} [h:Som (ev2 env x) v] [h2:EvI env r vs]:EvI env (x::r) (v::vs):=⟨⟨h.e,h2.h⟩⟩
class CalF (P:Program) (f:FuncId):Prop where h:∀args w,(callFunc f args).run P w= .ok (.enter f args) w
class AddI (n:Nat) (l:List Pc) (H:Hp) (H':outParam Hp):Prop where h:adds n l H=H'
instance {n:Nat} : AddI n [] H H:=⟨rfl⟩
instance {n:Nat} {p:Pc} {r:List Pc} [h:AddI (n+1) r H H']:AddI n (p::r) H ((n,p)::H'):=⟨by rw [<-h.h]⟩
class PreL (P:Program) (H:Hp) (al:Bool) (ids:List Nat) (pre:outParam (List Pc)):Prop where h:PreOk H al pre
class RoI (p:Pc):Prop where h:p.own=false
instance {α:Type} {k:Nat} {enc:α->Value} {v:Value} {xs:List α} : RoI (Ym k enc v xs):=⟨rfl⟩
instance {β:Type} {k:Nat} {enc:β->Value} {q:β->Pc} {v:Value} {zs:List β} : RoI (Nv k enc q v zs):=⟨rfl⟩
instance {b:Nat} {t:TypeId} {cs:Array Value} : RoI (Ka b t cs):=⟨rfl⟩
class LnI (P:Program) (al:Bool) (i:Nat) (p:Pc) (q:outParam Pc):Prop where
 h:i≠0->∀{H r},lk H i=some p->PreOk H al r->PreOk H al (q::r)
theorem Zo8{i:Nat}(h:i≠0):Nat.beq i 0=false:=by
 cases hb:Nat.beq i 0 with
 | true=>exact absurd (cQ hb) h
 | false=>rfl
instance {al:Bool} {i:Nat} {p:Pc} [h:RoI p]:LnI P al i p p:=⟨λh0 _ _ hi hr=>Zn i hi (Zo8 h0) h.h hr⟩
instance {α:Type} {i k:Nat} {e:TypeId} {enc:α->Value} {v:Value} {xs:List α} [h:EncT P e k enc]:LnI P false i (Nl k e enc v xs) (Ym k enc v xs):=⟨λh0 _ _ hi hr=>Znb i hi (Zo8 h0) h.h hr⟩
instance {i b:Nat} {t:TypeId} {cs:Array Value} : LnI P false i (box b t cs) (Ka b t cs):=⟨λh0 _ _ hi hr=>Kc i hi (Zo8 h0) hr⟩
instance {al:Bool} : PreL P H al [] []:=⟨aA⟩
instance {al:Bool} {i:Nat} {ids:List Nat} {p q:Pc} {r:List Pc} [h:Som (lk2 H i) p] [h0:TB (neb i 0)] [h1:LnI P al i p q] [h2:PreL P H al ids r]:PreL P H al (i::ids) (q::r):=⟨h1.h (Cr h0.h) h.l h2.h⟩
theorem T.conv{o:Oper}{G:Type}{φ:G->Prop}{b:G->Xu}{H1 a:G->Hp}(h:T P N sc M o env H φ b H1)(c:∀g,H1 g=a g):T P N sc M o env H φ b a:=by rw [show a=H1 from(funext c).symm];exact h
section
variable {f:FuncId} {xs:List Operand} {ats:Array TypeId} {d:Nat} {vs fs us:List Value} {pre:List Pc} {al:Bool} {G:Type} {φ:G->Prop} {val:G->Value} {its:G->List Pc} {w0:World} {M0:Nat->Prop} {ty:TypeId} {pos:String} {af:Array Edge} {g:Option (Nat×Bool)}
def Zm(n:Nat)(a:List Nat)(c:Cal P f vs.toArray pre al φ val its){b:G->Hp}[hx:EvI env xs vs][hf:CalF P f][hp:PreL P H al a pre][h0:Som (lk2 H 0) (Xm w0 M0)][hN:TB (ltb d N)][hw:Hw w0 sc][ha:∀g,AddI n (its g) H (b g)] :
  T P N sc M ⟨some d,.call { callee:= .value (.func f),args:=xs.toArray,argTypes:=ats },ty,pos,af,g⟩ env H φ (λg=>(d,val g)::env) b:=
 (Lg n c rfl rfl (Pl hN.h) hx.h hf.h hp.h h0.l hw.h).conv λg=>(ha g).h
class On1 (P:Program) (N:Nat) (sc:Nat->Prop) (env:Xu) (H:Hp) (v:Value):Prop where h:One N sc env H v
instance {k:IntKind} {n:Int} : On1 P N sc env H (.int k n):=⟨Zf rfl⟩
instance {b:Bool} : On1 P N sc env H (.bool b):=⟨Zf rfl⟩
instance {s:ByteArray} : On1 P N sc env H (.string s):=⟨Zf rfl⟩
instance {a:Option Addr} : On1 P N sc env H (.pointer a):=⟨Zf rfl⟩
instance {a:Option Addr} {m n:Nat} : On1 P N sc env H (.slice a m n):=⟨Zf rfl⟩
instance (priority:=low) {α:Type} {i k:Nat} {v:Value} {enc:α->Value} {ys:List α} [h:RdI P H v i k enc ys]:On1 P N sc env H v:=⟨by obtain⟨p,h1,h2⟩:=h.h;exact Qm _ h1 h2⟩
class OnL (P:Program) (N:Nat) (sc:Nat->Prop) (env:Xu) (H:Hp) (l:List Value):Prop where h:∀u∈l,One N sc env H u
instance:OnL P N sc env H []:=⟨λ_ h=>nomatch h⟩
instance {v:Value} {l:List Value} [h:On1 P N sc env H v] [h2:OnL P N sc env H l]:OnL P N sc env H (v::l):=⟨λu hu=>by
 cases hu with
 | head=>exact h.h
 | tail _ hu=>exact h2.h u hu⟩
class CeI (P:Program) (N:Nat) (sc:Nat->Prop) (env:Xu) (H:Hp) (v:Value) (l:outParam (List Value)):Prop where
 h:∀a w,Sat N sc env H a w->v.cells=l.toArray
 o:∀u∈l,One N sc env H u
instance {l:List Value} [h:OnL P N sc env H l]:CeI P N sc env H (.agg l.toArray) l:=⟨λ_ _ _=>rfl,h.h⟩
instance (priority:=low) {v:Value} [h:On1 P N sc env H v]:CeI P N sc env H v [v]:=⟨λa w hs=>Zq (h.h a w hs),λu hu=>by rw [aK.1 hu];exact h.h⟩
class ClI (v:Value) (l:outParam (List Value)):Prop where h:v.cells=l.toArray
instance {l:List Value} : ClI (.agg l.toArray) l:=⟨rfl⟩
instance {k:IntKind} {n:Int} : ClI (.int k n) [.int k n]:=⟨rfl⟩
instance {b:Bool} : ClI (.bool b) [.bool b]:=⟨rfl⟩
instance {s:ByteArray} : ClI (.string s) [.string s]:=⟨rfl⟩
instance {a:Option Addr} : ClI (.pointer a) [.pointer a]:=⟨rfl⟩
instance {a:Option Addr} {m n:Nat} : ClI (.slice a m n) [.slice a m n]:=⟨rfl⟩
class Zer (P:Program) (t:TypeId) (z:outParam Value):Prop where h:∀w,(zeroValue t).run P w= .ok z w
variable {t tb:TypeId} {l l':List Value} {v z:Value} {x y:Operand} {i j k b:Nat}
def Zr(n:Nat)[hz:Zer P t z][hc:ClI z l][h0:Som (lk2 H 0) (Xm w0 M0)][hN:TB (ltb d N)][hw:Hw w0 sc] :
  T P N sc M ⟨some d,.alloc t,ty,pos,af,g⟩ env H (G:=Nat) (λ_=>True) (λb=>(d,.pointer (some ⟨b,0,none⟩))::env) (λb=>(n,box b t l.toArray)::H):=Hm _ rfl rfl hz.h hc.h h0.l hw.h (Pl hN.h)
def Zu(n:Nat)[hx:Som (ev2 env x) v][hc:ClI v l][h0:Som (lk2 H 0) (Xm w0 M0)][hN:TB (ltb d N)][hw:Hw w0 sc] :
  T P N sc M ⟨some d,.box t x,ty,pos,af,g⟩ env H (G:=Nat) (λ_=>True) (λb=>(d,.pointer (some ⟨b,0,none⟩))::env) (λb=>(n,box b t l.toArray)::H):=t_box rfl rfl (Pl hN.h) hx.e hc.h h0.l hw.h
@[reducible] def lay2 {α:Type} : List α->Nat->List α->List α
 | [],_,_=>[]
 | c::r,j,vs=>match j with
  | j+1=>c::lay2 r j vs
  | 0=>match vs with
   | []=>c::r
   | v::vs=>v::lay2 r 0 vs
theorem Zkw{α:Type} : ∀(l:List α) (j:Nat) (vs:List α),j+vs.length<=l.length->lay2 l j vs=l.take j ++ vs ++ l.drop (j+vs.length)
 | [],j,vs,h=>by have a:vs=[]:=aF (by simp only [jS]at h;omega);subst a;simp [lay2]
 | c::r,j+1,vs,h=>by rw [show j+1+vs.length=(j+vs.length)+1 by omega];simp only [lay2,mB,mH,iF];rw [Zkw r j vs (by simp at h;omega)]
 | c::r,0,[],h=>by simp [lay2]
 | c::r,0,v::vs,h=>by
  have e:0+vs.length<=r.length:=by simp only [dG]at h;omega
  have:=Zkw r 0 vs e;simp only [lay2,this,cP,fM,iP,dG,mH,iF]
theorem Zw3 [hx:Som (ev2 env x) (.pointer (some ⟨b,j,none⟩))] [hy:Som (ev2 env y) v] [hB:BxI H b i tb l] [hi:TB (neb i 0)] [hv:CeI P N sc env H v vs] [hk:Siz P t k] [hl:TB (lenq vs k)] [hf:TB (fits l j vs)] [hr:LEv (lay2 l j vs) l']
  [h0:Som (lk2 H 0) (Xm w0 M0)] [hw:Hw w0 sc] (e:M b):T P N sc M ⟨none,.store t x y,ty,pos,af,g⟩ env H (G:=Unit) (λ_=>True) (λ_=>env) (λ_=>(i,box b tb l'.toArray)::H):=λa w hs=>by
 have c:=Ztg hf.h;refine Zin _ rfl rfl hx.e hy.e hB.h (Cr hi.h) (hv.h a w hs) hk.h (Zc4 hl.h) (by simpa using c) hv.o ?_ h0.l hw.h e a w hs;unfold Gp;rw [<-hr.h,Zkw l j vs c]
variable {ops:Array Oper} {rest:List Oper} {op:Go.Op} {genv:G->Xu} {gH:G->Hp} {dd:Option Tmp}
def Zw(a:T P N sc (λ_=>True) ⟨dd,op,ty,pos,af,none⟩ env H φ genv gH)(h:∀g,φ g->L P N sc ops rest Q (genv g) (gH g)):L P N sc ops (⟨dd,op,ty,pos,af,none⟩::rest) Q env H:=tt a h
def gt' {c:List Oper} {e:Nat} {a:Bool} (m:T P N sc (λ_=>True) ⟨dd,op,ty,pos,af,some (j,a)⟩ env H φ genv gH) [hj:Som (dsto c j) e] [he:Som (lk2 env e) (.bool a)] [hN:TB (ltb e N)]
  (h:∀g,φ g->L P N sc c.toArray rest Q (genv g) (gH g)):L P N sc c.toArray (⟨dd,op,ty,pos,af,some (j,a)⟩::rest) Q env H:=gtt m rfl (Hu hj) he.l (Pl hN.h) h
instance {n:Nat} {q:Prop} [hx:Som (ev2 env x) (.pointer (some ⟨b,j,none⟩))] [hy:Som (ev2 env y) v] [hB:BxI H b i tb l] [hi:TB (neb i 0)] [hv:CeI P N sc env H v vs] [hk:Siz P t k] [hl:TB (lenq vs k)] [hf:TB (fits l j vs)] [hr:LEv (lay2 l j vs) l']
  [h0:Som (lk2 H 0) (Xm w0 M0)] [hw:Hw w0 sc] [h:Adv n (L P N sc ops rest Q env ((i,box b tb l'.toArray)::H)) q]:Adv (n+1) (L P N sc ops (⟨none,.store t x y,ty,pos,af,none⟩::rest) Q env H) q:=
 ⟨λq=>Zw (Zw3 aA) λ_ _=>h.h q⟩
end
end Go.Sky
namespace Go.Sky
variable {P:Program} {N:Nat} {sc:Nat->Prop} {env env':Xu} {H H' H0:Hp} {Q Q':Exit->Act->World->Prop} {M:Nat->Prop}
@[reducible] def drp2:Nat->Hp->Hp
 | _,[]=>[]
 | k,(i,p)::r=>match Nat.beq i k with
  | true=>drp2 k r
  | false=>(i,p)::drp2 k r
theorem Zto:∀(k:Nat) (H:Hp),drp2 k H=drp k H
 | _,[]=>rfl
 | k,(i,p)::r=>by unfold drp2 drp;cases Nat.beq i k<;>simp [Zto k r]
@[reducible] def anyb:List Nat->Nat->Bool
 | [],_=>false
 | k::r,i=>match Nat.beq i k with
  | true=>true
  | false=>anyb r i
theorem Zl6:∀(a:List Nat) (i:Nat),anyb a i=a.any (Nat.beq i)
 | [],_=>rfl
 | k::r,i=>by unfold anyb;rw [List.any_cons,<-Zl6 r i];cases Nat.beq i k<;>rfl
@[reducible] def rst2 (a:List Nat):Hp->Hp
 | []=>[]
 | (i,p)::r=>match anyb a i with
  | true=>(i,p)::rst2 a r
  | false=>rst2 a r
theorem Zr4(a:List Nat):∀H:Hp,rst2 a H=rst a H
 | []=>rfl
 | (i,p)::r=>by unfold rst2 rst;rw [<-Zl6];cases anyb a i<;>simp [Zr4 a r]
class AgI (H0 H:Hp) (ks:List Nat):Prop where h:Agr H0 H ks
instance:AgI H0 H []:=⟨aA⟩
instance {k:Nat} {ks:List Nat} {p:Pc} [h1:Som (lk2 H k) p] [h2:Som (lk2 H0 k) p] [h:AgI H0 H ks]:AgI H0 H (k::ks):=⟨⟨h1.l.trans h2.l.symm,h.h⟩⟩
class StI (P:Program) (N:Nat) (sc:Nat->Prop) (M:Nat->Prop) (op:Go.Op) (env:Xu) (H:Hp) (v:outParam Value) (s:outParam Prop):Prop where
 h:s->∀{d:Option Tmp} {ty:TypeId} {pos:String} {af:Array Edge} {g:Option (Nat×Bool)},Stb P N sc M ⟨d,op,ty,pos,af,g⟩ env H v
section
variable {op:Go.Op} {v:Value} {s:Prop} {k b:Nat} {t:TypeId} {l:List Value} {ks:List Nat}
instance [h:DI P N sc op env H v s]:StI P N sc (λ_=>False) op env H v s:=⟨λhs=>Pz (h.h hs)⟩
instance [hb:BxI H b k t l] [h:DI P N sc op env (drp2 k H) v s]:StI P N sc (λx=>x=b) op env H v s:=⟨λhs=>st1 k hb.h (by rw [<-Zto];exact h.h hs)⟩
instance [ha:AgI H0 H ks] [h:DI P N sc op env (rst2 ks H) v s]:StI P N sc (Off H0 ks) op env H v s:=⟨λhs=>stf (by rw [<-Zr4];exact h.h hs) ha.h⟩
end
class MI (M:Nat->Prop) (b:Nat):Prop where h:M b
class MS (N:Nat) (sc:Nat->Prop) (M:Nat->Prop) (env:Xu) (H:Hp) (b:Nat):Prop where h:∀a w,Sat N sc env H a w->M b
instance {b:Nat} : MS N sc (λ_=>True) env H b:=⟨λ_ _ _=>trivial⟩
instance {b:Nat} : MS N sc (λx=>x=b) env H b:=⟨λ_ _ _=>rfl⟩
instance {b:Nat} [h:MI M b]:MS N sc M env H b:=⟨λ_ _ _=>h.h⟩
@[reducible] def nin (ks:List Nat) (i:Nat):Bool:=match anyb ks i with
 | true=>false
 | false=>true
instance (priority:=low) {b i:Nat} {t:TypeId} {l:List Value} {ks:List Nat} [hb:BxI H b i t l] [hn:TB (nin ks i)] [ha:AgI H0 H ks]:MS N sc (Off H0 ks) env H b:=⟨λa w hs=>λk hk p hp hf=>by
 rw [<-ha.h.mem k hk]at hp;have hne:i≠k:=λe=>by
  subst e;have h1:=hn.h;unfold nin at h1;rw [Zl6]at h1;cases h2:ks.any (Nat.beq i)with
  | true=>rw [h2]at h1;cases h1
  | false=>
   have:=List.any_eq_false.1 h2 i hk;simp at this
 exact hs.sep i k _ p hne hb.h hp rfl b rfl hf⟩
section
variable {d i j k b e n:Nat} {vs ws l l':List Value} {w0:World} {M0:Nat->Prop} {ty t tb:TypeId} {pos:String} {af:Array Edge} {g:Option (Nat×Bool)} {x y:Operand} {v z:Value} {bb:Bool}
variable {ll:List Oper} {F:Xu->Hp->Prop} {rest:List (Nat×Nat)} {op:Go.Op} {G:Type} {φ:G->Prop} {genv:G->Xu} {gH:G->Hp} {dd:Option Tmp} {q r s:Prop}
def t_stm [hx:Som (ev2 env x) (.pointer (some ⟨b,j,none⟩))] [hy:Som (ev2 env y) v] [hB:BxI H b i tb l] [hi:TB (neb i 0)] [hv:CeI P N sc env H v vs] [hk:Siz P t k] [hl:TB (lenq vs k)] [hf:TB (fits l j vs)] [hr:LEv (lay2 l j vs) l']
  [h0:Som (lk2 H 0) (Xm w0 M0)] [hw:Hw w0 sc] [hM:MS N sc M env H b]:T P N sc M ⟨none,.store t x y,ty,pos,af,g⟩ env H (G:=Unit) (λ_=>True) (λ_=>env) (λ_=>(i,box b tb l'.toArray)::H):=λa w hs=>Zw3 (hM.h a w hs) a w hs
def Za3(n:Nat){ks:List Nat}[hz:Zer P t z][hc:ClI z l][h0:Som (lk2 H 0) (Xm w0 M0)][hN:TB (ltb d N)][hw:Hw w0 sc][ha:AgI H0 H ks] :
  T P N sc (Off H0 ks) ⟨some d,.alloc t,ty,pos,af,g⟩ env H (G:=Nat) (λb=>MI (Off H0 ks) b) (λb=>(d,.pointer (some ⟨b,0,none⟩))::env) (λb=>(n,box b t l.toArray)::H):=λa w hs K Q f=>
 Zw6 (i:=n) rfl rfl (Pl hN.h) hz.h hc.h h0.l hw.h ha.h a w hs K Q λg c m h=>f g c m ⟨h⟩
def Xs(a:T P N sc M ⟨dd,op,ty,pos,af,none⟩ env H φ genv gH)[ho:Som (nth ll i) ⟨dd,op,ty,pos,af,none⟩](h:∀g,φ g->LD P N sc M ll.toArray F rest (genv g) (gH g)):LD P N sc M ll.toArray F ((i,1)::rest) env H:=Ec ho.n a h
def Bm{ts:List Nat}{a:Array Bool}(c:T P N sc M ⟨dd,op,ty,pos,af,none⟩ env H φ genv gH)[ho:Som (nth ll i) ⟨dd,op,ty,pos,af,none⟩](h:∀g,φ g->A P N sc M ll.toArray ts Q n (a.setIfInBounds i true) (genv g) (gH g)):Zbz P N sc M ll.toArray ts Q n a env H i:=Gr ho.n rfl c h
instance [ho:Som (nth ll i) ⟨some d,op,ty,pos,af,none⟩] [h1:StI P N sc M op env H v s] [h2:TB (ltb d N)] [h:Adv n (LD P N sc M ll.toArray F rest ((d,v)::env) H) q] [h3:AndO s q r]:Adv (n+1) (LD P N sc M ll.toArray F ((i,0)::rest) env H) r:=
 ⟨λk=>Pe ho.n rfl (h1.h (h3.h k).1) (h.h (h3.h k).2) rfl (Pl h2.h)⟩
instance [ho:Som (nth ll i) ⟨some d,op,ty,pos,af,some (j,bb)⟩] [hj:Som (dsto ll j) e] [he:Som (lk2 env e) (.bool bb)] [hN:TB (ltb e N)] [h1:StI P N sc M op env H v s] [h2:TB (ltb d N)] [h:Adv n (LD P N sc M ll.toArray F rest ((d,v)::env) H) q] [h3:AndO s q r]:Adv (n+1) (LD P N sc M ll.toArray F ((i,0)::rest) env H) r:=
 ⟨λk=>r0g (h1.h (h3.h k).1) ho.n rfl (Hu hj) he.l rfl (h.h (h3.h k).2) (Pl hN.h) (Pl h2.h)⟩
instance [ho:Som (nth ll i) ⟨some d,op,ty,pos,af,some (j,true)⟩] [hj:Som (dsto ll j) e] [he:Som (lk2 env e) (.bool false)] [hN:TB (ltb e N)] [h2:TB (ltb d N)] [h:Adv n (LD P N sc M ll.toArray F rest ((d,undef)::env) H) q]:Adv (n+1) (LD P N sc M ll.toArray F ((i,2)::rest) env H) q:=
 ⟨λk=>r2 ho.n rfl (Hu hj) he.l rfl (Pl hN.h) rfl (Pl h2.h) (h.h k)⟩
instance [ho:Som (nth ll i) ⟨some d,op,ty,pos,af,some (j,false)⟩] [hj:Som (dsto ll j) e] [he:Som (lk2 env e) (.bool true)] [hN:TB (ltb e N)] [h2:TB (ltb d N)] [h:Adv n (LD P N sc M ll.toArray F rest ((d,undef)::env) H) q]:Adv (n+1) (LD P N sc M ll.toArray F ((i,2)::rest) env H) q:=
 ⟨λk=>r2 ho.n rfl (Hu hj) he.l rfl (Pl hN.h) rfl (Pl h2.h) (h.h k)⟩
instance [ho:Som (nth ll i) ⟨none,.store t x y,ty,pos,af,none⟩] [hx:Som (ev2 env x) (.pointer (some ⟨b,j,none⟩))] [hy:Som (ev2 env y) v] [hB:BxI H b k tb l] [hi:TB (neb k 0)] [hv:CeI P N sc env H v vs] [hk:Siz P t e] [hl:TB (lenq vs e)] [hf:TB (fits l j vs)] [hr:LEv (lay2 l j vs) l']
  [h0:Som (lk2 H 0) (Xm w0 M0)] [hw:Hw w0 sc] [h:Adv n (LD P N sc M ll.toArray F rest env ((k,box b tb l'.toArray)::H)) q]:Adv (n+1) (LD P N sc M ll.toArray F ((i,3)::rest) env H) q:=
 ⟨λq=>r3' ho.n (Zw3 aA) λ_ _=>h.h q⟩
instance [ho:Som (nth ll i) ⟨none,.store t x y,ty,pos,af,none⟩] [hx:Som (ev2 env x) (.pointer (some ⟨b,j,none⟩))] [hy:Som (ev2 env y) v] [hB:BxI H b k tb l] [hi:TB (neb k 0)] [hM:MS N sc M env H b] [hv:CeI P N sc env H v vs] [hk:Siz P t e] [hl:TB (lenq vs e)] [hf:TB (fits l j vs)] [hr:LEv (lay2 l j vs) l']
  [h0:Som (lk2 H 0) (Xm w0 M0)] [hw:Hw w0 sc] [h:Adv n (LD P N sc M ll.toArray F rest env ((k,box b tb l'.toArray)::H)) q]:Adv (n+1) (LD P N sc M ll.toArray F ((i,1)::rest) env H) q:=
 ⟨λq=>Ec ho.n t_stm λ_ _=>h.h q⟩
instance [ho:Som (nth ll i) ⟨some d,op,ty,pos,af,none⟩] [h1:DI P N sc op env H v s] [h2:TB (ltb d N)] [h:Adv n (LD P N sc M ll.toArray F rest ((d,v)::env) H) q] [h3:AndO s q r]:Adv (n+1) (LD P N sc M ll.toArray F ((i,1)::rest) env H) r:=
 ⟨λk=>Ec ho.n (Bh (h1.h (h3.h k).1) rfl (Pl h2.h)) λ_ _=>h.h (h3.h k).2⟩
instance [ho:Som (nth ll i) ⟨some d,op,ty,pos,af,none⟩] [h1:DI P N sc op env H v s] [h2:TB (ltb d N)] [h:Adv n (LD P N sc M ll.toArray F rest ((d,v)::env) H) q] [h3:AndO s q r]:Adv (n+1) (LD P N sc M ll.toArray F ((i,3)::rest) env H) r:=
 ⟨λk=>r3' ho.n (Bh (h1.h (h3.h k).1) rfl (Pl h2.h)) λ_ _=>h.h (h3.h k).2⟩
instance [h:Adv n (F env H) q] {ops:Array Oper} : Adv (n+1) (LD P N sc M ops F [] env H) q:=⟨λk=>r_fin (h.h k)⟩
theorem Qg {id:Nat} {l:List Oper} (M:Nat->Prop) (a:List (Nat×Nat)) (h:LD P N sc M l.toArray (X N sc .normal Q) a env H) (c:P.follows .mixedOrders=true:=by kernel_rfl)
  (f:(Region.noSelect l.toArray && Nat.beq a.length l.length && Ih l.toArray (Af a) a (Array.replicate l.length false) && (Region.ready .any l.toArray (Mg a (Array.replicate l.length false))).isEmpty)=true:=by kernel_rfl) :
  E P N sc (.region id l.toArray true) Q env H:=e_dreg M a c f h
end
end Go.Sky

