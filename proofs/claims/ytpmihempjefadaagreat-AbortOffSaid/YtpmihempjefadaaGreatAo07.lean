/- Rules, arithmetic and contracts: part 8. No conditions but those that each theorem names. -/
import Derived.Test.YtpmihempjefadaaGreatAo06
import Derived.RangeFuncFrom
import Derived.RangeFuncLeaves
import Derived.OrdersIn
import Derived.TacticsIn
import Derived.RangeFuncCalls
set_option linter.all false
namespace Go.Sky
variable{a b m:R2}{c xs o p r rest before q z:List Int}{v:Value}{t i M N k fuel:Nat}{ls cs:List (SL×List Int)}{x y ov d:Int}{ds:List (List Int)}{lo:Rat}{ti ts:TypeId}
theorem Zsw(g:Rat->Rat){h:Rat}(l:0<h):∀(n:Nat) (u v:Rat),u<v->v-u<=(n:Rat)*h->g u*g v<0->∃x y,u<=x/\x<y/\y<=v/\y-x<=h/\g x≠0/\g x*g y<=0
 | 0,u,v,a,b,_=>by push_cast at b;grind
 | n+1,u,v,a,b,c=>by
  push_cast at b;have f:g u≠0:=λe=>by rw [e]at c;grind
  by_cases j:v-u<=h
  .exact⟨u,v,O4,a,O4,j,f,O4⟩
  .rcases(show g u*g (u+h)<=0\/0<g u*g (u+h) by grind)with q|q
   .exact⟨u,u+h,O4,O4,O4,O4,f,q⟩
   .have s:g (u+h)*g v<0:=by
     have I:=Gv f;rcases(show g (u+h)*g v<0\/0<=g (u+h)*g v by grind)with w|w
     .exact w
     .have Q:=bB q (show 0 < -(g u*g v) by grind);have R:=aN (dG I) w;grind
    obtain⟨x,y,P,B,D,F,G,H⟩:=Zsw g l n (u+h) v O4 O4 s;exact⟨x,y,O4,B,D,F,G,H⟩
theorem Zm3{a b c:Rat}(h:a*b<0)(e:a-b<=c)(f:b-a<=c):-c<=a/\a<=c:=by
 rcases(show 0<a\/a<0\/a=0 by grind)with q|q|q
 .have:b<0:=by
   rcases(show b<0\/0<=b by grind)with w|w
   .exact w
   .have:=aN (dG q) w;grind
  grind
 .have:0<b:=by
   rcases(show 0<b\/b<=0 by grind)with w|w
   .exact w
   .have:=aN (show 0<=-a by grind) (show 0<=-b by grind);grind
  grind
 .rw [q]at h;grind
theorem Ztj{F:Nat}(hx:Tr xs)(h0:xs≠[])(hC:Aj F xs)(ho:Tr o)(o0:o≠[])(hE:Ed o (sqf F xs)){u v:Rat}(B:u<v)(hu:Zb (sqf F xs) u≠0)(h:Zb o u*Zb o v<0):vch F xs v<vch F xs u:=by
 rcases jL (vch F xs v) (vch F xs u)with q|q
 .exact q
 .exfalso;have hk:=Zdu hx h0 hC (dG B) q hu;obtain⟨k,w,Y,G⟩:=hE;have s:=Pg Y;have l:∀d,Tr d->Ed d o->Ed d (tzl w)->d.length<=1:=λd hd e1 R=>by
   obtain⟨f,s1,Q,r1⟩:=e1;obtain⟨g,s2,c2,r2⟩:=R;refine Zff hx h0 hC.1.2.2.1 hd ⟨k*f,lmul w s1,bG Y Q,λx=>?_⟩ ⟨k*f*g,Mb ((lmul (ld w) s1).map λa=>g*a) ((lmul s2 (ld o)).map λa=>f*a),bG (bG Y Q) c2,λx=>?_⟩
   .rw [Zp];have a1:=G x;have j:=r1 x;push_cast;grind
   .rw [Xd,Zg,Zg,Zp,Zp,Km];have a0:=Cd ((sqf F xs).map λa=>k*a) (lmul w o) (λy=>by rw [Zg,Zp];exact G y) x;rw [Aq,Cu]at a0;have j:=r1 x;have a3:=r2 x;rw [Mt]at a3;push_cast;have b1:(k:Rat)*f*g*Zb (ld (sqf F xs)) x=(f:Rat)*g*(Zb (ld w) x*Zb o x+Zb w x*Zb (ld o) x):=by rw [<-a0];grind
    rw [b1];have b2:(f:Rat)*g*(Zb (ld w) x*Zb o x+Zb w x*Zb (ld o) x)=(g:Rat)*(Zb (ld w) x*((f:Rat)*Zb o x))+(f:Rat)*(((g:Rat)*Zb w x)*Zb (ld o) x):=O4;rw [b2,j,a3];grind
  obtain⟨ε,e1,R⟩:=Zzx ho (Qq w) o0 l u v;obtain⟨I,l1,l2⟩:=Ct u v o;obtain⟨P,m1,m2⟩:=Ct u v w;obtain⟨D,d1,-,d3⟩:=Gb (show(0:Rat)<1 by decide) (show 0<I+P by grind) (show 0<ε/2 by grind);obtain⟨n,hn⟩:=Zgq (v-u) d1;obtain⟨x,y,H,x2,x3,x4,x5,x6⟩:=Zsw (Zb o) d1 n u v B hn h;have sx:=hk x H O4;have sy:=hk y O4 x3;have ox:=G x;have oy:=G y;have W:Zb o y≠0:=λe=>by
   rw [e]at oy;rcases fB.1 (show(k:Rat)*Zb (sqf F xs) y=0 by grind)with t|t
   .exact s t
   .rw [t]at sy;grind
  have S:Zb o x*Zb o y<0:=by
   rcases(show Zb o x*Zb o y<0\/Zb o x*Zb o y=0 by grind)with t|t
   .exact t
   .rcases fB.1 t with t|t
    .exact absurd t x5
    .exact absurd t W
  have Z:0<Zb (sqf F xs) x*Zb (sqf F xs) y:=by
   have a1:=bB sx sy;have j:=Gv hu;rcases(show 0<Zb (sqf F xs) x*Zb (sqf F xs) y\/Zb (sqf F xs) x*Zb (sqf F xs) y<=0 by grind)with t|t
   .exact t
   .have:=aN (dG j) (show 0<=-(Zb (sqf F xs) x*Zb (sqf F xs) y) by grind);grind
  have V:Zb w x*Zb w y<0:=by
   have a1:(k:Rat)*k*(Zb (sqf F xs) x*Zb (sqf F xs) y)=(Zb w x*Zb w y)*(Zb o x*Zb o y):=by
    have:((k:Rat)*Zb (sqf F xs) x)*((k:Rat)*Zb (sqf F xs) y)=(Zb w x*Zb o x)*(Zb w y*Zb o y):=by rw [ox,oy]
    grind
   have j:=bB (Gv s) Z;rcases(show Zb w x*Zb w y<0\/0<=Zb w x*Zb w y by grind)with t|t
   .exact t
   .have:=aN t (show 0<=-(Zb o x*Zb o y) by grind);grind
  have Q:=l2 x y H O4 x3;have c2:=m2 x y H O4 x3;have n1:=aN (a:=I) (b:=D-(y-x)) O4 O4;have n2:=aN (a:=P) (b:=D-(y-x)) O4 O4;have n3:=aN (a:=I) (b:=D) O4 O4;have n4:=aN (a:=P) (b:=D) O4 O4;obtain⟨b1,b2⟩:=Zm3 (c:=ε/2) S O4 O4;obtain⟨b3,b4⟩:=Zm3 (c:=ε/2) V O4 O4;rcases R x H O4 with t|t
  .unfold Big at t;grind
  .unfold Big at t;rw [Mt]at t;grind
theorem Zmx{F:Nat}(l:Tr xs)(f:xs≠[])(g:Aj F xs){u v:Rat}(e:u<v)(h:Zb (sqf F xs) u≠0)(j:Zb (sqf F xs) v=0):vch F xs v<vch F xs u:=by
 rcases jL (vch F xs v) (vch F xs u)with q|q
 .exact q
 .exfalso;have:=Zdu l f g (dG e) q h v (dG e) O4;rw [j]at this;grind
theorem Odp.ed{F n:Nat}(h:Odp F n p o):Ed o (Go.Sky.sqf F p):=by have e:=Dp.start h.tr h.ne;obtain⟨-,f⟩:=Fj h.tr h.ne h.sz h.hn h.hl h.hF p.length (Xj p) e (by rw [Pp h.tr];exact aI _);rw [<-h.eq]at f;rwa [Zoa e.2.2.1]at f
theorem Ydi{F:Nat}(l:Tr xs)(f:xs≠[])(j:Aj F xs)(x:Rat):Zb xs x=0↔Zb (sqf F xs) x=0:=by
 constructor
 .intro h;have n:(x.den:Int)≠0:=by exact_mod_cast x.den_nz
  have e:((x.num:Int):Rat)/((x.den:Int):Rat)=x:=by rw [<-Rat.divInt_eq_div];exact Rat.num_divInt_den x
  have:=Ydk l f j.1.2.2.1 n (r:=x.num) (by rw [e];exact h);rwa [e]at this
 .intro h;obtain⟨g,s⟩:=Ykz l f j.1.2.2.1;rw [s x,h];grind
theorem Ylp {F n:Nat}  (h:Odp F n p o) (f:Aj F p) {K:Nat} {e:Nat} (l:∀u v:Rat,-(K:Rat)<=u->u<=v->v<=(K:Rat)->v-u<=1/((2^e:Nat):Rat)->vch F p u-vch F p v<=1)
  {s t:Rat} (h1:-(K:Rat)+1<=s) (Q:t<=(K:Rat)) (hs:0<=Zb p s) (ht:0<=Zb p t) (V:Ycl p s t):1/((2^(e+1):Nat):Rat)<t-s:=by
 obtain⟨x,x1,x2,x3⟩:=V;have B:s<x:=by rcases(show s<x\/s=x by grind)with q|q;exact q;subst q;grind
 have D:x<t:=by rcases(show x<t\/x=t by grind)with q|q;exact q;subst q;grind
 obtain⟨f1,f2,f3,f4,f5,f6⟩:=Nf F h.tr h.ne f.1.2.2.1;have j:Zb (Go.Sky.sqf F p) x≠0:=λz=>by have:=(Ydi h.tr h.ne f x).2 z;grind
 rcases(show 1/((2^(e+1):Nat):Rat)<t-s\/t-s<=1/((2^(e+1):Nat):Rat) by grind)with q|q
 .exact q
 .exfalso;have W:=two_pow_pos e;have Y:=two_pow_pos (e+1);have I:((2^(e+1):Nat):Rat)=2*((2^e:Nat):Rat):=by rw [cJ];push_cast;grind
  have hi:0<((2^e:Nat):Rat)⁻¹:=gD.2 W;have R:1/((2^(e+1):Nat):Rat)=((2^e:Nat):Rat)⁻¹/2:=by rw [I];grind
  have P:1/((2^e:Nat):Rat)=((2^e:Nat):Rat)⁻¹:=O4;have S:((2^e:Nat):Rat)⁻¹<=1:=by
   have g1:(1:Rat)<=((2^e:Nat):Rat):=by have:1<=2^e:=dZ e;exact_mod_cast this
   have g2:=aN (a:=((2^e:Nat):Rat)-1) (b:=((2^e:Nat):Rat)⁻¹) O4 O4;have g3:((2^e:Nat):Rat)*((2^e:Nat):Rat)⁻¹=1:=lJ _ O4;grind
  obtain⟨u,u1,u2,u3⟩:∃u,s-((2^e:Nat):Rat)⁻¹/2<=u/\u<=s/\vch F p x<vch F p u:=by
   by_cases z:Zb (Go.Sky.sqf F p) s=0
   .obtain⟨δ,d1,H⟩:=Bz (Go.Sky.sqf F p).length (Go.Sky.sqf F p) (s-((2^e:Nat):Rat)⁻¹/2) (aI _);have G:=Zgr (Go.Sky.sqf F p).length (Go.Sky.sqf F p) (s-((2^e:Nat):Rat)⁻¹/2) f2 f3 (aI _);obtain⟨u,w1,w2,w3⟩:∃u,s-((2^e:Nat):Rat)⁻¹/2<u/\u<=s-((2^e:Nat):Rat)⁻¹/2+δ/\u<s:=by
     rcases(show s-((2^e:Nat):Rat)⁻¹/2+δ<s\/s<=s-((2^e:Nat):Rat)⁻¹/2+δ by grind)with w|w
     .exact⟨_,O4,iL,w⟩
     .exact⟨s-((2^e:Nat):Rat)⁻¹/4,O4,O4,O4⟩
    have Z:Zb (Go.Sky.sqf F p) u≠0:=λc=>by have:=H u w1 w2;rw [c]at this;exact G this.symm
    have m1:=Zmx h.tr h.ne f w3 Z z;have m2:=Zjj h.tr h.ne f (dG B);exact⟨u,O4,O4,O⟩
   .have g:0<Zb p s:=by have:Zb p s≠0:=λc=>z ((Ydi h.tr h.ne f s).1 c);grind
    have k:=h.opp (x:=s) (y:=x) (by have:=bB g (show 0 < -Zb p x by grind);grind);exact⟨s,O4,O4,Ztj h.tr h.ne f h.otr h.one h.ed B z k.1⟩
  have u4:vch F p t<vch F p x:=by
   by_cases z:Zb (Go.Sky.sqf F p) t=0
   .exact Zmx h.tr h.ne f D j z
   .have g:0<Zb p t:=by have:Zb p t≠0:=λc=>z ((Ydi h.tr h.ne f t).1 c);grind
    have k:=h.opp (x:=x) (y:=t) (by have:=bB g (show 0 < -Zb p x by grind);grind);exact Ztj h.tr h.ne f h.otr h.one h.ed D j k.1
  have:=l u t O4 O4 Q O4;omega
def Zcd(xs:List Int)(m:Nat):Prop:=xs.length=0\/(xs.length+2)*(xs.length+2)*(Qz xs+m+2*(xs.length-1)+32)<=65536
instance (xs:List Int) (m:Nat):Decidable (Zcd xs m):=by unfold Zcd;infer_instance
def sgf_t{m:Nat}(h:xs.length=0):Value.bool (decide (Zcd xs m))= .bool true:=aL Value.bool (aJ (.inl h))
theorem sgf_i{m:Nat}{n:Int}(h:xs.length≠0)(f:n=(((xs.length+2)*(xs.length+2)*(Qz xs+m+2*(xs.length-1)+32):Nat):Int)):Value.bool (decide (Zcd xs m))= .bool (decide (n<=65536)):=aL Value.bool (cF.2 (by
 subst f;show(xs.length=0\/_<=65536)↔_;constructor
 .intro e;rcases e with e|e
  .exact absurd e h
  .exact lC.2 e
 .intro e;exact .inr (lC.1 e)))
def efit(z:R2):Bool:=decide (max (bl z.1.natAbs) (bl z.2.natAbs)<=512)
def Zpm:List Int->Int
 | []=>0
 | x::r=>if x=0 then Zpm r else x
theorem Zs4{s:Int}(h:s≠0):∀{L:List Int} {i:Nat},i<L.length->(∀k,k<i->L.getD k 0=0)->L.getD i 0=s->Zpm L=s
 | [],i,hi,_,_=>absurd hi O8
 | x::r,0,_,_,hs=>by have e:x=s:=hs;subst e;unfold Zpm;rw [aD h]
 | x::r,i+1,hi,hz,hs=>by have e:x=0:=hz 0 O;unfold Zpm;rw [aF e];exact Zs4 h (L:=r) (i:=i) (by simpa using hi) (λk f=>hz (k+1) O) hs
theorem Znf:∀{L:List Int},(∀k,k<L.length->L.getD k 0=0)->Zpm L=0
 | [],_=>rfl
 | x::r,hz=>by have e:x=0:=hz 0 O8;unfold Zpm;rw [aF e];exact Znf λk f=>hz (k+1) (by simpa using f)
def aft(e:List (List Int))(m:R2):Int:=Zpm (e.map (fat m.1 m.2))
def vlu(e:List (List Int))(m:R2):Int:=if e.length=0 then 0 else fat m.1 m.2 (e.getD 0 [])
def chv(e:List (List Int))(m:R2):Int:=chg (e.map (fat m.1 m.2))
def crb(e:List (List Int))(a b:R2):Bool:=if e.length=0 then false else decide (0<chv e a-chv e b-if fat b.1 b.2 (e.getD 0 [])=0 then 1 else 0)
def cmp(a b:R2):Int:=(a.1*b.2-b.1*a.2).sign
def ngb(ds cs:List (List Int))(a b:R2):Bool:=if cmp a b=0 then decide (vlu ds a<0)else(decide (aft ds a<0) || crb cs a b)
theorem Yaj(ls:List (SL×List Int))(x y:Int):aft (ls.map Prod.snd) (x,y)=Zpm (sgx ls (fat x y)):=by unfold aft;rw [Zxk rfl]
theorem Ynn(ls:List (SL×List Int))(x y:Int):chv (ls.map Prod.snd) (x,y)=chg (sgx ls (fat x y)):=by unfold chv;rw [Zxk rfl]
theorem Zg1(h:i<ls.length):(ls.map Prod.snd).getD i []=(ls.getD i Z0).2:=by rw [aE,aE,eY,aM h];rfl
theorem chv_r(e:List (List Int))(m:R2):0<=chv e m/\chv e m<=(e.length:Int):=by have:=Zhm (e.map (fat m.1 m.2));rw [aW]at this;exact this
theorem Zrt{x:Rat}(h:Er x=0):x=0:=by
 rcases Pf x with⟨f,e⟩|⟨f,e⟩|⟨f,e⟩
 .rw [e]at h;exact absurd h O3
 .rw [e]at h;exact absurd h O3
 .exact f
theorem sgm_i{l:Int}(f:-1<=x/\x<=1)(e:-1<=l/\l<=1):Mw (x*l):=by
 rcases(show x=-1\/x=0\/x=1 by omega)with h|h|h<;>subst h
 .exact⟨O,O⟩
 .exact⟨O,O⟩
 .exact⟨O,O⟩
theorem Zxm{l:Int}(f:-1<=x/\x<=1)(e:-1<=l/\l<=1)(h:x*l<0):x=-l:=by rcases(show x=-1\/x=0\/x=1 by omega)with h|h|h<;>subst h<;>omega
theorem Zxl{l:Int}(g:-1<=x/\x<=1)(f:-1<=l/\l<=1)(h:¬x*l<0)(e:x≠0):¬x=-l:=by rcases(show x=-1\/x=0\/x=1 by omega)with h|h|h<;>subst h<;>omega
theorem Zxn{l:Int}(h:x=0):¬x*l<0:=by subst h;omega
theorem crb_t{e f:Int}(h:cs.length≠0)(g:fat e f (cs.getD 0 Z0).2=0):Value.bool (crb (cs.map Prod.snd) (x,y) (e,f))= .bool (decide (0<chv (cs.map Prod.snd) (x,y)-chv (cs.map Prod.snd) (e,f)-1)):=by unfold crb;rw [aW,aD h,Zg1 O,aF g]
theorem crb_f{e f:Int}(h:cs.length≠0)(g:¬fat e f (cs.getD 0 Z0).2=0):Value.bool (crb (cs.map Prod.snd) (x,y) (e,f))= .bool (decide (0<chv (cs.map Prod.snd) (x,y)-chv (cs.map Prod.snd) (e,f))):=by unfold crb;rw [aW,aD h,Zg1 O,aD g,jK]
theorem ngb_t{cs:List (List Int)}(h:¬cmp a b=0)(e:aft ds a<0):Value.bool (ngb ds cs a b)= .bool true:=by unfold ngb;rw [aD h,aJ e];rfl
theorem ngb_f{cs:List (List Int)}(h:¬cmp a b=0)(e:¬aft ds a<0):Value.bool (ngb ds cs a b)= .bool (crb cs a b):=by unfold ngb;rw [aD h,aK e];rfl
def Ze3:Nat->List Int->List (List Int)
 | 0,_=>[]
 | n+1,p=>if p.length=0 then []else p::Ze3 n (Xb p)
theorem Ztn{m:R2}(j:0<m.2):∀(n:Nat) (p:List Int),p.length<=n->aft (Ze3 n p) m=Ep n p (qv m)
 | 0,p,s=>rfl
 | n+1,p,s=>by
  unfold Ze3;by_cases h:p.length=0
  .rw [aF h];have:p=[]:=aG h;subst this;have f:∀n,Ep n [] (qv m)=0:=λn=>by
    induction n with
    | zero=>rfl
    | succ n g=>unfold Ep;rw [aD (by show ¬(0:Rat)≠0;simp)];exact g
   rw [f];rfl
  .rw [aD h];have u:=Nt p;have g:=Ztn j n (Xb p) O;unfold aft at g ⊢;rw [cQ];unfold Zpm Ep;have l:fat m.1 m.2 p=Er (Zb p (qv m)):=Zpr j p;rw [l];by_cases f:Zb p (qv m)=0
   .rw [aF (Zru f),aD (by simpa using f)];exact g
   .rw [aD (λe=>f (Zrt e)),aF f]
structure Cvd (xs:List Int):Prop where
 v:Vp xs
 s:Sz 205 xs
 l:xs.length<=11
theorem Zzm(h:Cvd xs)(e:xs≠[])(f:Dp xs r):Sz 220 r/\r.length<=11:=by obtain⟨g,j⟩:=f.sz h.v.tr e h.s (by have:=h.l;omega);exact⟨g,by have:=h.l;omega⟩
theorem Ziv(h:Cvd xs)(l:xs≠[])(e:Dp xs r) :
  Vp r/\r≠[]/\(∀i,bl (cf r (i+1)*((i:Int)+1)).natAbs<=65536)/\Vp (Xb r)/\¬Znd r (Xb r)/\eok 13 (gA r (Xb r)) (gB r (Xb r))/\Nz 13 r (Xb r)=Mr 13 r/\Vp (Mr 13 r)/\
  Ba r (Mr 13 r)=0/\pdv r (Mr 13 r)/\Hc r (Mr 13 r)=sqf 13 r/\Vp (sqf 13 r)/\Sz 235 (sqf 13 r)/\(sqf 13 r).length<=11/\Dp xs (Mr 13 r)/\sqf 13 r≠[]/\((sqf 13 r).length≠1->(Mr 13 r).length<r.length)/\Za5 13 r:=by
 obtain⟨H,Z⟩:=Zzm h l e;have w:Vp r:=⟨H.mono O,e.1,O⟩;have f:=e.ok h.v.tr l h.s O (by have:=h.l;omega) (show xs.length<=13+1 by have:=h.l;omega);obtain⟨⟨V,P,Q,F,G⟩,-,-⟩:=f.1;have j:=e.2.2.1;have s:=(chG 13 e.1 e.2.1 H O O O).2.1;have R:=(chG 13 e.1 e.2.1 H O O O).2.2.1;have D:=Zur w e.2.1 f.1.1;have I:Mr 13 r=Nz 13 r (Xb r):=by unfold Mr;rw [j]
 have n:=e.next f.2;have B:Vp (Mr 13 r):=by obtain⟨t1,t2⟩:=Zzm h l n;exact⟨t1.mono O,n.1,O⟩
 have u:sqf 13 r=Hc r (Mr 13 r):=by unfold sqf Mr;rw [j]
 obtain⟨f1,f2,f3,f4,f5,f6⟩:=Nf 13 e.1 e.2.1 f.2;have g:∀i,bl (cf r (i+1)*((i:Int)+1)).natAbs<=65536:=λi=>by
  by_cases hi:i<r.length
  .have:=V i hi;rwa [j]at this
  .rw [Yo O];simp [Ko]
 rw [j]at P Q F G;rw [<-I]at F G;refine⟨w,e.2.1,g,Zfa w (λi _=>g i),P,Q,I.symm,B,F,G,u.symm,D,s,O,n,f3,λS=>?_,f.2⟩;refine Zpj e.1 e.2.1 f.2 ?_;have:=Oz e.1 e.2.1 f.2;have W:=aH.2 f3;have Y:=aH.2 this.2.1;omega
def Gj(xs:List Int):List Int:=Zse 13 xs.length [1] (Xj xs)
structure OddI (xs:List Int) (t:Nat) (rest out before:List Int):Prop where
 ex:∃f q,Dp xs q/\q.length<=f/\Zse 13 f out q=Gj xs/\Tr out/\Op xs out q/\((t%2=1/\rest=q)\/(t%2=0/\rest=Mr 13 q/\before=sqf 13 q/\(sqf 13 q).length≠1))
theorem OddI.start{b:List Int}(h:Cvd xs)(e:xs≠[]):OddI xs 1 (Xj xs) [1] b:=
 ⟨xs.length,Xj xs,Dp.start h.v.tr e,by rw [Pp h.v.tr];exact aI _,rfl,.inr O3,Op.start h.v.tr,.inl ⟨rfl,rfl⟩⟩
theorem OddI.dp{e:List Int}(h:Cvd xs)(j:xs≠[])(n:OddI xs t rest e before):Dp xs rest:=by
 obtain⟨f,q,g,s,u,w,B,l|⟨-,rfl,-⟩⟩:=n.ex
 .rw [l.2];exact g
 .exact(Ziv h j g).2.2.2.2.2.2.2.2.2.2.2.2.2.2.1
theorem OddI.out{e:List Int}(h:Cvd xs)(l:xs≠[])(u:OddI xs t rest e before):Vp e/\Sz 220 e/\e.length<=11:=by obtain⟨f,q,n,w,B,g,s,-⟩:=u.ex;obtain⟨j,D,F⟩:=s.sz h.v.tr l h.s (by have:=h.l;omega) g n.1;have:=h.l;exact⟨⟨j.mono O,g,O⟩,j,O⟩
theorem OddI.odd_end{e:List Int}(h:Cvd xs)(s:xs≠[])(l:OddI xs t rest e before)(F:t%2=1)(n:(sqf 13 rest).length=1):e=Gj xs:=by
 obtain⟨f,q,j,u,g,w,B,⟨-,rfl⟩|⟨D,-⟩⟩:=l.ex
 .cases f with
  | zero=>exact absurd (aH.2 j.2.1) O
  | succ f=>unfold Zse at g;rw [aF n]at g;exact g
 .omega
theorem OddI.odd_next{e:List Int}(s:OddI xs t rest e before)(B:t%2=1)(u:(sqf 13 rest).length≠1):OddI xs (t+1) (Mr 13 rest) e (sqf 13 rest):=by
 obtain⟨f,q,g,h,j,l,n,⟨-,rfl⟩|⟨w,-⟩⟩:=s.ex
 .exact⟨f,rest,g,h,j,l,n,.inr ⟨O,rfl,rfl,u⟩⟩
 .omega
theorem OddI.even{g:List Int}(h:Cvd xs)(D:xs≠[])(hI:OddI xs t rest g before)(ht:t%2=0) :
  Vp before/\Ba before (sqf 13 rest)=0/\pdv before (sqf 13 rest)/\Vp (Hc before (sqf 13 rest))/\¬Av g (Hc before (sqf 13 rest))/\
  ((sqf 13 rest).length=1->Qr g (Hc before (sqf 13 rest))=Gj xs)/\((sqf 13 rest).length≠1->OddI xs (t+1) (Mr 13 rest) (Qr g (Hc before (sqf 13 rest))) (sqf 13 rest))/\Vp (Qr g (Hc before (sqf 13 rest))):=by
 obtain⟨f,q,j,h2,n,h4,h5,⟨h7,-⟩|⟨-,rfl,rfl,Z⟩⟩:=hI.ex
 .omega
 obtain⟨a1,a2,a3,a4,a5,a6,a7,a8,a9,b0,c0,H,I,c5,P,c6,Q,s⟩:=Ziv h D j;obtain⟨b1,b2,b3,b4,b5,b6,b7,b8,b9,c7,c8,R,S,c9,u,l,V,B⟩:=Ziv h D P;obtain⟨c1,c2,W,c4⟩:=Zci j.1 j.2.1 s B;have Y:=h5.next j.1 j.2.1 j.2.2.1 s B;have ho:=h.l;obtain⟨s1,s2,s3⟩:=Y.sz h.v.tr D h.s O Qp u.1;obtain⟨o1,o2,o3⟩:=h5.sz h.v.tr D h.s O h4 j.1;have d0:(Zay 13 q).length<=11:=by have e:=aL List.length c2;rw [Ma W R.tr c4 l]at e;have:=aH.2 l;omega
 have F:Sz 450 (Zay 13 q):=by obtain⟨a,ha,e⟩:=Y;have e2:Xj xs=Qr (Qr (Qr a (Mr 13 (Mr 13 q))) g) (Zay 13 q):=e.trans ((Qp).ext Qp λi=>Mi (λx=>by simp only [Yv];grind) i);exact(Zvz h.v.tr D h.s O Qp W e2).1.mono O
 have hd:Ba (sqf 13 q) (sqf 13 (Mr 13 q))=0:=by
  have m1:=Pz I;have m2:=Pz S;have l1:=aH.2 l;unfold Ba;rw [aD O];split
  .rfl
  .have:((sqf 13 q).length-(sqf 13 (Mr 13 q)).length+1)*(Qz (sqf 13 (Mr 13 q))+1)<=12*240:=aY O O;rw [aD O]
 have a0:Vp (Zay 13 q):=⟨F.mono O,W,O⟩;have hm:¬Av g (Zay 13 q):=λhF=>by have m1:=Pz o1;have m2:=Pz F;rcases hF.2.2 with w|w<;>omega
 refine⟨H,hd,c1,a0,hm,λG=>?_,λG=>?_,⟨s1.mono O,Qp,aB s2 O⟩⟩
 .cases f with
  | zero=>exact absurd (aH.2 j.2.1) O
  | succ f=>unfold Zse at n;rw [aD Z,aF G]at n;exact n
 .cases f with
  | zero=>exact absurd (aH.2 j.2.1) O
  | succ f=>
   unfold Zse at n;rw [aD Z,aD G]at n;have l1:=Q Z;have l2:=V G;exact⟨f,Mr 13 (Mr 13 q),u,O,n,Qp,Y,.inl ⟨O,rfl⟩⟩
theorem Ybe(h:Cvd xs)(f:xs≠[]):Gj xs=Zet 13 xs.length (Xj xs):=by have e:=Dp.start h.v.tr f;have j:=h.l;have g:=(e.ok h.v.tr f h.s O O (show xs.length<=13+1 by omega)).2;unfold Gj;rw [Yll h.v.tr f h.s O O O xs.length [1] (Xj xs) (.inr (show cf [1] 0≠0 by decide)) e (by rw [Pp h.v.tr];exact aI _),Yk8 (Zx0 xs e.1 e.2.1 g)]
theorem Zfw(h:Cvd xs)(f:xs≠[]):Odp 13 205 xs (Gj xs)/\Vp (Gj xs)/\Sz 220 (Gj xs)/\(Gj xs).length<=xs.length/\Zau (Gj xs):=by
 have g:=Dp.start h.v.tr f;have I:=h.l;have s:=(g.ok h.v.tr f h.s O O (show xs.length<=13+1 by omega)).2;have n:=Ybe h f;have j:Tr (Gj xs):=by rw [n];exact Zx0 xs g.1 g.2.1 s
 obtain⟨⟨B,u⟩,-⟩:=Fj h.v.tr f h.s O O (show xs.length<=13+1 by omega) xs.length (Xj xs) g (by rw [Pp h.v.tr];exact aI _);rw [<-n]at u;have e:Xj xs=Qr (Qr B B) (Gj xs):=g.1.ext Qp λi=>Mi (λx=>by rw [u x,Yv,Yv];grind) i;obtain⟨l,G,w⟩:=Zvz h.v.tr f h.s O Qp j e;have F:=(chG 13 j w l O O O).1;refine⟨⟨h.v.tr,f,h.s,O,O,O,n,j,w,F⟩,⟨l.mono O,j,O⟩,l,G,.inr ?_⟩;have P:=Pz l;have D:((Gj xs).length+2)*((Gj xs).length+2)<=13*13:=aY O O;have H:((Gj xs).length+2)*((Gj xs).length+2)*(Qz (Gj xs)+16)<=13*13*236:=aY D O;omega
def chx(xs:List Int):List (List Int):=if xs.length=0 then []else chn 13 (Gj xs)
def Nd(xs:List Int):List (List Int):=Ze3 xs.length xs
theorem Ztm:∀(n k:Nat) (p:List Int),Tr p->p.length<=25->Sz k p->∀q∈Ze3 n p,Tr q/\q.length<=p.length/\Sz (k+5*n) q
 | 0,_,_,_,_,_,q,e=>absurd e (by simp [Ze3])
 | n+1,k,p,g,l,hs,q,e=>by
  unfold Ze3 at e;by_cases f:p.length=0
  .rw [aF f]at e;exact absurd e O8
  .rw [aD f]at e;rcases aZ.1 e with rfl|e
   .exact⟨g,aI _,hs.mono O⟩
   .have s:=Nt p;obtain⟨h,u,j⟩:=Ztm n (k+5) (Xb p) (Mg g) O (Zas hs l) q e;exact⟨h,O,j.mono O⟩
theorem Dl(h:Cvd xs):∀q∈Nd xs,Vp q/\Qz q<=6150/\q.length<=11:=λq g=>by have l:=h.l;obtain⟨f,j,e⟩:=Ztm xs.length 205 xs h.v.tr O h.s q g;have:=Pz e;exact⟨⟨e.mono O,f,O⟩,O,O⟩
theorem Zgl(h:Cvd xs):∀q∈chx xs,Vp q/\Qz q<=6150/\q.length<=11:=λq f=>by
 have H:=h.l;unfold chx at f;by_cases j:xs.length=0
 .rw [aF j]at f;exact absurd f O8
 .rw [aD j]at f;have l:xs≠[]:=λe=>j (by rw [e];rfl);obtain⟨g,s,u,B,D⟩:=Zfw h l;obtain⟨w,F,G,n⟩:=chG 13 g.otr g.one u O O (show(Gj xs).length<=13+1 by omega);exact⟨vp_chn s g.one w q f,(n q f).1,by have:=(n q f).2;omega⟩
theorem Zqc(xs:List Int):(chx xs).length<=1000:=by
 unfold chx;split
 .exact bI _
 .have:=Zeg 13 (sqf 13 (Gj xs)) (Yi (Xb (sqf 13 (Gj xs))));unfold chn;omega
theorem Zrg(g:Qz p<=6150)(h:p.length<=11)(a:bl m.1.natAbs<=5300)(b:bl m.2.natAbs<=5300):¬Kg p m.1 m.2:=λf=>by
 have e:Qz [m.1,m.2]<=5300:=by show max (bl m.1.natAbs) (max (bl m.2.natAbs) 0)<=5300;omega
 have j:(p.length-1)*Qz [m.1,m.2]<=10*5300:=aY O e;have:=f.2;omega
def Zc3(h:Cvd xs)(a:bl m.1.natAbs<=5300)(b:bl m.2.natAbs<=5300):(∀p∈Nd xs,¬Kg p m.1 m.2)/\(∀p∈chx xs,¬Kg p m.1 m.2):=
 ⟨λp e=>Zrg (Dl h p e).2.1 (Dl h p e).2.2 a b,λp e=>Zrg (Zgl h p e).2.1 (Zgl h p e).2.2 a b⟩
theorem Yek(e:0<a.2)(f:0<b.2):((a.1*b.2-b.1*a.2:Int):Rat)=(qv a-qv b)*((a.2:Rat)*(b.2:Rat)):=by have g:=Gh e;have h:=Gh f;unfold qv;push_cast;grind
theorem Ynf(g:0<a.2)(j:0<b.2):cmp a b<0↔qv a<qv b:=by
 have e:=Yek g j;have l:=bB (Gh g) (Gh j);unfold cmp;rw [sign_neg_iff];constructor
 .intro h;have f:((a.1*b.2-b.1*a.2:Int):Rat)<0:=by exact_mod_cast h
  rcases(show qv a<qv b\/qv b<=qv a by grind)with q|q
  .exact q
  .have:=aN (show 0<=qv a-qv b by grind) (Rat.le_of_lt l);grind
 .intro h;have:=bB (show 0<qv b-qv a by grind) l;have f:((a.1*b.2-b.1*a.2:Int):Rat)<0:=O4;exact_mod_cast f
theorem Zp9(f:0<a.2)(g:0<b.2):cmp a b=0↔qv a=qv b:=by
 have e:=Yek f g;have l:=bB (Gh f) (Gh g);unfold cmp;rw [gT];constructor
 .intro h;rw [h]at e;rcases fB.1 (show(qv a-qv b)*((a.2:Rat)*(b.2:Rat))=0 by rw [<-e];rfl)with q|q
  .grind
  .rw [q]at l;grind
 .intro h;have j:((a.1*b.2-b.1*a.2:Int):Rat)=0:=by rw [e,h];grind
  exact_mod_cast j
theorem Yng(g:0<a.2)(j:0<b.2):cmp a b<=0↔qv a<=qv b:=by
 have e:=Ynf g j;have f:=Zp9 g j;constructor
 .intro h;rcases(show cmp a b<0\/cmp a b=0 by omega)with q|q
  .exact dG (e.1 q)
  .have:=f.1 q;grind
 .intro h;rcases(show qv a<qv b\/qv a=qv b by grind)with q|q
  .exact eK (e.2 q)
  .exact oD (f.2 q)
def Yg8(e:0<m.2)(p:List Int):fat m.1 m.2 p=Er (Zb p (qv m)):=Zpr e p
theorem Ynm(h:Cvd xs)(l:xs≠[])(B:0<a.2)(n:0<b.2):crb (chx xs) a b=true↔Zaf 13 (Gj xs) (qv a) (qv b):=by
 obtain⟨j,I,P,Q,R⟩:=Zfw h l;have g:xs.length≠0:=λe=>l (aG e);unfold crb Zaf chx;rw [aD g];have G:∃r,chn 13 (Gj xs)=sqf 13 (Gj xs)::r:=by unfold chn Mn;split<;>exact⟨_,rfl⟩
 obtain⟨r,s⟩:=G;have u:∀m:R2,0<m.2->chv (chn 13 (Gj xs)) m=vch 13 (Gj xs) (qv m):=λm H=>(cvc_v (F:=13) (xs:=Gj xs) H);rw [aD (by rw [s];simp),u a B,u b n];have D:(chn 13 (Gj xs)).getD 0 []=sqf 13 (Gj xs):=by rw [s];rfl
 rw [D,Yg8 n];have w:Er (Zb (sqf 13 (Gj xs)) (qv b))=0↔Zb (Gj xs) (qv b)=0:=⟨λe=>(j.zero _).1 (Zrt e),λe=>Zru ((j.zero _).2 e)⟩;by_cases f:Zb (Gj xs) (qv b)=0
 .rw [aF f,aF (w.2 f)];exact eW
 .rw [aD f,aD (λe=>f (w.1 e))];exact eW
theorem Zji(f:0<m.2):vlu (Nd xs) m=Er (Zb xs (qv m)):=by
 unfold vlu Nd;by_cases e:xs.length=0
 .have:xs=[]:=aG e;subst this;rfl
 .obtain⟨n,g⟩:∃n,xs.length=n+1:=⟨xs.length-1,O⟩;rw [g];unfold Ze3;rw [aD e,aD O8];exact Yg8 f xs
theorem Zyj(h:Cvd xs)(g:0<a.2)(w:0<b.2)(u:qv a<=qv b):ngb (Nd xs) (chx xs) a b=true↔Ycl xs (qv a) (qv b):=by
 unfold ngb;by_cases l:cmp a b=0
 .rw [aF l,Zji g,eW];have e:=(Zp9 g w).1 l;constructor
  .intro f;refine⟨qv a,iL,u,?_⟩;rcases Pf (Zb xs (qv a))with⟨s,j⟩|⟨s,j⟩|⟨s,j⟩
   .rw [j]at f;exact absurd f O3
   .exact s
   .rw [j]at f;exact absurd f O3
  .rintro⟨x,G,H,D⟩;have:x=qv a:=O4;rw [<-this,Zmw D];decide
 .rw [aD l];have B:qv a<qv b:=by have:=λe=>l ((Zp9 g w).2 e);grind
  by_cases n:xs=[]
  .subst n;constructor
   .intro f;exact absurd f (by show ¬(decide ((0:Int)<0) || false)=true;decide)
   .rintro⟨x,G,H,D⟩;exact absurd D (by show ¬(0:Rat)<0;grind)
  .obtain⟨F,I,P,Q,R⟩:=Zfw h n;rw [<-F.sem B,mM,eW,Ynm h n g w,show aft (Nd xs) a=Ep xs.length xs (qv a)from Ztn g _ _ (aI _)]
theorem Ztz(h:Cvd xs){m:Nat}(j:m<=100):Zcd xs m:=by refine .inr ?_;have g:=h.l;have l:=Pz h.s;have e:(xs.length+2)*(xs.length+2)<=13*13:=aY O O;have f:(xs.length+2)*(xs.length+2)*(Qz xs+m+2*(xs.length-1)+32)<=13*13*357:=aY e O;omega
theorem Znj(h:xs.length=0):Nd xs=[]:=by unfold Nd;rw [h];rfl
theorem Ynl(h:xs.length=0):chx xs=[]:=by unfold chx;rw [aF h]
theorem chx_ne(h:xs.length≠0):chx xs=chn 13 (Gj xs):=by unfold chx;rw [aD h]
theorem Znk:∀(n m:Nat) (p:List Int),p.length<=n->p.length<=m->Ze3 n p=Ze3 m p
 | 0,m,p,f,g=>by
  have e:p.length=0:=O;cases m with
  | zero=>rfl
  | succ m=>unfold Ze3;rw [aF e]
 | n+1,m,p,f,g=>by
  have h:=Nt p;cases m with
  | zero=>unfold Ze3;rw [aF O]
  | succ m=>
   unfold Ze3;by_cases e:p.length=0
   .rw [aF e,aF e]
   .rw [aD e,aD e,Znk n m (Xb p) O O]
theorem Yb8(h:p.length≠0):Nd p=p::Nd (Xb p):=by have f:=Nt p;unfold Nd;obtain⟨n,e⟩:∃n,p.length=n+1:=⟨p.length-1,O⟩;rw [e,show Ze3 (n+1) p=if p.length=0 then []else p::Ze3 n (Xb p)from rfl,aD h,Znk n (Xb p).length (Xb p) O (aI _)]
def Ab(M:Nat)(p:List Int):Prop:=∀i,(cf p i).natAbs<=M
def Ab.sz{n:Nat}(h:Ab M p)(e:M<2^n):Sz n p:=λi=>(Qt n _).2 (bC (h i) e)
def Ab.mono(h:Ab M p)(e:M<=N):Ab N p:=λi=>aB (h i) e
theorem Aa(h:Ab M p)(c:Int):Ab (M*c.natAbs) (Yk p c):=λi=>by rw [Qo,cH];exact aP _ (h i)
theorem Zrc{f:Nat->Int}{M n:Nat}(h:∀k,(f k).natAbs<=M)(e:∀k,n<=k->f k=0):∀m,(Yb f m).natAbs<=min m n*M
 | 0=>by show(0:Int).natAbs<=_;simp
 | m+1=>by
  have g:=Zrc h e m;rw [Yl];rcases aX m n with q|q
  .have:=h m;rw [show min (m+1) n=min m n+1 by omega,eN];omega
  .rw [e m q,bP,show min (m+1) n=min m n by omega];exact g
theorem Yjb{n:Nat}(e:Ab M p)(f:Ab N q)(h:p.length<=n):Ab (n*(M*N)) (Qr p q):=λi=>by
 rw [He,PS.mul_c];exact aB (Zrc (n:=n) (M:=M*N) (λk=>by rw [cH];exact aY (e k) (f (i-k))) (λk g=>by show cf p k*_=0;rw [Yo O,dC]) _) (aP _ (Nat.min_le_right _ _))
theorem ab_add(e:Ab M p)(f:Ab N q):Ab (M+N) (Zcl p q):=λi=>by rw [Zz6];have:=e i;have:=f i;omega
theorem ab_sub(e:Ab M p)(f:Ab N q):Ab (M+N) (Zbo p q):=λi=>by rw [Zby];have:=e i;have:=f i;omega
theorem ab_in(h:∀a∈c,Mw a):Ab (2^63) (tzl c):=λi=>by rw [Ik];obtain⟨e,f⟩:=Gz h i;show(c.getD i 0).natAbs<=_;omega
theorem Yl3{n:Nat}(e:p.length<=n)(f:q.length<=n):(Zcl p q).length<=n:=by unfold Zcl;refine aB (Hj _) ?_;rw [Yu];omega
theorem Yl2{n:Nat}(e:p.length<=n)(f:q.length<=n):(Zbo p q).length<=n:=by unfold Zbo;refine aB (Hj _) ?_;rw [Yu];omega
theorem Zyx{n m:Nat}(g:Tr p)(h:Tr q)(j:p.length<=n)(l:q.length<=m):(Qr p q).length<=n+m-1:=by
 by_cases e:p=[]
 .rw [e,Dh];exact bI _
 .by_cases f:q=[]
  .rw [f,Zev];exact bI _
  .have:=Ma g h e f;omega
def dN:Nat->List Int->List Int
 | 0,p=>p
 | n+1,p=>Xb (dN n p)
def axQ(o:Nat)(c:List Int):List Int:=Yk (dN o (tzl c)) (1000^o)
def sqQ(o:Nat)(c:List Int):List Int:=Qr (axQ o c) (axQ o c)
def sumQ(o:Nat)(x y z:List Int):Nat->List Int
 | 0=>[]
 | i+1=>Zcl (sumQ o x y z i) (sqQ o (Ye i x y z))
def kilo(o:Nat):Int:=Ar (List.replicate o 1000)
def timC(o:Nat)(m ov T:Int):Int:=Ar (m::ov::List.replicate o T)
def oneQ(o:Nat)(m ov T:Int):List Int:=Yk [1] (timC o m ov T)
def formP(o:Nat)(m ov T:Int)(x y z:List Int):List Int:=Yi (Zbo (Qr (oneQ o m ov T) (oneQ o m ov T)) (sumQ o x y z 3))
structure Sgo (fr to ov:Int) (x y z:List Int):Prop where
 t1:0<=fr
 t2:fr<to
 t3:to<=3600000
 o1:1<=ov
 o2:ov<=4294967296
 hx:∀a∈x,Mw a
 hy:∀a∈y,Mw a
 hz:∀a∈z,Mw a
 lx:1<=x.length/\x.length<=6
 ly:1<=y.length/\y.length<=6
 lz:1<=z.length/\z.length<=6
def Sgo.hc{fr e:Int}{x y:List Int}(h:Sgo fr e ov x y z)(i:Nat):∀a∈Ye i x y z,Mw a:=Ay h.hx h.hy h.hz i
def Sgo.lc{fr e:Int}{x y:List Int}(h:Sgo fr e ov x y z)(i:Nat):1<=(Ye i x y z).length/\(Ye i x y z).length<=6:=Bm (p:=λl:List Int=>1<=l.length/\l.length<=6) h.lx h.ly h.lz
theorem Sgo.of{fr j:Int}{x y:List Int}(B:∀a∈x,Mw a)(D:∀a∈y,Mw a)(F:∀a∈z,Mw a)(h:Zal fr j ov x y z=true):Sgo fr j ov x y z:=by unfold Zal Zut axB at h;simp only [aQ,cT]at h;obtain⟨⟨⟨⟨⟨⟨⟨⟨l,n⟩,s⟩,u⟩,w⟩,e⟩,f⟩,g⟩,-⟩:=h;exact⟨l,n,s,u,w,B,D,F,⟨e.1.1.1,e.1.1.2⟩,⟨f.1.1.1,f.1.1.2⟩,⟨g.1.1.1,g.1.1.2⟩⟩
def Mk:Nat->Nat
 | 0=>2^63
 | 1=>5*2^63
 | _=>4*(5*2^63)
theorem Zn2(h:c.length<=6):¬25<(tzl c).length:=by have:=Hj c;omega
def Lw(z:R2):Prop:=0<z.2/\Int.gcd z.1 z.2=1
theorem Zpc(e:0<y):Mp x y=(Int.gcd x y:Int):=by unfold Mp;rw [aD O]
theorem Yfu (x:Int)(e:0<y):Lw (x/Mp x y,y/Mp x y):=by have f:0<Int.gcd x y:=Int.gcd_pos_of_ne_zero_right _ O;rw [Zpc e];refine⟨Int.ediv_pos_of_pos_of_dvd e O (gE ..),?_⟩;exact Int.gcd_ediv_gcd_ediv_gcd f
theorem Zo6(e:0<a.2)(h:¬La a.1 a.2):Lw (slow a):=by obtain⟨f,g,-⟩:=Zap h;have:=Yfu a.1 e;unfold slow;rw [f,g];exact this
theorem Yft(h:Zef a b)(e:0<a.2)(f:0<b.2):Lw (Pk a b):=by obtain⟨j,l,-⟩:=Zap h.2;have g:0<Iq (a.1*b.2+b.1*a.2) (a.2*b.2)*2:=gL (Zo2 h.1 (gL e f)) O3;have:=Yfu (Ho (a.1*b.2+b.1*a.2) (a.2*b.2)*1) g;unfold Pk;rw [j,l];exact this
structure Hv (n Q j:Nat) (W:Rat) (a b:R2):Prop where
 hQ:0<Q
 hQ2:Q<2^(2*n)
 ea:En (2^n) Q j a
 eb:En (2^n) Q j b
 wd:(qv b-qv a)*((2^j:Nat):Rat)=W
 le:qv a<=qv b
 la:Lw a
 lb:Lw b
theorem Hv.start{n:Nat}(j:0<a.2)(l:0<b.2)(u:bl a.1.natAbs<=n)(G:bl a.2.natAbs<=n)(w:bl b.1.natAbs<=n)(H:bl b.2.natAbs<=n)(B:n<=65536)(s:qv a<=qv b):∃Q,Hv n Q 0 (qv b-qv a) (slow a) (slow b):=by
 obtain⟨W,Y,s3,Z,f⟩:=Zcc _ j u G B;obtain⟨t1,t2,t3,t4,t5⟩:=Zcc _ l w H B;have S:=(Qt n _).1 Z;have V:=(Qt n _).1 t4;have D:=Zon j (eU ((Qt n _).1 u));have F:=Zon l (eU ((Qt n _).1 w));have g:0<(slow a).2.natAbs*(slow b).2.natAbs:=fZ O O;have h:(slow a).2.natAbs*(slow b).2.natAbs<2^(2*n):=by rw [show 2*n=n+n by omega,bN];exact jD S (eU V) (bW O3)
 generalize R:(slow a).2.natAbs*(slow b).2.natAbs=Q at *;have e:((Q*2^0:Nat):Int)=(slow a).2*(slow b).2:=by rw [gX,jU,<-R];push_cast;rw [kP O,kP O]
 have I:En (2^n) Q 0 (slow a):=⟨Y,by rw [e];exact iZ _ _,by rw [f];exact D.1,by rw [f];exact D.2⟩;have P:En (2^n) Q 0 (slow b):=⟨t2,by rw [e];exact Int.dvd_mul_left _ _,by rw [t5];exact F.1,by rw [t5];exact F.2⟩;exact⟨Q,g,h,I,P,by rw [f,t5,gX];push_cast;grind,by rw [f,t5];exact s,Zo6 j W,Zo6 l t1⟩
theorem Hv.mid{n Q j B:Nat}{W:Rat}(h:Hv n Q j W a b)(Z:3*n+2+j<=B)(l:B<=65536) :
  Zef a b/\(bl (Pk a b).1.natAbs<=B/\bl (Pk a b).2.natAbs<=B/\0<(Pk a b).2)/\qv (Pk a b)=(qv a+qv b)/2/\(bl a.1.natAbs<=B/\bl a.2.natAbs<=B/\0<a.2)/\(bl b.1.natAbs<=B/\bl b.2.natAbs<=B/\0<b.2)/\
  Hv n Q (j+1) W a (Pk a b)/\Hv n Q (j+1) W (Pk a b) b:=by
 have e:∀m,m<=B->2^m<=2^B:=λm h=>dK O3 h;have g:Q*2^(j+1)<2^B:=by have:Q*2^(j+1)<2^(2*n)*2^(j+1):=eJ h.hQ2 (bW O3);rw [<-bN]at this;exact cZ this (e _ O)
 have s:2*2^n*(Q*2^j)<2^B:=by
  have H:Q*2^j<2^(2*n)*2^j:=eJ h.hQ2 (bW O3);have D:2*2^n*(Q*2^j)<2*2^n*(2^(2*n)*2^j):=jE H (fZ O3 (bW O3));have I:2*2^n*(2^(2*n)*2^j)=2^(3*n+1+j):=by rw [<-bN,<-nH,<-bN];congr 1;omega
  rw [I]at D;exact cZ D (e _ O)
 obtain⟨G,u,w,R,S⟩:=mid_en h.ea h.eb h.hQ g s l;obtain⟨V,Y⟩:=Yhj j 0 B h.ea h.hQ h.hQ2 O;obtain⟨r1,r2⟩:=Yhj j 0 B h.eb h.hQ h.hQ2 O;have f:=Yft G h.ea.pos h.eb.pos;have F:((2^(j+1):Nat):Rat)=2*((2^j:Nat):Rat):=by rw [cJ];push_cast;grind
 have P:=h.le;refine⟨G,⟨R,S,u.pos⟩,w,⟨V,Y,h.ea.pos⟩,⟨r1,r2,h.eb.pos⟩,⟨h.hQ,h.hQ2,h.ea.up,u,?_,O4,h.la,f⟩,⟨h.hQ,h.hQ2,u,h.eb.up,?_,O4,f,h.lb⟩⟩
 .rw [w,F,<-h.wd];grind
 .rw [w,F,<-h.wd];grind
def Yas{n:Nat}(h:Sz k p)(e:k<=n)(i:Nat):(cf p i).natAbs<=2^n:=aB (Zgx h i) (dK O3 e)
theorem Ykr(h:Cvd xs)(j:xs≠[]):Aj 13 xs/\∀u v:Rat,-((2^34:Nat):Rat)<=u->u<=v->v<=((2^34:Nat):Rat)->v-u<=1/((2^5000:Nat):Rat)->vch 13 xs u-vch 13 xs v<=1:=by
 have G:=h.l;obtain⟨l,e,D,F⟩:=chG 13 h.v.tr j h.s O O O;have g:=Zas e O;have f:∀n,n<=11->2<=n->Zxq (2^34) (2^225) n 5000=true:=O7;obtain⟨n,s⟩:∃n:Nat,n=225:=⟨_,rfl⟩;rw [<-s]at f;have g:Sz n (Xb (sqf 13 xs)):=by rw [s];exact g
 have B:∀i,(cf (sqf 13 xs) i).natAbs<=2^n:=λi=>Yas e O i;exact⟨l,λu v=>sep_of h.v.tr j l (bW O3) (A:=2^n) (bW O3) B (λi=>Zgx g i) (λw=>f _ O w) u v⟩
theorem Yba{j e w:Nat}{x W:Rat}(D:1/((2^(e+1):Nat):Rat)<x)(F:x*((2^j:Nat):Rat)=W)(G:W<=((2^w:Nat):Rat)):j<e+1+w:=by
 have g:=two_pow_pos (e+1);have h:=two_pow_pos j;rcases aX j (e+1+w)with q|q
 .exact q
 .exfalso;have hi:0<((2^(e+1):Nat):Rat)⁻¹:=gD.2 g;have f:((2^(e+1):Nat):Rat)*((2^(e+1):Nat):Rat)⁻¹=1:=lJ _ O4;have l:((2^(e+1):Nat):Rat)*((2^w:Nat):Rat)<=((2^j:Nat):Rat):=by
   have:2^(e+1)*2^w<=2^j:=by rw [<-bN];exact dK O3 q
   exact_mod_cast this
  have n:((2^(e+1):Nat):Rat)⁻¹<x:=O4;have s:=bB (show 0<x-((2^(e+1):Nat):Rat)⁻¹ by grind) h;have u:=aN (dG hi) (show 0<=((2^j:Nat):Rat)-((2^(e+1):Nat):Rat)*((2^w:Nat):Rat) by grind);have B:((2^(e+1):Nat):Rat)⁻¹*(((2^(e+1):Nat):Rat)*((2^w:Nat):Rat))=((2^w:Nat):Rat):=by rw [<-kJ,kE (((2^(e+1):Nat):Rat)⁻¹),f,oM]
  grind
structure NIn (xs:List Int) (s t:Rat) (j:Nat) (a b:R2):Prop where
 ex:∃Q W,Hv 34 Q j W a b/\W<=((2^34:Nat):Rat)
 lo:s<=qv a
 hi:qv b<=t
 l0:-((2^33:Nat):Rat)<=s
 h0:t<=((2^33:Nat):Rat)
 pa:0<=Zb xs (qv a)
 pb:0<=Zb xs (qv b)
 ng:Ycl xs (qv a) (qv b)
theorem rat34:((2^34:Nat):Rat)=2*((2^33:Nat):Rat)/\(1:Rat)<=((2^33:Nat):Rat):=by
 have h:∀n:Nat,((2^(n+1):Nat):Rat)=2*((2^n:Nat):Rat):=λn=>by rw [cJ];push_cast;grind
 constructor
 .exact h 33
 .exact_mod_cast (show 1<=2^33 by decide)
theorem NIn.j{hi:Rat}{j:Nat}(g:Cvd xs)(f:xs≠[])(h:NIn xs lo hi j a b):j<5035:=by obtain⟨Q,W,l,n⟩:=h.ex;obtain⟨u,hs⟩:=Ykr g f;obtain⟨H,I⟩:=rat34;have B:=h.lo;have D:=h.hi;have F:=h.l0;have G:=h.h0;have:=Ylp (Zfw g f).1 u (K:=2^34) (e:=5000) hs (s:=qv a) (t:=qv b) O4 O4 h.pa h.pb h.ng;exact Yba (e:=5000) (w:=34) this l.wd n
theorem NIn.start(e:0<a.2)(f:0<b.2)(j:bl a.1.natAbs<=32)(G:bl a.2.natAbs<=32)(l:bl b.1.natAbs<=32)(H:bl b.2.natAbs<=32)(g:qv a<=qv b)(w:0<=Zb xs (qv a))(B:0<=Zb xs (qv b))(u:Ycl xs (qv a) (qv b)) :
  NIn xs (qv a) (qv b) 0 (slow a) (slow b):=by
 obtain⟨Q,s⟩:=Hv.start (n:=34) e f O O O O O g;obtain⟨-,-,-,-,h⟩:=Zcc 34 e O O O;obtain⟨-,-,-,-,t5⟩:=Zcc 34 f O O O;have D:=Zon (K:=2^33) e (aB (eU ((Qt 32 _).1 j)) O3);have F:=Zon (K:=2^33) f (aB (eU ((Qt 32 _).1 l)) O3);obtain⟨I,P⟩:=rat34;exact⟨⟨Q,_,s,O4⟩,by rw [h];exact iL,by rw [t5];exact iL,D.1,F.2,by rw [h];exact w,by rw [t5];exact B,by rw [h,t5];exact u⟩
structure Fnd (xs:List Int) (s t:Rat) (m:R2):Prop where
 ng:Zb xs (qv m)<0
 lo:s<=qv m
 hi:qv m<=t
 b1:bl m.1.natAbs<=5200
 b2:bl m.2.natAbs<=5200
 lw:Lw m
theorem NIn.round{hi:Rat}{j:Nat}(G:Cvd xs)(S:xs≠[])(h:NIn xs lo hi j a b) :
  Zef a b/\(bl (Pk a b).1.natAbs<=5200/\bl (Pk a b).2.natAbs<=5200/\0<(Pk a b).2)/\(bl a.1.natAbs<=5200/\bl a.2.natAbs<=5200/\0<a.2)/\(bl b.1.natAbs<=5200/\bl b.2.natAbs<=5200/\0<b.2)/\
  (vlu (Nd xs) (Pk a b)<0->Fnd xs lo hi (Pk a b))/\(¬vlu (Nd xs) (Pk a b)<0->ngb (Nd xs) (chx xs) a (Pk a b)=true->NIn xs lo hi (j+1) a (Pk a b))/\
  (¬vlu (Nd xs) (Pk a b)<0->ngb (Nd xs) (chx xs) a (Pk a b)=false->NIn xs lo hi (j+1) (Pk a b) b):=by
 have hj:=h.j G S;obtain⟨Q,W,D,F⟩:=h.ex;obtain⟨I,s,m3,w,P,m6,m7⟩:=D.mid (B:=5200) O O;have V:=D.le;have Y:=h.lo;have Z:=h.hi;have H:=Zji (xs:=xs) s.2.2;have n:¬vlu (Nd xs) (Pk a b)<0->0<=Zb xs (qv (Pk a b)):=λe=>by
  rw [H]at e;rcases Pf (Zb xs (qv (Pk a b)))with⟨f,g⟩|⟨f,g⟩|⟨f,g⟩
  .exact dG f
  .rw [g]at e;exact absurd O3 e
  .rw [f];exact iL
 have l:=Zyj G w.2.2 s.2.2 (show qv a<=qv (Pk a b) by grind);refine⟨I,s,w,P,λe=>?_,λe u=>?_,λe u=>?_⟩
 .have:Zb xs (qv (Pk a b))<0:=by
   rw [H]at e;rcases Pf (Zb xs (qv (Pk a b)))with⟨f,g⟩|⟨f,g⟩|⟨f,g⟩
   .rw [g]at e;exact absurd e O3
   .exact f
   .rw [g]at e;exact absurd e O3
  exact⟨this,O4,O4,s.1,s.2.1,Yft I w.2.2 P.2.2⟩
 .exact⟨⟨Q,W,m6,F⟩,Y,O4,h.l0,h.h0,h.pa,n e,l.1 u⟩
 .refine⟨⟨Q,W,m7,F⟩,O4,Z,h.l0,h.h0,n e,h.pb,?_⟩;obtain⟨x,x1,x2,R⟩:=h.ng;rcases(show x<=qv (Pk a b)\/qv (Pk a b)<=x by grind)with q|q
  .have:=l.2 ⟨x,x1,q,R⟩;rw [u]at this;exact absurd this O3
  .exact⟨x,q,x2,R⟩
def frs(xs:List Int):Nat->R2->R2->R2×R2
 | 0,a,b=>(a,b)
 | n+1,a,b=>if ngb (Nd xs) (chx xs) a (Pk a b)then frs xs n a (Pk a b)else frs xs n (Pk a b) b
structure E32 (a:R2):Prop where
 p:0<a.2
 b1:bl a.1.natAbs<=32
 b2:bl a.2.natAbs<=32
theorem E32.slow(h:E32 a):E32 (slow a)/\qv (Go.Sky.slow a)=qv a/\Lw (Go.Sky.slow a)/\¬La a.1 a.2:=by obtain⟨e,f,g,j,l⟩:=Zcc 32 h.p h.b1 h.b2 O;exact⟨⟨f,g,j⟩,l,Zo6 h.p e,e⟩
theorem Zij(g:0<m.2):vlu (Nd xs) m<0↔Zb xs (qv m)<0:=by
 rw [Zji g];rcases Pf (Zb xs (qv m))with⟨f,e⟩|⟨f,e⟩|⟨f,e⟩
 .rw [e];constructor
  .intro h;exact absurd h O3
  .intro h;grind
 .rw [e];exact⟨λ_=>f,λ_=>O3⟩
 .rw [e,f];constructor
  .intro h;exact absurd h O3
  .intro h;grind
theorem end_l(l:E32 a)(e:qv a<=qv b)(h:vlu (Nd xs) (slow a)<0):Fnd xs (qv a) (qv b) (slow a):=by obtain⟨f,g,n,s⟩:=l.slow;have j:=(Zij f.p).1 h;exact⟨j,by rw [g];exact iL,by rw [g];exact e,aB f.b1 O3,aB f.b2 O3,n⟩
theorem end_r(l:E32 b)(e:qv a<=qv b)(h:vlu (Nd xs) (slow b)<0):Fnd xs (qv a) (qv b) (slow b):=by obtain⟨f,g,n,s⟩:=l.slow;have j:=(Zij f.p).1 h;exact⟨j,by rw [g];exact e,by rw [g];exact iL,aB f.b1 O3,aB f.b2 O3,n⟩
theorem Ybf(n:Cvd xs)(f:E32 a)(g:E32 b)(h:qv a<=qv b)(j:¬vlu (Nd xs) (slow a)<0)(l:¬vlu (Nd xs) (slow b)<0)(s:ngb (Nd xs) (chx xs) a b=true) :
  NIn xs (qv a) (qv b) 0 (slow a) (slow b):=by
 obtain⟨B,D,F,G⟩:=f.slow;obtain⟨t1,t2,t3,t4⟩:=g.slow;have u:¬Zb xs (qv (slow a))<0:=λe=>j ((Zij B.p).2 e);have w:¬Zb xs (qv (slow b))<0:=λe=>l ((Zij t1.p).2 e);rw [D]at u;rw [t2]at w;exact NIn.start f.p g.p f.b1 f.b2 g.b1 g.b2 h O4 O4 ((Zyj n f.p g.p h).1 s)
theorem ngb_ne(h:ngb (Nd xs) (chx xs) a b=true):xs≠[]:=λe=>by
 subst e;unfold ngb at h;split at h
 .exact absurd h (by show ¬decide ((0:Int)<0)=true;decide)
 .exact absurd h (by show ¬(decide ((0:Int)<0) || false)=true;decide)
theorem E32.efit(h:E32 a):efit a=true:=by have:=h.b1;have:=h.b2;unfold Go.Sky.efit;exact aJ O
structure FIn (xs:List Int) (j:Nat) (a b:R2):Prop where
 ex:∃Q W,Hv 34 Q j W a b
 bj:j<=200
theorem FIn.start(e:E32 a)(f:E32 b)(g:qv a<=qv b):FIn xs 0 (slow a) (slow b):=by obtain⟨Q,h⟩:=Hv.start (n:=34) e.p f.p (aB e.b1 O3) (aB e.b2 O3) (aB f.b1 O3) (aB f.b2 O3) O g;exact⟨⟨Q,_,h⟩,O⟩
theorem FIn.round{j:Nat}(h:FIn xs j a b) :
  Zef a b/\(bl (Pk a b).1.natAbs<=5200/\bl (Pk a b).2.natAbs<=5200/\0<(Pk a b).2)/\(bl a.1.natAbs<=5200/\bl a.2.natAbs<=5200/\0<a.2)/\(bl b.1.natAbs<=5200/\bl b.2.natAbs<=5200/\0<b.2)/\
  (j<200->FIn xs (j+1) a (Pk a b)/\FIn xs (j+1) (Pk a b) b):=by
 obtain⟨Q,W,e⟩:=h.ex;have D:=h.bj;obtain⟨g,l,F,n,s,u,w⟩:=e.mid (B:=5200) O O;exact⟨g,l,n,s,λf=>⟨⟨⟨Q,W,u⟩,O⟩,⟨⟨Q,W,w⟩,O⟩⟩⟩
theorem Ylo(g:E32 a)(j:E32 b)(f:qv a<=qv b)(hi:i<2)(h:vlu (Nd xs) ([slow a,slow b].getD i (0,0))<0):Fnd xs (qv a) (qv b) ([slow a,slow b].getD i (0,0)):=by
 rcases(show i=0\/i=1 by omega)with e|e
 .subst e;exact end_l g f h
 .subst e;exact end_r j f h
theorem Ym0(f:E32 a)(g:E32 b)(i:Nat)(hi:i<2):E32 ([slow a,slow b].getD i (0,0)):=by
 rcases(show i=0\/i=1 by omega)with e|e
 .subst e;exact f.slow.1
 .subst e;exact g.slow.1
def Ynh(e:E32 a)(f:E32 b)(h:¬0<cmp a b):qv a<=qv b:=(Yng e.p f.p).1 O
def Zh7:E32 (0,1):=⟨O3,O3,O3⟩
def Zh6:E32 (1,1):=⟨O3,O3,O3⟩
def Zh9:¬0<cmp (0,1) (1,1):=O7
def Zd6(xs:List Int):Bool:=ngb (Nd xs) (chx xs) (0,1) (1,1)
def slS(d:List Int):Nat->Int
 | 0=>0
 | k+1=>slS d k+Ar [d.getD k 0,(k:Int)+1]
def fsS(d:List Int)(k:Nat):Int:=if k=0 then 0 else d.getD 0 0
def qr(a b:Int):R2:=(Ho a b,Iq a b)
def bgS(c:List Int):Int:=fsS (c.drop 1) (c.drop 1).length
def enS(c:List Int):Int:=slS (c.drop 1) (c.drop 1).length
def bS(ov T:Int)(x y z:List Int):Nat->List R2
 | 0=>List.replicate 3 (0,0)
 | i+1=>(bS ov T x y z i).set i (qr (bgS (Ye i x y z)) (Ar [ov,T]))
def eS(ov T:Int)(x y z:List Int):Nat->List R2
 | 0=>List.replicate 3 (0,0)
 | i+1=>(eS ov T x y z i).set i (qr (enS (Ye i x y z)) (Ar [ov,T]))
def joinB(fr h ov:Int)(x y z:List Int)(e g f:Int)(j l n:List Int):Bool:=
 decide (qr (bgS j) (Ar [f,g-e])=qr (enS x) (Ar [ov,h-fr])/\qr (bgS l) (Ar [f,g-e])=qr (enS y) (Ar [ov,h-fr])/\qr (bgS n) (Ar [f,g-e])=qr (enS z) (Ar [ov,h-fr]))
def plT(c:List Int)(a d:Int)(k:Nat):Int:=c.getD k 0*(a^k*d^(5-(k:Int)).toNat)
def plS(c:List Int)(a d:Int):Nat->Int
 | 0=>0
 | k+1=>plS c a d k+plT c a d k
def pl(c:List Int)(a d:Int):Int:=plS c a d c.length
def atS(a d:Int)(x y z:List Int):Nat->List Int
 | 0=>List.replicate 3 0
 | i+1=>(atS a d x y z i).set i (pl (Ye i x y z) a d)
def gS(ov a d:Int)(x y z:List Int):Nat->Int
 | 0=>ov*d^5
 | i+1=>(Int.gcd (gS ov a d x y z i) (pl (Ye i x y z) a d):Int)
abbrev plV (p q r o:Int):Value:= .agg #[.bool (decide (p<0)),.string (Xo p.natAbs),.bool (decide (q<0)),.string (Xo q.natAbs),.bool (decide (r<0)),.string (Xo r.natAbs),.bool (decide (o<0)),.string (Xo o.natAbs)]
theorem Cx(a d:Int)(x y z:List Int):∀i,(atS a d x y z i).length=3
 | 0=>rfl
 | i+1=>by show(List.set _ _ _).length=3;rw [bX];exact Cx a d x y z i
theorem Yi2(a d:Int)(x y z:List Int)(h:i<3):atS a d x y z i=(atS a d x y z i).set i 0:=by
 match i,h with
 | 0,_=>rfl
 | 1,_=>rfl
 | 2,_=>rfl
theorem Zrp{l:List Int}{v:Int}(h:i<l.length):(l.set i v).getD i 0=v:=by rw [aE,List.getElem?_set_self h];rfl
theorem Zx2(h:∀x∈c,Mw x){a:Int}(j:0<=a/\a<=3600000)(l:1<=d/\d<=3600000)(n:k<=5):(a^k*d^(5-(k:Int)).toNat).natAbs<=3600000^5/\(plT c a d k).natAbs<=9223372036854775808*3600000^5:=by
 have e:(a^k*d^(5-(k:Int)).toNat).natAbs<=3600000^5:=by rw [cH,lK,lK];refine aB (aY (gI (show a.natAbs<=3600000 by omega) k) (gI (show d.natAbs<=3600000 by omega) _)) ?_;rw [<-bN,show k+(5-(k:Int)).toNat=5 by omega];exact aI _
 obtain⟨f,g⟩:=Gz h k;refine⟨e,?_⟩;unfold plT;rw [cH];exact aY O e
theorem Zx4{c:List Int}(h:∀x∈c,Mw x){a d:Int}(e:0<=a/\a<=3600000)(f:1<=d/\d<=3600000):∀k,k<=6->(plS c a d k).natAbs<=k*(9223372036854775808*3600000^5)
 | 0,_=>by show(0:Int).natAbs<=_;decide
 | k+1,g=>by have j:=Zx4 h e f k O;have:=(Zx2 h e f (k:=k) O).2;show(plS c a d k+plT c a d k).natAbs<=_;rw [eN];omega
def Zhp(h:∀x∈c,Mw x){a:Int}(f:0<=a/\a<=3600000)(g:1<=d/\d<=3600000)(e:k<=6):bl (plS c a d k).natAbs<=180:=
 (Qt 180 _).2 (bC (Zx4 h f g k e) (bC (aP _ e) O3))
theorem Yim(h:∀x∈c,Mw x){a:Int}(g:0<=a/\a<=3600000)(j:1<=d/\d<=3600000)(l:k<=5):bl (a^k*d^(5-(k:Int)).toNat).natAbs<=180/\bl (plT c a d k).natAbs<=180:=by obtain⟨e,f⟩:=Zx2 h g j l;exact⟨(Qt 180 _).2 (bC e O3),(Qt 180 _).2 (bC f O3)⟩
theorem Zwq (a:Int)(f:0<=a/\a<=3600000)(e:k<=5):bl (a^k).natAbs<=180:=by refine(Qt 180 _).2 ?_;rw [lK];exact bC (aB (gI (show a.natAbs<=3600000 by omega) k) (dK O3 e)) O3
theorem Zy5{fr l ov:Int}{x y z:List Int}(h:Sgo fr l ov x y z){a d:Int}(e:0<=a/\a<=3600000)(f:1<=d/\d<=3600000):∀i,0<gS ov a d x y z i/\bl (gS ov a d x y z i).natAbs<=180
 | 0=>by have g:=h.o1;have j:=h.o2;refine⟨gL O (jT O),(Qt 180 _).2 ?_⟩;show(ov*d^5).natAbs<_;rw [cH,lK];exact bC (aY (show ov.natAbs<=4294967296 by omega) (gI (show d.natAbs<=3600000 by omega) 5)) O3
 | i+1=>by obtain⟨g,j⟩:=Zy5 h e f i;have n:0<Int.gcd (gS ov a d x y z i) (pl (Ye i x y z) a d):=Int.gcd_pos_of_ne_zero_left _ O;have s:=Zql (gS ov a d x y z i) (pl (Ye i x y z) a d);have u:bl (pl (Ye i x y z) a d).natAbs<=180:=Zhp (h.hc i) e f (h.lc i).2;show 0<((Int.gcd _ _:Nat):Int)/\bl ((Int.gcd _ _:Nat):Int).natAbs<=180;exact⟨O,O⟩
def sameP(ov a d:Int)(x y z:List Int)(e g f:Int)(h j l:List Int):Bool:=
 decide (pl x a d/gS ov a d x y z 3=pl h g f/gS e g f h j l 3/\pl y a d/gS ov a d x y z 3=pl j g f/gS e g f h j l 3/\pl z a d/gS ov a d x y z 3=pl l g f/gS e g f h j l 3/\ov*d^5/gS ov a d x y z 3=e*f^5/gS e g f h j l 3)
def Zkv(g ov:Int)(x y z:List Int)(e f:Int)(h j l:List Int):Bool:=decide (g=e) && sameP ov 1 1 x y z f 0 1 h j l
structure Gin (g:Ze):Prop where
 f:Mw g.1.1
 t:Mw g.1.2.1
 o:Mw g.1.2.2
 x:∀a∈g.2.1.2,Mw a
 y:∀a∈g.2.2.1.2,Mw a
 z:∀a∈g.2.2.2.2,Mw a
def seB(g:Ze):Bool:=Zal g.1.1 g.1.2.1 g.1.2.2 g.2.1.2 g.2.2.1.2 g.2.2.2.2
def meG(g h:Ze):Bool:=Zkv g.1.2.1 g.1.2.2 g.2.1.2 g.2.2.1.2 g.2.2.2.2 h.1.1 h.1.2.2 h.2.1.2 h.2.2.1.2 h.2.2.2.2
abbrev SgG (g:Ze):Prop:=Sgo g.1.1 g.1.2.1 g.1.2.2 g.2.1.2 g.2.2.1.2 g.2.2.2.2
def Ig{g:Ze}(h:Gin g)(e:seB g=true):SgG g:=Sgo.of h.x h.y h.z e
def Zd4(ps:List Ze)(i:Nat):Bool:=seB (ps.getD i G0) && (decide (i=0) || meG (ps.getD (i-1) G0) (ps.getD i G0))
def Xn(ps:List Ze):Bool:=(List.range ps.length).all (Zd4 ps) && decide (1<=ps.length) && decide (ps.length<=256)
theorem Cv{ps:List Ze}(h:Zd4 ps i=true):seB (ps.getD i G0)=true:=by unfold Zd4 at h;rw [aQ]at h;exact h.1
theorem okAt_s{ps:List Ze}(h:seB (ps.getD i G0)=false):Zd4 ps i=false:=by unfold Zd4;rw [h];rfl
theorem Zvg{ps:List Ze}(h:seB (ps.getD i G0)=true)(e:i=0):Zd4 ps i=true:=by unfold Zd4;rw [h,aJ e];rfl
theorem Zki{ps:List Ze}(h:seB (ps.getD i G0)=true)(e:0<i):Zd4 ps i=meG (ps.getD (i-1) G0) (ps.getD i G0):=by unfold Zd4;rw [h,aK O];rfl
theorem Zx8 (i:Nat){ps:List Ze}(hi:i<ps.length)(h:Zd4 ps i=false):Xn ps=false:=by
 unfold Xn;have:(List.range ps.length).all (Zd4 ps)=false:=by
  cases hb:(List.range ps.length).all (Zd4 ps)with
  | false=>rfl
  | true=>have:=bF.1 hb i (dA.2 hi);rw [h]at this;cases this
 rw [this];rfl
theorem Zov{ps:List Ze}(h:∀i,i<ps.length->Zd4 ps i=true):Xn ps=decide (1<=ps.length/\ps.length<=256):=by unfold Xn;rw [bF.2 λi hi=>h i (dA.1 hi)];simp
theorem Ya3(g:Ze)(i:Nat):seB g=false\/(seB g=true/\i=0)\/(seB g=true/\0<i):=by
 cases seB g
 .exact .inl rfl
 .exact .inr (by rcases aV i with h|h;exact .inl ⟨rfl,h⟩;exact .inr ⟨rfl,h⟩)
theorem Oi{ps:List Ze}(h:Xn ps=true):(∀i,i<ps.length->Zd4 ps i=true)/\1<=ps.length/\ps.length<=256:=by unfold Xn at h;simp only [aQ,cT]at h;exact⟨λi hi=>bF.1 h.1.1 i (dA.2 hi),h.1.2,h.2⟩
open Go.ChangeShapes Go.WideShapes Go.ChangeAt Go.RowKit Go.Joins Go.Deep
open Go.Proofs
variable {P:Program} {W:World} {H:Type} {enc:TypeId×Value->H}
theorem Zhg{n:Int}(h:(Lit.int .i64 n).wf=true):Mw n:=by simp [Lit.wf,IntKind.has,IntKind.min,IntKind.max,IntKind.bits,IntKind.signed]at h;exact⟨O,O⟩
theorem Ycd{w:World}{a:Addr}(h:w.cell? a=some v):a.spot=none/\a.block<w.heap.size:=by
 unfold World.cell? at h;split at h
 .rename_i c t f e;refine⟨?_,(aO.1 e).1⟩;cases hs:a.spot with
  | none=>rfl
  | some x=>rw [hs]at h;simp at h
 .cases h
theorem Zg9{t e:TypeId}{c:Value}{x:DataW H×List MemPlace}(hs:P.underlying t=some (.slice e))(he:P.underlying e=some (.int .i64))(hc:P.cellsOf e=1)(h:DataW.trod enc P W 0 (λ_=>true) true fuel t [c]=some x) :
  ∃(s:SL) (l:List Int),c=Xp s/\(Yt 1 Xf (Xp s) l).holds W/\∀a∈l,Mw a:=by
 rcases open_ints hs he hc h with⟨F,_⟩|⟨a,f,n,zs,F,_,hl,hm,hz,_,w,a1⟩
 .cases F;exact⟨(none,0,0),[],rfl,Bg 1 Xf W,λx S=>by cases S⟩
 .cases F;have a2:zs.length=n:=by simpa using hz
  have G:(zs.take f).length=f:=by rw [aS];omega
  by_cases hn:f=0
  .subst hn;exact⟨(some a,0,n),[],rfl,⟨⟨some a,n,rfl,hl,hm,.inl rfl⟩,λb V=>absurd rfl V.1⟩,λx S=>by cases S⟩
  .have c0:=w 0 O;obtain⟨g,B,D⟩:=a;rw [show(⟨g,B,D⟩:Addr).add 0=⟨g,B,D⟩from rfl]at c0;obtain⟨R,Q⟩:=Ycd c0;simp only at R Q;subst R;refine⟨(some ⟨g,B,none⟩,f,n),zs.take f,rfl,⟨⟨some ⟨g,B,none⟩,n,by rw [G],by rw [G];exact hl,hm,.inr ⟨g,B,rfl,λi x hi j u Z=>?_⟩⟩,λb V=>by cases V.2;exact Q⟩,λx S=>?_⟩
   .have Y:i<f:=by
     rcases aX i f with h|h
     .exact h
     .rw [bQ (by rw [G];exact h)]at hi;cases hi
    have a0:j=0:=by
     rcases j with _|j
     .rfl
     .simp [Value.cells]at Z
    subst a0;have I:=w i O;rw [Px]at I;rw [lZ Y]at hi;rw [aE,hi]at I;simp [Value.cells]at Z;subst Z;simpa using I
   .have I:=a1 x (fP S);have h3:=bounds_i64 I;exact⟨O,O⟩
theorem Ya2 {t e:TypeId} {f0 f1 f2 f3 f4 f5:Field} {cs:List Value}  {x:DataW H×List MemPlace} (ht:P.underlying t=some (.struct #[f0,f1,f2,f3,f4,f5]))
  (h0:f0.type=ti) (h1:f1.type=ti) (h2:f2.type=ti) (h3:f3.type=ts) (h4:f4.type=ts) (h5:f5.type=ts) (o0:f0.offset=0) (o1:f1.offset=1) (o2:f2.offset=2) (o3:f3.offset=3) (o4:f4.offset=4) (o5:f5.offset=5)
  (hi:P.underlying ti=some (.int .i64)) (hs:P.underlying ts=some (.slice e)) (B:P.underlying e=some (.int .i64)) (w:P.cellsOf e=1) (j:P.cellsOf ti=1) (l:P.cellsOf ts=1) (hC:P.cellsOf t=6)
  (h:DataW.trod enc P W 0 (λ_=>true) true fuel t cs=some x):∃g:Ze,cs=[.int .i64 g.1.1,.int .i64 g.1.2.1,.int .i64 g.1.2.2,Xp g.2.1.1,Xp g.2.2.1.1,Xp g.2.2.2.1]/\(qG g).holds W/\Gin g:=by
 obtain⟨xs,n,_,hx,hl,s,f⟩:=DataW.trod_struct ht h;rw [hC]at hl
 match cs,hl with
 | [c0,c1,c2,c3,c4,c5],_=>
 match xs,s with
 | [y0,y1,y2,y3,y4,y5],_=>
 have S:=f 0 f0 rfl;have V:=f 1 f1 rfl;have Y:=f 2 f2 rfl;have Z:=f 3 f3 rfl;have e4:=f 4 f4 rfl;have e5:=f 5 f5 rfl;rw [h0,o0,j]at S;rw [h1,o1,j]at V;rw [h2,o2,j]at Y;rw [h3,o3,l]at Z;rw [h4,o4,l]at e4;rw [h5,o5,l]at e5;obtain⟨m0,q0,w0⟩:=DataW.trod_int hi S;obtain⟨m1,q1,w1⟩:=DataW.trod_int hi V;obtain⟨m2,q2,w2⟩:=DataW.trod_int hi Y;obtain⟨sx,x,rfl,D,F⟩:=Zg9 (enc:=enc) hs B w (c:=c3) (x:=y3) Z;obtain⟨sy,y,rfl,G,I⟩:=Zg9 (enc:=enc) hs B w (c:=c4) (x:=y4) e4;obtain⟨sz,z,rfl,Q,R⟩:=Zg9 (enc:=enc) hs B w (c:=c5) (x:=y5) e5;simp at q0 q1 q2;subst q0;subst q1;subst q2;exact⟨((m0,m1,m2),(sx,x),(sy,y),(sz,z)),rfl,λu hu=>by
  simp only [aZ,dJ,gG]at hu;rcases hu with rfl|rfl|rfl
  .exact D
  .exact G
  .exact Q,⟨Zhg w0.2,Zhg w1.2,Zhg w2.2,F,I,R⟩⟩
theorem Ybc {t0 t e:TypeId} {f0 f1 f2 f3 f4 f5:Field}  {d:DataW H} {p:List MemPlace} (l:P.underlying t0=some (.slice t)) (ht:P.underlying t=some (.struct #[f0,f1,f2,f3,f4,f5]))
  (h0:f0.type=ti) (h1:f1.type=ti) (h2:f2.type=ti) (h3:f3.type=ts) (h4:f4.type=ts) (h5:f5.type=ts) (o0:f0.offset=0) (o1:f1.offset=1) (o2:f2.offset=2) (o3:f3.offset=3) (o4:f4.offset=4) (o5:f5.offset=5)
  (hi:P.underlying ti=some (.int .i64)) (hs:P.underlying ts=some (.slice e)) (he:P.underlying e=some (.int .i64)) (hc:P.cellsOf e=1) (S:P.cellsOf ti=1) (V:P.cellsOf ts=1) (hC:P.cellsOf t=6)
  {r:Reach} {b0:Nat} (hv:Value.okWide P W r b0 t0 v) (h:DataW.Trod enc P W 0 (λ_=>true) true t0 v d p):∃ps:List Ze,(Qj 6 Of qG v ps).holds W/\∀g∈ps,Gin g:=by
 obtain⟨a0,Q,a7,rfl⟩:=okWide_slice l hv;obtain⟨fuel,hf⟩:=h;rcases open_slice l hf with⟨F,_⟩|⟨a,a5,a4,m,n,D,Pl,F,_,hl,hm,B,hx,Y⟩
 .simp [Value.cells]at F;obtain⟨rfl,rfl,rfl⟩:=F;exact⟨[],⟨Bg 6 Of W,λz hz=>by cases hz⟩,λg w=>by cases w⟩
 .simp [Value.cells]at F;obtain⟨rfl,rfl,rfl⟩:=F;simp at B;subst B
  haveI:Inhabited Ze:=⟨G0⟩
  obtain⟨xs,a2,I⟩:=Zia (p:=λi (g:Ze)=>W.cells? 0 (a.add (i*6)) 6=some [.int .i64 g.1.1,.int .i64 g.1.2.1,.int .i64 g.1.2.2,Xp g.2.1.1,Xp g.2.2.1.1,Xp g.2.2.2.1]/\(qG g).holds W/\Gin g) Q λi f=>by obtain⟨a8,k2,k3⟩:=Y i O;rw [hC]at k2;obtain⟨g,rfl,k4,k5⟩:=Ya2 ht h0 h1 h2 h3 h4 h5 o0 o1 o2 o3 o4 o5 hi hs he hc S V hC k3;exact⟨g,k2,k4,k5⟩
  have s:∀g∈xs,(qG g).holds W/\Gin g:=λg w=>by obtain⟨i,f,rfl⟩:=kV w;exact(I i _ (aM f)).2
  refine⟨xs,⟨⟨⟨some a,m,by rw [a2],O,hm,?_⟩,λb hb=>?_⟩,λg w=>(s g w).1⟩,λg w=>(s g w).2⟩
  .rcases aV Q with hz|hz
   .exact .inl (aG O)
   .right;obtain⟨g,a3,a6⟩:=a;obtain⟨G,_⟩:=Zkh l hv;simp only at G;subst G;refine⟨g,a3,rfl,λi x f j u Z=>?_⟩;obtain⟨_,_,R⟩:=World.cells?_some (I i x f).1;have a1:j<6:=by
     rcases aX j 6 with h|h
     .exact h
     .rw [bQ (by simp [Value.cells];omega)]at Z;cases Z
    have:=R j a1;simp only [Px]at this;rw [this];simpa [Value.cells]using Z
  .cases hb.2;exact(Zkh l hv).2
end Go.Sky
namespace Go.Sky
open Go.ChangeShapes Go.WideShapes Go.ChangeAt Go.RowKit Go.Joins Go.Deep
open Go.Proofs
variable {P:Program} {W:World} {H:Type} {enc:TypeId×Value->H}
theorem Zve {t ti:TypeId} {f0 f1 f2:Field} {v:Value} {d:DataW H} {p:List MemPlace} (q:P.underlying t=some (.struct #[f0,f1,f2])) (F:P.cellsOf t=3) (z:f0.type=ti) (B:f1.type=ti) (D:f2.type=ti) (R:f0.offset=0) (S:f1.offset=1) (V:f2.offset=2)
  (hi:P.underlying ti=some (.int .i64)) (f:P.cellsOf ti=1) {r:Reach} {x:Nat} (I:Value.okWide P W r x t v) (h:DataW.Trod enc P W 0 (λ_=>true) true t v d p):∃a b c:Int,v= .agg #[.int .i64 a,.int .i64 b,.int .i64 c]/\Mw a/\Mw b/\Mw c:=by
 obtain⟨y,rfl,e⟩:=okWide_struct q I;obtain⟨o,G⟩:=h;obtain⟨xs,n,_,hx,hl,i,g⟩:=DataW.trod_struct q G;rw [F]at e;obtain⟨l⟩:=y;have e:l.length=3:=by simpa using e
 match l,e with
 | [c0,c1,c2],_=>
 match xs,i with
 | [y0,y1,y2],_=>
 have j:=g 0 f0 rfl;have k:=g 1 f1 rfl;have m:=g 2 f2 rfl;rw [z,R,f]at j;rw [B,S,f]at k;rw [D,V,f]at m;obtain⟨M,s,Y⟩:=DataW.trod_int hi j;obtain⟨N,u,Z⟩:=DataW.trod_int hi k;obtain⟨Q,w,w2⟩:=DataW.trod_int hi m;simp [Value.cells]at s u w;subst s;subst u;subst w;exact⟨M,N,Q,rfl,Zhg Y.2,Zhg Z.2,Zhg w2.2⟩
end Go.Sky
namespace Go.Sky
open Go.RowKit Below
variable {P:Program} {N:Nat} {sc:Nat->Prop} {env env':Qi} {H H':Hp} {Q Q':Exit->Act->World->Prop}
def Yed{n:Nat}{a:String}{args:Array Value}{w:World}{R:Value->World->Prop}(h:Rows P a args w R):RowsIn Fence.wide n P a args w R:=λc b _=>
 let ⟨v,w',r,s⟩:=h c b;⟨v,w',r,stepsIn_wide.2 s⟩
def noQ:Exit->Act->World->Prop:=λ_ _ _=>False
section
variable {ops:Array Oper} {C:World->World->Prop}
def wpAnyZ(P:Program)(ops:Array Oper)(ts:List Nat)(C:World->World->Prop)(Q:Exit->Act->World->Prop):Nat->Array Bool->Act->World->Prop
 | 0,_,_,_=>False
 | c+1,b,a,w=>if Fc ops ts b=true then wpAnyIn Fence.wide 0 P .any ops Q (c+1) b a w else
  (Region.ready .any ops b=[]->False)/\
  ∀i∈Region.ready .any ops b,wpOp P ops noQ i (λe d=>C w d/\wpAnyZ P ops ts C Q c (b.setIfInBounds i true) e d) a w
inductive Dep (ops:Array Oper) (i:Nat):Nat->Prop
 | base {j:Nat} {o:Oper} {e:Edge} : ops[j]? = some o->e∈o.after->Region.binds .any e=true->e.on=i->Dep ops i j
 | step {j:Nat} {o:Oper} {e:Edge} : ops[j]? = some o->e∈o.after->Region.binds .any e=true->Dep ops i e.on->Dep ops i j
def Yhs(ops:Array Oper)(i:Nat):Nat->List Nat
 | 0=>[]
 | k+1=>match ops[k]? with
  | some o=>if o.after.any (λe=>Region.binds .any e && (e.on == i || (Yhs ops i k).contains e.on))then k::Yhs ops i k else Yhs ops i k
  | none=>Yhs ops i k
def Clo(ops:Array Oper)(a:Array Bool):Prop:=∀k o,ops[k]? = some o->a.getD k true=true->∀e∈o.after,Region.binds .any e=true->a.getD e.on true=true
theorem Ymh{l:Array Bool}{x:Nat}(h:l.getD x false=true):l.getD x true=true:=by rcases aX x l.size with a|a<;>simp_all
theorem Clo.set{a:Array Bool}{j:Nat}(n:Clo ops a)(p:j∈Region.ready .any ops a):Clo ops (a.setIfInBounds j true):=λk o f m e l i=>by
 obtain⟨q,r,g,b⟩:=mem_ready.1 p;have h:a.getD e.on true=true:=by
  by_cases d:j=k
  .subst d;rw [g]at f;cases f;exact Ymh (b _ l i)
  .rw [getD_set_ne true d]at m;exact n k o f m e l i
 by_cases c:j=e.on
 .subst c;by_cases hs:e.on<a.size<;>simp_all
 .rw [getD_set_ne true c];exact h
end
def Zx1(ops:Array Oper)(ts:List Nat):List (Nat×Nat)->Array Bool->Bool
 | [],_=>true
 | (i,1)::rest,listed=>(Region.ready .any ops listed == [i]) && !(Fc ops ts listed) && Zx1 ops ts rest (listed.setIfInBounds i true)
 | (i,3)::rest,listed=>false
 | (i,_)::rest,listed=>(Region.ready .any ops listed).contains i && Region.free .any ops listed i && !(ts.contains i) && ts.all (λj=>(Yhs ops i ops.size).contains j) && Zx1 ops ts rest (listed.setIfInBounds i true)
def YL(P:Program)(N:Nat)(sc:Nat->Prop)(ops:Array Oper)(Q:Exit->Act->World->Prop)(k:Nat)(b:Array Bool)(env:Qi)(H:Hp):Prop:=
 ∀a w,Sat N sc env H a w->wpAnyIn Fence.wide 0 P .any ops Q (k+1) b a w
end Go.Sky
namespace Go.Sky
open Go.RowKit Below
variable {P:Program} {N:Nat} {sc:Nat->Prop} {env env':Qi} {H H':Hp} {Q Q':Exit->Act->World->Prop}
def CalY(P:Program)(f:FuncId)(d:List Value)(pre:List Pc)(i:Prop){G:Type}(j:G->Prop)(h:G->Value):Prop:=
 ∀(l:Nat) (J:World->Prop) (w:World),(∀p∈pre,p.holds w)->
  (∀g,j g->∀a,Below w.heap.size w a->YieldAt Fence.wide 0 P l #[h g] a λe c=>e= .returned (.bool false)/\J c)->
  Calls P f (.func (.yield l) #[] #[]::d).toArray w λe b=>(∃v,e= .returned v)/\((i/\Below w.heap.size w b)\/J b)
def FPostY(P:Program)(fn:Func)(w0:World)(b:Prop)(J:World->Prop):Exit->Act->World->Prop:=
 bodyPost P fn λe a=>(∃v,e= .returned v)/\((b/\Below w0.heap.size w0 a)\/J a)
def YJ(P:Program)(w0:World)(l:Nat){G:Type}(d:G->Prop)(c:G->Value)(J:World->Prop):Prop:=
 ∀g,d g->∀a,Below w0.heap.size w0 a->YieldAt Fence.wide 0 P l #[c g] a λe b=>e= .returned (.bool false)/\J b
theorem Zr0{fn:Func}{tmps:Array Value}{w:World}(a:fn.results=#[]):(results fn tmps).run P w= .ok (.tuple #[]) w:=by rw [Zj9,a];simp
end Go.Sky
namespace Go.Sky
open Go.RowKit Below
variable {P:Program} {N:Nat} {sc:Nat->Prop} {env env':Qi} {H H':Hp} {Q Q':Exit->Act->World->Prop}
end Go.Sky
namespace Go.Sky
open Go.RowKit Below
variable{f:FuncId}{vs:List Value}{pre:List Pc}{o:Oper}{a:Act}{w:World}{K K':Act->World->Prop}{r:Nat}{ρ:Operand->Value}{Q1:Exit->Act->World->Prop}
variable {P:Program} {N:Nat} {sc:Nat->Prop} {env env':Qi} {H H':Hp} {Q Q':Exit->Act->World->Prop}
def Zdc(P:Program)(fn:Func)(w0:World)(pre:List Pc)(al:Bool){G:Type}(φ:G->Prop)(val:G->Value)(c:G->List Pc):Exit->Act->World->Prop:=
  bodyPostM Fence.wide 0 P fn λe d => ∃ g, e = .returned (val g) /\ φ g /\ Below w0.heap.size w0 d /\
        ∀p∈c g,p.holds d/\p.own=false/\∀b,p.fp b->w0.heap.size<=b\/(al=true/\∃q∈pre,q.fp b)
theorem Zd0  {fn:Func} {c:Code}   {al:Bool} {G:Type} {φ:G->Prop} {val:G->Value} {k:G->List Pc} {N:Nat}
    (F:P.funcs[f]? = some fn) (d:fn.body=some c) (B:fn.ntmps=N) (s:Nat.ble vs.length N=true) (y:AllRo pre)
    (h:∀w0 (sc:Nat->Prop),(∀b,w0.heap.size<=b->sc b)->(∀b,sc b->w0.heap.size<=b\/∃q∈pre,q.fp b)->
      E P N sc c (Zdc P fn w0 pre al φ val k) (Qf 0 vs) ((0,Zt w0 (λ_=>False))::Yg 1 pre)) :
    Cal P f vs.toArray pre al φ val k:=λw M=>by
  refine(callsIn_wide (n:=0)).1 (callsIn_of_wp_marks F d aA (wpIn_wide.2 (h w (λb=>w.heap.size<=b\/∃q∈pre,q.fp b) (λb d=> .inl d) (λb d=>d) _ w ?_)));have z:vs.length<=N:=by simpa using s
  refine⟨by simp [B];omega,rfl,λt v R=>?_,λi p hi=>?_,λi j p q I hi S x b d D=>?_,λi p m hi b d=>?_⟩
  . have l:=(Hu vs 0 t v R).2;have l:vs.toArray[t]? = some v:=by simpa using l
    have u:=(aO.1 l).1;rw [bK,eQ u,l];rfl
  . by_cases g:0=i
    . subst g;rw [Zm]at hi;cases hi;exact Chg.refl _ w
    . rw [Zh g]at hi;exact M p (Ot pre 1 i p hi).2
  . by_cases g:0=i
    . subst g;rw [Zm]at hi;cases hi;cases x
    . rw [Zh g]at hi;rw [y.mem p (Ot pre 1 i p hi).2]at x;cases x
  . rw [Zh (λe=>m e.symm)]at hi;exact .inr ⟨p,(Ot pre 1 i p hi).2,d⟩
def onlyR(Q:Exit->Act->World->Prop):Exit->Act->World->Prop:=It Q
def Ih:¬LetsOut (It Q):=λ⟨_,_,h⟩=>h
theorem Zya(d:∀c,o.op≠ .defer c)(h:o.wp P a w K (It Q)):o.wpIn (Fence.wide.inRound r) 0 P a w K Q:=by
  refine⟨λ_ _=>trivial,?_⟩;unfold Oper.wp at h;show o.uponIn (Fence.wide.inRound r) 0 P a K Q ((o.semAt (some r) a.eval).run P w);rw [Oper.semAt_some r _ o d];generalize (execOp a.eval o).run P w=x at *;cases x with
  | ok n g=>
    cases n<;>simp only [Oper.upon,Oper.uponIn]at h ⊢
    case value=>exact h
    case skip=>exact h
    case defer=>exact h
    case enter f args=>
      refine⟨λh=>(by cases h),CallsIn.inRound r (callsIn_wide.2 (h.mono λe i b=>?_))⟩;cases e with
      | returned v=>exact b
      | panicked c=>exact b.elim
      | outgrown=>exact absurd b Ih
    case row row args=>exact⟨λh=>(by cases h),Yed (n:=0) h⟩
  | halt x g=>
    cases x<;>simp only [Oper.upon]at h
    case panic u=>exact h.elim
def Ziw(l:List Oper):Prop:=∀o∈l,∀c,o.op≠ .defer c
theorem Zo9{ops:Array Oper}{r:Nat} : ∀(l:List Oper) (a:Act) (w:World),Ziw l->wpList P ops (It Q) l a w->wpListIn (Fence.wide.inRound r) 0 P ops Q l a w
  | [],_,_,_,h=>h
  | o::l,a,w,hnd,h=>by
    unfold wpList at h;unfold wpListIn;split
    . rename_i c;simp only [c,jY]at h;exact Oper.wpIn_mono (λa w d=>Zo9 l a w (λo b=>hnd o (bM _ b)) d) (Zya (hnd o (cE ..)) (h.resolve_right λh=>Ih h.2))
    . rename_i c;simp only [c]at h;exact⟨λ_ _=>trivial,Zo9 l _ w (λo b=>hnd o (bM _ b)) h⟩
def Yej{id:Nat}{l:List Oper}(b:Ziw l)(h:L P N sc l.toArray l (It Q) env H)(hs:Sat N sc env H a w):(Code.region id l.toArray false).wpIn (Fence.wide.inRound r) 0 P Q a w:=
  wpIn_region_lit (Zo9 l a w b (h a w hs))
def fx(l:Nat)(o:Obj):Pc:=
  { own:=false,fp:=λb=>b=l,holds:=λw=>w.heap[l]? = some o
    lt:=λw b h c=>by subst c;exact(aO.1 h).1
    stable:=λw g h d=>(d.block l (aO.1 h).1 (λe=>e rfl)).trans h }
def Zft(o:Oper):Bool:=match o.op with
  | .build ..=>true
  | .store ..=>true
  | .load ..=>true
  | .alloc ..=>true
  | _=>false
theorem Yew(h:Zft o=true){w':World}{d:Deferred} : (execOp ρ o).run P w≠ .ok (.defer d) w':=λb=>by
  unfold Zft at h;cases ho:o.op<;>simp only [ho]at h<;>try (cases h;done)
  all_goals
    simp only [execOp,ho,Sem.run_bind]at b;revert b;generalize Sem.run P _ w=r;cases r<;>simp [Result.andThen,Sem.run_pure]
theorem Zkb(a:Act)(ds:List Deferred)(d:Option Tmp)(v:Value):({ a with defers:=ds } : Act).put d v={ a.put d v with defers:=ds }:=by cases d<;>rfl
theorem Yli    {ds:List Deferred}   (i:Zft o=true) (g:∀a w,K a w->K' { a with defers:=ds } w)
    (k:∀e a w,¬Q1 e a w) (h:o.wp P a w K Q1):o.wp P { a with defers:=ds } w K' Q:=by
  unfold Oper.wp at h ⊢;have j:=λd w'=>Yew (P:=P) i (ρ:=a.eval) (w:=w) (w':=w') (d:=d);show o.upon P _ K' Q ((execOp a.eval o).run P w);generalize (execOp a.eval o).run P w=x at *;cases x with
  | ok n w'=>
    cases n<;>simp only [Oper.upon]at h ⊢
    case value=>rw [Zkb];exact g _ _ h
    case skip=>rw [Zkb];exact g _ _ h
    case defer d=>exact absurd rfl (j d w')
    case enter f args=>
      refine h.mono λe l b=>?_;cases e with
      | returned v=>show K' (({ a with defers:=ds } : Act).put o.dst v) l;rw [Zkb];exact g _ _ b
      | panicked c=>exact(k _ _ _ b).elim
      | outgrown=>obtain⟨_,_,h⟩:=b;exact(k _ _ _ h).elim
    case row row args=>exact h.mono λ_ _ b=>by rw [Zkb];exact g _ _ b
  | halt x w'=>
    cases x<;>simp only [Oper.upon]at h
    case panic u=>exact(k _ _ _ h).elim
theorem Zpa{ops:Array Oper}{ds:List Deferred} : ∀(l:List Oper) (a:Act) (w:World),l.all Zft=true->wpList P ops (It λe a w=>Q e { a with defers:=ds } w) l a w->wpList P ops Q l { a with defers:=ds } w
  | [],_,_,_,h=>h
  | o::l,a,w,hnd,h=>by
    simp only [nK,aQ]at hnd;unfold wpList at h ⊢;split
    . rename_i d;simp only [d,jY]at h;have h:=h.resolve_right λh=>Ih h.2;refine .inl (Yli (Q1:=noQ) hnd.1 (λa w g=>Zpa l a w hnd.2 g) (λ_ _ _ h=>h) ?_);unfold Oper.wp at h ⊢;revert h;generalize (execOp a.eval o).run P w=x;intro h;cases x with
      | ok n i=>
        cases n<;>simp only [Oper.upon]at h ⊢
        case value=>exact h
        case skip=>exact h
        case defer=>exact h
        case enter f args=>
          refine h.mono λe j b=>?_;cases e with
          | returned v=>exact b
          | panicked c=>exact b
          | outgrown=>exact absurd b Ih
        case row row args=>exact h
      | halt x i=>
        cases x<;>simp only [Oper.upon]at h ⊢
        case panic u=>exact h
    . rename_i d;rw [aD d]at h;rw [Zkb];exact Zpa l _ w hnd.2 h
end Go.Sky

