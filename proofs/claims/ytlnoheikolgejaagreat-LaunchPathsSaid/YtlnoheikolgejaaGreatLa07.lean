/- Rules, arithmetic and contracts: part 8. No conditions but those that each theorem names. -/
import Derived.Test.YtlnoheikolgejaaGreatLa06
set_option linter.all false
namespace Go.Sky
variable{a b m:R2}{c xs o p r rest before q z:List Int}{t i M N:Nat}{ls cs:List (SL×List Int)}{x y ov d:Int}{ds:List (List Int)}{lo:Rat}
theorem Zp1(g:Rat->Rat){h:Rat}(k:0<h):∀(n:Nat) (u v:Rat),u<v->v-u<=(n:Rat)*h->g u*g v<0->∃x y,u<=x/\x<y/\y<=v/\y-x<=h/\g x≠0/\g x*g y<=0
 | 0,u,v,a,b,_=>by push_cast at b;grind
 | n+1,u,v,a,b,c=>by
  push_cast at b;have f:g u≠0:=λe=>by rw [e]at c;grind
  by_cases j:v-u<=h
  .exact⟨u,v,O4,a,O4,j,f,O4⟩
  .rcases(show g u*g (u+h)<=0\/0<g u*g (u+h) by grind)with q|q
   .exact⟨u,u+h,O4,O4,O4,O4,f,q⟩
   .have l:g (u+h)*g v<0:=by
     have H:=Iu f;rcases(show g (u+h)*g v<0\/0<=g (u+h)*g v by grind)with w|w
     .exact w
     .have P:=aY q (show 0 < -(g u*g v) by grind);have Q:=aI (dA H) w;grind
    obtain⟨x,y,I,s,B,D,F,G⟩:=Zp1 g k n (u+h) v O4 O4 l;exact⟨x,y,O4,s,B,D,F,G⟩
theorem Zky{a b c:Rat}(h:a*b<0)(e:a-b<=c)(f:b-a<=c):-c<=a/\a<=c:=by
 rcases(show 0<a\/a<0\/a=0 by grind)with q|q|q
 .have:b<0:=by
   rcases(show b<0\/0<=b by grind)with w|w
   .exact w
   .have:=aI (dA q) w;grind
  grind
 .have:0<b:=by
   rcases(show 0<b\/b<=0 by grind)with w|w
   .exact w
   .have:=aI (show 0<=-a by grind) (show 0<=-b by grind);grind
  grind
 .rw [q]at h;grind
theorem Zqj{F:Nat}(hx:Tr xs)(h0:xs≠[])(hC:Ce F xs)(ho:Tr o)(o0:o≠[])(hE:Ed o (sqf F xs)){u v:Rat}(B:u<v)(hu:Zb (sqf F xs) u≠0)(h:Zb o u*Zb o v<0):Be F xs v<Be F xs u:=by
 rcases jE (Be F xs v) (Be F xs u)with q|q
 .exact q
 .exfalso;have hk:=Zb6 hx h0 hC (dA B) q hu;obtain⟨k,w,Y,G⟩:=hE;have s:=Qr Y;have l:∀d,Tr d->Ed d o->Ed d (tzl w)->d.length<=1:=λd hd e1 R=>by
   obtain⟨f,s1,Q,r1⟩:=e1;obtain⟨g,s2,c2,r2⟩:=R;refine Zdw hx h0 hC.1.2.2.1 hd ⟨k*f,lmul w s1,bC Y Q,λx=>?_⟩ ⟨k*f*g,Oo ((lmul (ld w) s1).map λa=>g*a) ((lmul s2 (ld o)).map λa=>f*a),bC (bC Y Q) c2,λx=>?_⟩
   .rw [Zq];have a1:=G x;have j:=r1 x;push_cast;grind
   .rw [Yw,Zg,Zg,Zq,Zq,Mz];have a0:=Fu ((sqf F xs).map λa=>k*a) (lmul w o) (λy=>by rw [Zg,Zq];exact G y) x;rw [Cj,Er]at a0;have j:=r1 x;have a3:=r2 x;rw [Nh]at a3;push_cast;have b1:(k:Rat)*f*g*Zb (ld (sqf F xs)) x=(f:Rat)*g*(Zb (ld w) x*Zb o x+Zb w x*Zb (ld o) x):=by rw [<-a0];grind
    rw [b1];have b2:(f:Rat)*g*(Zb (ld w) x*Zb o x+Zb w x*Zb (ld o) x)=(g:Rat)*(Zb (ld w) x*((f:Rat)*Zb o x))+(f:Rat)*(((g:Rat)*Zb w x)*Zb (ld o) x):=O4;rw [b2,j,a3];grind
  obtain⟨ε,e1,R⟩:=Zvx ho (Qa w) o0 l u v;obtain⟨I,l1,l2⟩:=Ep u v o;obtain⟨P,m1,m2⟩:=Ep u v w;obtain⟨D,d1,-,d3⟩:=Kw (show(0:Rat)<1 by decide) (show 0<I+P by grind) (show 0<ε/2 by grind);obtain⟨n,hn⟩:=Ze4 (v-u) d1;obtain⟨x,y,H,x2,x3,x4,x5,x6⟩:=Zp1 (Zb o) d1 n u v B hn h;have sx:=hk x H O4;have sy:=hk y O4 x3;have ox:=G x;have oy:=G y;have W:Zb o y≠0:=λe=>by
   rw [e]at oy;rcases eV.1 (show(k:Rat)*Zb (sqf F xs) y=0 by grind)with t|t
   .exact s t
   .rw [t]at sy;grind
  have S:Zb o x*Zb o y<0:=by
   rcases(show Zb o x*Zb o y<0\/Zb o x*Zb o y=0 by grind)with t|t
   .exact t
   .rcases eV.1 t with t|t
    .exact absurd t x5
    .exact absurd t W
  have Z:0<Zb (sqf F xs) x*Zb (sqf F xs) y:=by
   have a1:=aY sx sy;have j:=Iu hu;rcases(show 0<Zb (sqf F xs) x*Zb (sqf F xs) y\/Zb (sqf F xs) x*Zb (sqf F xs) y<=0 by grind)with t|t
   .exact t
   .have:=aI (dA j) (show 0<=-(Zb (sqf F xs) x*Zb (sqf F xs) y) by grind);grind
  have V:Zb w x*Zb w y<0:=by
   have a1:(k:Rat)*k*(Zb (sqf F xs) x*Zb (sqf F xs) y)=(Zb w x*Zb w y)*(Zb o x*Zb o y):=by
    have:((k:Rat)*Zb (sqf F xs) x)*((k:Rat)*Zb (sqf F xs) y)=(Zb w x*Zb o x)*(Zb w y*Zb o y):=by rw [ox,oy]
    grind
   have j:=aY (Iu s) Z;rcases(show Zb w x*Zb w y<0\/0<=Zb w x*Zb w y by grind)with t|t
   .exact t
   .have:=aI t (show 0<=-(Zb o x*Zb o y) by grind);grind
  have Q:=l2 x y H O4 x3;have c2:=m2 x y H O4 x3;have n1:=aI (a:=I) (b:=D-(y-x)) O4 O4;have n2:=aI (a:=P) (b:=D-(y-x)) O4 O4;have n3:=aI (a:=I) (b:=D) O4 O4;have n4:=aI (a:=P) (b:=D) O4 O4;obtain⟨b1,b2⟩:=Zky (c:=ε/2) S O4 O4;obtain⟨b3,b4⟩:=Zky (c:=ε/2) V O4 O4;rcases R x H O4 with t|t
  .unfold Big at t;grind
  .unfold Big at t;rw [Nh]at t;grind
theorem Zkq{F:Nat}(k:Tr xs)(f:xs≠[])(g:Ce F xs){u v:Rat}(e:u<v)(h:Zb (sqf F xs) u≠0)(j:Zb (sqf F xs) v=0):Be F xs v<Be F xs u:=by
 rcases jE (Be F xs v) (Be F xs u)with q|q
 .exact q
 .exfalso;have:=Zb6 k f g (dA e) q h v (dA e) O4;rw [j]at this;grind
theorem Odp.ed{F n:Nat}(h:Odp F n p o):Ed o (Go.Sky.sqf F p):=by have e:=Dp.start h.tr h.ne;obtain⟨-,f⟩:=Hg h.tr h.ne h.sz h.hn h.hl h.hF p.length (Xa p) e (by rw [Qy h.tr];exact aK _);rw [<-h.eq]at f;rwa [Zlx e.2.2.1]at f
theorem Zzj{F:Nat}(k:Tr xs)(f:xs≠[])(j:Ce F xs)(x:Rat):Zb xs x=0↔Zb (sqf F xs) x=0:=by
 constructor
 .intro h;have l:(x.den:Int)≠0:=by exact_mod_cast x.den_nz
  have e:((x.num:Int):Rat)/((x.den:Int):Rat)=x:=by rw [<-Rat.divInt_eq_div];exact Rat.num_divInt_den x
  have:=Zzl k f j.1.2.2.1 l (r:=x.num) (by rw [e];exact h);rwa [e]at this
 .intro h;obtain⟨g,n⟩:=Ygs k f j.1.2.2.1;rw [n x,h];grind
theorem Yha {F n:Nat}  (h:Odp F n p o) (f:Ce F p) {K:Nat} {e:Nat} (l:∀u v:Rat,-(K:Rat)<=u->u<=v->v<=(K:Rat)->v-u<=1/((2^e:Nat):Rat)->Be F p u-Be F p v<=1)
  {s t:Rat} (h1:-(K:Rat)+1<=s) (Q:t<=(K:Rat)) (hs:0<=Zb p s) (ht:0<=Zb p t) (V:Zyo p s t):1/((2^(e+1):Nat):Rat)<t-s:=by
 obtain⟨x,x1,x2,x3⟩:=V;have B:s<x:=by rcases(show s<x\/s=x by grind)with q|q;exact q;subst q;grind
 have D:x<t:=by rcases(show x<t\/x=t by grind)with q|q;exact q;subst q;grind
 obtain⟨f1,f2,f3,f4,f5,f6⟩:=Pu F h.tr h.ne f.1.2.2.1;have j:Zb (Go.Sky.sqf F p) x≠0:=λz=>by have:=(Zzj h.tr h.ne f x).2 z;grind
 rcases(show 1/((2^(e+1):Nat):Rat)<t-s\/t-s<=1/((2^(e+1):Nat):Rat) by grind)with q|q
 .exact q
 .exfalso;have W:=two_pow_pos e;have Y:=two_pow_pos (e+1);have I:((2^(e+1):Nat):Rat)=2*((2^e:Nat):Rat):=by rw [cC];push_cast;grind
  have hi:0<((2^e:Nat):Rat)⁻¹:=fX.2 W;have R:1/((2^(e+1):Nat):Rat)=((2^e:Nat):Rat)⁻¹/2:=by rw [I];grind
  have P:1/((2^e:Nat):Rat)=((2^e:Nat):Rat)⁻¹:=O4;have S:((2^e:Nat):Rat)⁻¹<=1:=by
   have g1:(1:Rat)<=((2^e:Nat):Rat):=by have:1<=2^e:=dO e;exact_mod_cast this
   have g2:=aI (a:=((2^e:Nat):Rat)-1) (b:=((2^e:Nat):Rat)⁻¹) O4 O4;have g3:((2^e:Nat):Rat)*((2^e:Nat):Rat)⁻¹=1:=lG _ O4;grind
  obtain⟨u,u1,u2,u3⟩:∃u,s-((2^e:Nat):Rat)⁻¹/2<=u/\u<=s/\Be F p x<Be F p u:=by
   by_cases z:Zb (Go.Sky.sqf F p) s=0
   .obtain⟨δ,d1,H⟩:=Dy (Go.Sky.sqf F p).length (Go.Sky.sqf F p) (s-((2^e:Nat):Rat)⁻¹/2) (aK _);have G:=Ze5 (Go.Sky.sqf F p).length (Go.Sky.sqf F p) (s-((2^e:Nat):Rat)⁻¹/2) f2 f3 (aK _);obtain⟨u,w1,w2,w3⟩:∃u,s-((2^e:Nat):Rat)⁻¹/2<u/\u<=s-((2^e:Nat):Rat)⁻¹/2+δ/\u<s:=by
     rcases(show s-((2^e:Nat):Rat)⁻¹/2+δ<s\/s<=s-((2^e:Nat):Rat)⁻¹/2+δ by grind)with w|w
     .exact⟨_,O4,iI,w⟩
     .exact⟨s-((2^e:Nat):Rat)⁻¹/4,O4,O4,O4⟩
    have Z:Zb (Go.Sky.sqf F p) u≠0:=λc=>by have:=H u w1 w2;rw [c]at this;exact G this.symm
    have m1:=Zkq h.tr h.ne f w3 Z z;have m2:=Zhm h.tr h.ne f (dA B);exact⟨u,O4,O4,O⟩
   .have g:0<Zb p s:=by have:Zb p s≠0:=λc=>z ((Zzj h.tr h.ne f s).1 c);grind
    have k:=h.opp (x:=s) (y:=x) (by have:=aY g (show 0 < -Zb p x by grind);grind);exact⟨s,O4,O4,Zqj h.tr h.ne f h.otr h.one h.ed B z k.1⟩
  have u4:Be F p t<Be F p x:=by
   by_cases z:Zb (Go.Sky.sqf F p) t=0
   .exact Zkq h.tr h.ne f D j z
   .have g:0<Zb p t:=by have:Zb p t≠0:=λc=>z ((Zzj h.tr h.ne f t).1 c);grind
    have k:=h.opp (x:=x) (y:=t) (by have:=aY g (show 0 < -Zb p x by grind);grind);exact Zqj h.tr h.ne f h.otr h.one h.ed D j k.1
  have:=l u t O4 O4 Q O4;omega
def Zar(xs:List Int)(m:Nat):Prop:=xs.length=0\/(xs.length+2)*(xs.length+2)*(Qk xs+m+2*(xs.length-1)+32)<=65536
instance (xs:List Int) (m:Nat):Decidable (Zar xs m):=by unfold Zar;infer_instance
def sgf_t{m:Nat}(h:xs.length=0):Value.bool (decide (Zar xs m))= .bool true:=aL Value.bool (aN (.inl h))
theorem sgf_i{m:Nat}{n:Int}(h:xs.length≠0)(f:n=(((xs.length+2)*(xs.length+2)*(Qk xs+m+2*(xs.length-1)+32):Nat):Int)):Value.bool (decide (Zar xs m))= .bool (decide (n<=65536)):=aL Value.bool (dD.2 (by
 subst f;show(xs.length=0\/_<=65536)↔_;constructor
 .intro e;rcases e with e|e
  .exact absurd e h
  .exact lB.2 e
 .intro e;exact .inr (lB.1 e)))
def efit(z:R2):Bool:=decide (max (bl z.1.natAbs) (bl z.2.natAbs)<=512)
def Zmz:List Int->Int
 | []=>0
 | x::r=>if x=0 then Zmz r else x
theorem Zp9{s:Int}(h:s≠0):∀{L:List Int} {i:Nat},i<L.length->(∀k,k<i->L.getD k 0=0)->L.getD i 0=s->Zmz L=s
 | [],i,hi,_,_=>absurd hi O7
 | x::r,0,_,_,hs=>by have e:x=s:=hs;subst e;unfold Zmz;rw [aD h]
 | x::r,i+1,hi,hz,hs=>by have e:x=0:=hz 0 O;unfold Zmz;rw [aF e];exact Zp9 h (L:=r) (i:=i) (by simpa using hi) (λk f=>hz (k+1) O) hs
theorem Zk7:∀{L:List Int},(∀k,k<L.length->L.getD k 0=0)->Zmz L=0
 | [],_=>rfl
 | x::r,hz=>by have e:x=0:=hz 0 O7;unfold Zmz;rw [aF e];exact Zk7 λk f=>hz (k+1) (by simpa using f)
def aft(e:List (List Int))(m:R2):Int:=Zmz (e.map (fat m.1 m.2))
def vlu(e:List (List Int))(m:R2):Int:=if e.length=0 then 0 else fat m.1 m.2 (e.getD 0 [])
def chv(e:List (List Int))(m:R2):Int:=chg (e.map (fat m.1 m.2))
def crb(e:List (List Int))(a b:R2):Bool:=if e.length=0 then false else decide (0<chv e a-chv e b-if fat b.1 b.2 (e.getD 0 [])=0 then 1 else 0)
def cmp(a b:R2):Int:=(a.1*b.2-b.1*a.2).sign
def ngb(ds cs:List (List Int))(a b:R2):Bool:=if cmp a b=0 then decide (vlu ds a<0)else(decide (aft ds a<0) || crb cs a b)
theorem Zwl(ls:List (SL×List Int))(x y:Int):aft (ls.map Prod.snd) (x,y)=Zmz (sgx ls (fat x y)):=by unfold aft;rw [Ztt rfl]
theorem Yja(ls:List (SL×List Int))(x y:Int):chv (ls.map Prod.snd) (x,y)=chg (sgx ls (fat x y)):=by unfold chv;rw [Ztt rfl]
theorem Zff(h:i<ls.length):(ls.map Prod.snd).getD i []=(ls.getD i Z0).2:=by rw [aC,aC,dZ,aH h];rfl
theorem chv_r(e:List (List Int))(m:R2):0<=chv e m/\chv e m<=(e.length:Int):=by have:=Zfw (e.map (fat m.1 m.2));rw [aQ]at this;exact this
theorem Zou{x:Rat}(h:Gn x=0):x=0:=by
 rcases Qq x with⟨f,e⟩|⟨f,e⟩|⟨f,e⟩
 .rw [e]at h;exact absurd h O3
 .rw [e]at h;exact absurd h O3
 .exact f
theorem sgm_i{l:Int}(f:-1<=x/\x<=1)(e:-1<=l/\l<=1):Me (x*l):=by
 rcases(show x=-1\/x=0\/x=1 by omega)with h|h|h<;>subst h
 .exact⟨O,O⟩
 .exact⟨O,O⟩
 .exact⟨O,O⟩
theorem Ztv{l:Int}(f:-1<=x/\x<=1)(e:-1<=l/\l<=1)(h:x*l<0):x=-l:=by rcases(show x=-1\/x=0\/x=1 by omega)with h|h|h<;>subst h<;>omega
theorem Ztu{l:Int}(g:-1<=x/\x<=1)(f:-1<=l/\l<=1)(h:¬x*l<0)(e:x≠0):¬x=-l:=by rcases(show x=-1\/x=0\/x=1 by omega)with h|h|h<;>subst h<;>omega
theorem Ztw{l:Int}(h:x=0):¬x*l<0:=by subst h;omega
theorem crb_t{e f:Int}(h:cs.length≠0)(g:fat e f (cs.getD 0 Z0).2=0):Value.bool (crb (cs.map Prod.snd) (x,y) (e,f))= .bool (decide (0<chv (cs.map Prod.snd) (x,y)-chv (cs.map Prod.snd) (e,f)-1)):=by unfold crb;rw [aQ,aD h,Zff O,aF g]
theorem crb_f{e f:Int}(h:cs.length≠0)(g:¬fat e f (cs.getD 0 Z0).2=0):Value.bool (crb (cs.map Prod.snd) (x,y) (e,f))= .bool (decide (0<chv (cs.map Prod.snd) (x,y)-chv (cs.map Prod.snd) (e,f))):=by unfold crb;rw [aQ,aD h,Zff O,aD g,jD]
theorem ngb_t{cs:List (List Int)}(h:¬cmp a b=0)(e:aft ds a<0):Value.bool (ngb ds cs a b)= .bool true:=by unfold ngb;rw [aD h,aN e];rfl
theorem ngb_f{cs:List (List Int)}(h:¬cmp a b=0)(e:¬aft ds a<0):Value.bool (ngb ds cs a b)= .bool (crb cs a b):=by unfold ngb;rw [aD h,aJ e];rfl
def Zdf:Nat->List Int->List (List Int)
 | 0,_=>[]
 | n+1,p=>if p.length=0 then []else p::Zdf n (Ys p)
theorem Zqn{m:R2}(j:0<m.2):∀(n:Nat) (p:List Int),p.length<=n->aft (Zdf n p) m=Gm n p (qv m)
 | 0,p,l=>rfl
 | n+1,p,l=>by
  unfold Zdf;by_cases h:p.length=0
  .rw [aF h];have:p=[]:=aE h;subst this;have f:∀n,Gm n [] (qv m)=0:=λn=>by
    induction n with
    | zero=>rfl
    | succ n g=>unfold Gm;rw [aD (by show ¬(0:Rat)≠0;simp)];exact g
   rw [f];rfl
  .rw [aD h];have s:=Of p;have g:=Zqn j n (Ys p) O;unfold aft at g ⊢;rw [bN];unfold Zmz Gm;have k:fat m.1 m.2 p=Gn (Zb p (qv m)):=Zm5 j p;rw [k];by_cases f:Zb p (qv m)=0
   .rw [aF (Zov f),aD (by simpa using f)];exact g
   .rw [aD (λe=>f (Zou e)),aF f]
structure Cvd (xs:List Int):Prop where
 v:Vp xs
 s:Sz 205 xs
 l:xs.length<=11
theorem Zvn(h:Cvd xs)(e:xs≠[])(f:Dp xs r):Sz 220 r/\r.length<=11:=by obtain⟨g,j⟩:=f.sz h.v.tr e h.s (by have:=h.l;omega);exact⟨g,by have:=h.l;omega⟩
theorem Zg4(h:Cvd xs)(k:xs≠[])(e:Dp xs r) :
  Vp r/\r≠[]/\(∀i,bl (cf r (i+1)*((i:Int)+1)).natAbs<=65536)/\Vp (Ys r)/\¬Zk6 r (Ys r)/\eok 13 (gA r (Ys r)) (gB r (Ys r))/\Om 13 r (Ys r)=Ng 13 r/\Vp (Ng 13 r)/\
  Db r (Ng 13 r)=0/\pdv r (Ng 13 r)/\Kh r (Ng 13 r)=sqf 13 r/\Vp (sqf 13 r)/\Sz 235 (sqf 13 r)/\(sqf 13 r).length<=11/\Dp xs (Ng 13 r)/\sqf 13 r≠[]/\((sqf 13 r).length≠1->(Ng 13 r).length<r.length)/\Bu 13 r:=by
 obtain⟨F,W⟩:=Zvn h k e;have u:Vp r:=⟨F.mono O,e.1,O⟩;have f:=e.ok h.v.tr k h.s O (by have:=h.l;omega) (show xs.length<=13+1 by have:=h.l;omega);obtain⟨⟨R,H,I,B,D⟩,-,-⟩:=f.1;have j:=e.2.2.1;have n:=(chG 13 e.1 e.2.1 F O O O).2.1;have P:=(chG 13 e.1 e.2.1 F O O O).2.2.1;have w:=Zrg u e.2.1 f.1.1;have G:Ng 13 r=Om 13 r (Ys r):=by unfold Ng;rw [j]
 have l:=e.next f.2;have v:Vp (Ng 13 r):=by obtain⟨t1,t2⟩:=Zvn h k l;exact⟨t1.mono O,l.1,O⟩
 have s:sqf 13 r=Kh r (Ng 13 r):=by unfold sqf Ng;rw [j]
 obtain⟨f1,f2,f3,f4,f5,f6⟩:=Pu 13 e.1 e.2.1 f.2;have g:∀i,bl (cf r (i+1)*((i:Int)+1)).natAbs<=65536:=λi=>by
  by_cases hi:i<r.length
  .have:=R i hi;rwa [j]at this
  .rw [Yl O];simp [La]
 rw [j]at H I B D;rw [<-G]at B D;refine⟨u,e.2.1,g,Zdn u (λi _=>g i),H,I,G.symm,v,B,D,s.symm,w,n,O,l,f3,λQ=>?_,f.2⟩;refine Zmx e.1 e.2.1 f.2 ?_;have:=Ps e.1 e.2.1 f.2;have S:=aG.2 f3;have V:=aG.2 this.2.1;omega
def Ie(xs:List Int):List Int:=Zpj 13 xs.length [1] (Xa xs)
structure OddI (xs:List Int) (t:Nat) (rest out before:List Int):Prop where
 ex:∃f q,Dp xs q/\q.length<=f/\Zpj 13 f out q=Ie xs/\Tr out/\Op xs out q/\((t%2=1/\rest=q)\/(t%2=0/\rest=Ng 13 q/\before=sqf 13 q/\(sqf 13 q).length≠1))
theorem OddI.start{b:List Int}(h:Cvd xs)(e:xs≠[]):OddI xs 1 (Xa xs) [1] b:=
 ⟨xs.length,Xa xs,Dp.start h.v.tr e,by rw [Qy h.v.tr];exact aK _,rfl,.inr O3,Op.start h.v.tr,.inl ⟨rfl,rfl⟩⟩
theorem OddI.dp{e:List Int}(h:Cvd xs)(j:xs≠[])(l:OddI xs t rest e before):Dp xs rest:=by
 obtain⟨f,q,g,n,s,u,v,k|⟨-,rfl,-⟩⟩:=l.ex
 .rw [k.2];exact g
 .exact(Zg4 h j g).2.2.2.2.2.2.2.2.2.2.2.2.2.2.1
theorem OddI.out{e:List Int}(h:Cvd xs)(k:xs≠[])(s:OddI xs t rest e before):Vp e/\Sz 220 e/\e.length<=11:=by obtain⟨f,q,l,u,v,g,n,-⟩:=s.ex;obtain⟨j,w,B⟩:=n.sz h.v.tr k h.s (by have:=h.l;omega) g l.1;have:=h.l;exact⟨⟨j.mono O,g,O⟩,j,O⟩
theorem OddI.odd_end{e:List Int}(h:Cvd xs)(n:xs≠[])(k:OddI xs t rest e before)(B:t%2=1)(l:(sqf 13 rest).length=1):e=Ie xs:=by
 obtain⟨f,q,j,s,g,u,v,⟨-,rfl⟩|⟨w,-⟩⟩:=k.ex
 .cases f with
  | zero=>exact absurd (aG.2 j.2.1) O
  | succ f=>unfold Zpj at g;rw [aF l]at g;exact g
 .omega
theorem OddI.odd_next{e:List Int}(n:OddI xs t rest e before)(v:t%2=1)(s:(sqf 13 rest).length≠1):OddI xs (t+1) (Ng 13 rest) e (sqf 13 rest):=by
 obtain⟨f,q,g,h,j,k,l,⟨-,rfl⟩|⟨u,-⟩⟩:=n.ex
 .exact⟨f,rest,g,h,j,k,l,.inr ⟨O,rfl,rfl,s⟩⟩
 .omega
theorem OddI.even{g:List Int}(h:Cvd xs)(v:xs≠[])(hI:OddI xs t rest g before)(ht:t%2=0) :
  Vp before/\Db before (sqf 13 rest)=0/\pdv before (sqf 13 rest)/\Vp (Kh before (sqf 13 rest))/\¬Cn g (Kh before (sqf 13 rest))/\
  ((sqf 13 rest).length=1->Qc g (Kh before (sqf 13 rest))=Ie xs)/\((sqf 13 rest).length≠1->OddI xs (t+1) (Ng 13 rest) (Qc g (Kh before (sqf 13 rest))) (sqf 13 rest))/\Vp (Qc g (Kh before (sqf 13 rest))):=by
 obtain⟨f,q,j,h2,l,h4,Z,⟨h7,-⟩|⟨-,rfl,rfl,W⟩⟩:=hI.ex
 .omega
 obtain⟨a1,a2,a3,a4,a5,a6,a7,a8,a9,a0,b0,F,G,c0,H,c5,I,n⟩:=Zg4 h v j;obtain⟨b1,b2,b3,b4,b5,b6,b7,b8,b9,c6,c7,P,Q,c8,s,k,R,u⟩:=Zg4 h v H;obtain⟨c1,c2,S,c4⟩:=Zay j.1 j.2.1 n u;have V:=Z.next j.1 j.2.1 j.2.2.1 n u;have ho:=h.l;obtain⟨s1,s2,s3⟩:=V.sz h.v.tr v h.s O Xy s.1;obtain⟨o1,o2,o3⟩:=Z.sz h.v.tr v h.s O h4 j.1;have c9:(Bo 13 q).length<=11:=by have e:=aL List.length c2;rw [On S P.tr c4 k]at e;have:=aG.2 k;omega
 have B:Sz 450 (Bo 13 q):=by obtain⟨a,ha,e⟩:=V;have e2:Xa xs=Qc (Qc (Qc a (Ng 13 (Ng 13 q))) g) (Bo 13 q):=e.trans ((Xy).ext Xy λi=>Ox (λx=>by simp only [Yp];grind) i);exact(Zsi h.v.tr v h.s O Xy S e2).1.mono O
 have hd:Db (sqf 13 q) (sqf 13 (Ng 13 q))=0:=by
  have m1:=Pd G;have m2:=Pd Q;have l1:=aG.2 k;unfold Db;rw [aD O];split
  .rfl
  .have:((sqf 13 q).length-(sqf 13 (Ng 13 q)).length+1)*(Qk (sqf 13 (Ng 13 q))+1)<=12*240:=aT O O;rw [aD O]
 have Y:Vp (Bo 13 q):=⟨B.mono O,S,O⟩;have hm:¬Cn g (Bo 13 q):=λhF=>by have m1:=Pd o1;have m2:=Pd B;rcases hF.2.2 with w|w<;>omega
 refine⟨F,hd,c1,Y,hm,λD=>?_,λD=>?_,⟨s1.mono O,Xy,aB s2 O⟩⟩
 .cases f with
  | zero=>exact absurd (aG.2 j.2.1) O
  | succ f=>unfold Zpj at l;rw [aD W,aF D]at l;exact l
 .cases f with
  | zero=>exact absurd (aG.2 j.2.1) O
  | succ f=>
   unfold Zpj at l;rw [aD W,aD D]at l;have l1:=I W;have l2:=R D;exact⟨f,Ng 13 (Ng 13 q),s,O,l,Xy,V,.inl ⟨O,rfl⟩⟩
theorem Zxf(h:Cvd xs)(f:xs≠[]):Ie xs=Zc1 13 xs.length (Xa xs):=by have e:=Dp.start h.v.tr f;have j:=h.l;have g:=(e.ok h.v.tr f h.s O O (show xs.length<=13+1 by omega)).2;unfold Ie;rw [Yg7 h.v.tr f h.s O O O xs.length [1] (Xa xs) (.inr (show cf [1] 0≠0 by decide)) e (by rw [Qy h.v.tr];exact aK _),Yg0 (Zt7 xs e.1 e.2.1 g)]
theorem Zed(h:Cvd xs)(f:xs≠[]):Odp 13 205 xs (Ie xs)/\Vp (Ie xs)/\Sz 220 (Ie xs)/\(Ie xs).length<=xs.length/\Bi (Ie xs):=by
 have g:=Dp.start h.v.tr f;have G:=h.l;have n:=(g.ok h.v.tr f h.s O O (show xs.length<=13+1 by omega)).2;have l:=Zxf h f;have j:Tr (Ie xs):=by rw [l];exact Zt7 xs g.1 g.2.1 n
 obtain⟨⟨B,s⟩,-⟩:=Hg h.v.tr f h.s O O (show xs.length<=13+1 by omega) xs.length (Xa xs) g (by rw [Qy h.v.tr];exact aK _);rw [<-l]at s;have e:Xa xs=Qc (Qc B B) (Ie xs):=g.1.ext Xy λi=>Ox (λx=>by rw [s x,Yp,Yp];grind) i;obtain⟨k,D,u⟩:=Zsi h.v.tr f h.s O Xy j e;have w:=(chG 13 j u k O O O).1;refine⟨⟨h.v.tr,f,h.s,O,O,O,l,j,u,w⟩,⟨k.mono O,j,O⟩,k,D,.inr ?_⟩;have H:=Pd k;have v:((Ie xs).length+2)*((Ie xs).length+2)<=13*13:=aT O O;have F:((Ie xs).length+2)*((Ie xs).length+2)*(Qk (Ie xs)+16)<=13*13*236:=aT v O;omega
def chx(xs:List Int):List (List Int):=if xs.length=0 then []else chn 13 (Ie xs)
def Pk(xs:List Int):List (List Int):=Zdf xs.length xs
theorem Zqm:∀(n k:Nat) (p:List Int),Tr p->p.length<=25->Sz k p->∀q∈Zdf n p,Tr q/\q.length<=p.length/\Sz (k+5*n) q
 | 0,_,_,_,_,_,q,e=>absurd e (by simp [Zdf])
 | n+1,k,p,g,l,hs,q,e=>by
  unfold Zdf at e;by_cases f:p.length=0
  .rw [aF f]at e;exact absurd e O7
  .rw [aD f]at e;rcases bG.1 e with rfl|e
   .exact⟨g,aK _,hs.mono O⟩
   .have s:=Of p;obtain⟨h,u,j⟩:=Zqm n (k+5) (Ys p) (Ov g) O (Bg hs l) q e;exact⟨h,O,j.mono O⟩
theorem Fd(h:Cvd xs):∀q∈Pk xs,Vp q/\Qk q<=6150/\q.length<=11:=λq g=>by have k:=h.l;obtain⟨f,j,e⟩:=Zqm xs.length 205 xs h.v.tr O h.s q g;have:=Pd e;exact⟨⟨e.mono O,f,O⟩,O,O⟩
theorem Zey(h:Cvd xs):∀q∈chx xs,Vp q/\Qk q<=6150/\q.length<=11:=λq f=>by
 have F:=h.l;unfold chx at f;by_cases j:xs.length=0
 .rw [aF j]at f;exact absurd f O7
 .rw [aD j]at f;have k:xs≠[]:=λe=>j (by rw [e];rfl);obtain⟨g,n,s,v,w⟩:=Zed h k;obtain⟨u,B,D,l⟩:=chG 13 g.otr g.one s O O (show(Ie xs).length<=13+1 by omega);exact⟨vp_chn n g.one u q f,(l q f).1,by have:=(l q f).2;omega⟩
theorem Znm(xs:List Int):(chx xs).length<=1000:=by
 unfold chx;split
 .exact bB _
 .have:=Zcm 13 (sqf 13 (Ie xs)) (Yi (Ys (sqf 13 (Ie xs))));unfold chn;omega
theorem Zok(g:Qk p<=6150)(h:p.length<=11)(a:bl m.1.natAbs<=5300)(b:bl m.2.natAbs<=5300):¬Mv p m.1 m.2:=λf=>by
 have e:Qk [m.1,m.2]<=5300:=by show max (bl m.1.natAbs) (max (bl m.2.natAbs) 0)<=5300;omega
 have j:(p.length-1)*Qk [m.1,m.2]<=10*5300:=aT O e;have:=f.2;omega
def Zbg(h:Cvd xs)(a:bl m.1.natAbs<=5300)(b:bl m.2.natAbs<=5300):(∀p∈Pk xs,¬Mv p m.1 m.2)/\(∀p∈chx xs,¬Mv p m.1 m.2):=
 ⟨λp e=>Zok (Fd h p e).2.1 (Fd h p e).2.2 a b,λp e=>Zok (Zey h p e).2.1 (Zey h p e).2.2 a b⟩
theorem Yar(e:0<a.2)(f:0<b.2):((a.1*b.2-b.1*a.2:Int):Rat)=(qv a-qv b)*((a.2:Rat)*(b.2:Rat)):=by have g:=Ib e;have h:=Ib f;unfold qv;push_cast;grind
theorem Yi1(g:0<a.2)(j:0<b.2):cmp a b<0↔qv a<qv b:=by
 have e:=Yar g j;have k:=aY (Ib g) (Ib j);unfold cmp;rw [Oh];constructor
 .intro h;have f:((a.1*b.2-b.1*a.2:Int):Rat)<0:=by exact_mod_cast h
  rcases(show qv a<qv b\/qv b<=qv a by grind)with q|q
  .exact q
  .have:=aI (show 0<=qv a-qv b by grind) (Rat.le_of_lt k);grind
 .intro h;have:=aY (show 0<qv b-qv a by grind) k;have f:((a.1*b.2-b.1*a.2:Int):Rat)<0:=O4;exact_mod_cast f
theorem Znj(f:0<a.2)(g:0<b.2):cmp a b=0↔qv a=qv b:=by
 have e:=Yar f g;have k:=aY (Ib f) (Ib g);unfold cmp;rw [gN];constructor
 .intro h;rw [h]at e;rcases eV.1 (show(qv a-qv b)*((a.2:Rat)*(b.2:Rat))=0 by rw [<-e];rfl)with q|q
  .grind
  .rw [q]at k;grind
 .intro h;have j:((a.1*b.2-b.1*a.2:Int):Rat)=0:=by rw [e,h];grind
  exact_mod_cast j
theorem Yi2(g:0<a.2)(j:0<b.2):cmp a b<=0↔qv a<=qv b:=by
 have e:=Yi1 g j;have f:=Znj g j;constructor
 .intro h;rcases(show cmp a b<0\/cmp a b=0 by omega)with q|q
  .exact dA (e.1 q)
  .have:=f.1 q;grind
 .intro h;rcases(show qv a<qv b\/qv a=qv b by grind)with q|q
  .exact eE (e.2 q)
  .exact nY (f.2 q)
def Yc1(e:0<m.2)(p:List Int):fat m.1 m.2 p=Gn (Zb p (qv m)):=Zm5 e p
theorem Yi9(h:Cvd xs)(k:xs≠[])(v:0<a.2)(l:0<b.2):crb (chx xs) a b=true↔Cv 13 (Ie xs) (qv a) (qv b):=by
 obtain⟨j,G,H,I,P⟩:=Zed h k;have g:xs.length≠0:=λe=>k (aE e);unfold crb Cv chx;rw [aD g];have B:∃r,chn 13 (Ie xs)=sqf 13 (Ie xs)::r:=by unfold chn Nc;split<;>exact⟨_,rfl⟩
 obtain⟨r,n⟩:=B;have s:∀m:R2,0<m.2->chv (chn 13 (Ie xs)) m=Be 13 (Ie xs) (qv m):=λm D=>(cvc_v (F:=13) (xs:=Ie xs) D);rw [aD (by rw [n];simp),s a v,s b l];have w:(chn 13 (Ie xs)).getD 0 []=sqf 13 (Ie xs):=by rw [n];rfl
 rw [w,Yc1 l];have u:Gn (Zb (sqf 13 (Ie xs)) (qv b))=0↔Zb (Ie xs) (qv b)=0:=⟨λe=>(j.zero _).1 (Zou e),λe=>Zov ((j.zero _).2 e)⟩;by_cases f:Zb (Ie xs) (qv b)=0
 .rw [aF f,aF (u.2 f)];exact fH
 .rw [aD f,aD (λe=>f (u.1 e))];exact fH
theorem Zhl(f:0<m.2):vlu (Pk xs) m=Gn (Zb xs (qv m)):=by
 unfold vlu Pk;by_cases e:xs.length=0
 .have:xs=[]:=aE e;subst this;rfl
 .obtain⟨n,g⟩:∃n,xs.length=n+1:=⟨xs.length-1,O⟩;rw [g];unfold Zdf;rw [aD e,aD O7];exact Yc1 f xs
theorem Zul(h:Cvd xs)(g:0<a.2)(u:0<b.2)(s:qv a<=qv b):ngb (Pk xs) (chx xs) a b=true↔Zyo xs (qv a) (qv b):=by
 unfold ngb;by_cases k:cmp a b=0
 .rw [aF k,Zhl g,fH];have e:=(Znj g u).1 k;constructor
  .intro f;refine⟨qv a,iI,s,?_⟩;rcases Qq (Zb xs (qv a))with⟨n,j⟩|⟨n,j⟩|⟨n,j⟩
   .rw [j]at f;exact absurd f O3
   .exact n
   .rw [j]at f;exact absurd f O3
  .rintro⟨x,D,F,w⟩;have:x=qv a:=O4;rw [<-this,Zko w];decide
 .rw [aD k];have v:qv a<qv b:=by have:=λe=>k ((Znj g u).2 e);grind
  by_cases l:xs=[]
  .subst l;constructor
   .intro f;exact absurd f (by show ¬(decide ((0:Int)<0) || false)=true;decide)
   .rintro⟨x,D,F,w⟩;exact absurd w (by show ¬(0:Rat)<0;grind)
  .obtain⟨B,G,H,I,P⟩:=Zed h l;rw [<-B.sem v,mI,fH,Yi9 h l g u,show aft (Pk xs) a=Gm xs.length xs (qv a)from Zqn g _ _ (aK _)]
theorem Zqt(h:Cvd xs){m:Nat}(j:m<=100):Zar xs m:=by refine .inr ?_;have g:=h.l;have k:=Pd h.s;have e:(xs.length+2)*(xs.length+2)<=13*13:=aT O O;have f:(xs.length+2)*(xs.length+2)*(Qk xs+m+2*(xs.length-1)+32)<=13*13*357:=aT e O;omega
theorem Zla(h:xs.length=0):Pk xs=[]:=by unfold Pk;rw [h];rfl
theorem Yi8(h:xs.length=0):chx xs=[]:=by unfold chx;rw [aF h]
theorem chx_ne(h:xs.length≠0):chx xs=chn 13 (Ie xs):=by unfold chx;rw [aD h]
theorem Zlb:∀(n m:Nat) (p:List Int),p.length<=n->p.length<=m->Zdf n p=Zdf m p
 | 0,m,p,f,g=>by
  have e:p.length=0:=O;cases m with
  | zero=>rfl
  | succ m=>unfold Zdf;rw [aF e]
 | n+1,m,p,f,g=>by
  have h:=Of p;cases m with
  | zero=>unfold Zdf;rw [aF O]
  | succ m=>
   unfold Zdf;by_cases e:p.length=0
   .rw [aF e,aF e]
   .rw [aD e,aD e,Zlb n m (Ys p) O O]
theorem Zx7(h:p.length≠0):Pk p=p::Pk (Ys p):=by have f:=Of p;unfold Pk;obtain⟨n,e⟩:∃n,p.length=n+1:=⟨p.length-1,O⟩;rw [e,show Zdf (n+1) p=if p.length=0 then []else p::Zdf n (Ys p)from rfl,aD h,Zlb n (Ys p).length (Ys p) O (aK _)]
def Ab(M:Nat)(p:List Int):Prop:=∀i,(cf p i).natAbs<=M
def Ab.sz{n:Nat}(h:Ab M p)(e:M<2^n):Sz n p:=λi=>(Qg n _).2 (bA (h i) e)
def Ab.mono(h:Ab M p)(e:M<=N):Ab N p:=λi=>aB (h i) e
theorem Dz(h:Ab M p)(c:Int):Ab (M*c.natAbs) (Yf p c):=λi=>by rw [Xx,cJ];exact aM _ (h i)
theorem Zog{f:Nat->Int}{M n:Nat}(h:∀k,(f k).natAbs<=M)(e:∀k,n<=k->f k=0):∀m,(Yb f m).natAbs<=min m n*M
 | 0=>by show(0:Int).natAbs<=_;simp
 | m+1=>by
  have g:=Zog h e m;rw [Yk];rcases bE m n with q|q
  .have:=h m;rw [show min (m+1) n=min m n+1 by omega,eF];omega
  .rw [e m q,fN,show min (m+1) n=min m n by omega];exact g
theorem Ye5{n:Nat}(e:Ab M p)(f:Ab N q)(h:p.length<=n):Ab (n*(M*N)) (Qc p q):=λi=>by
 rw [Ki,PS.mul_c];exact aB (Zog (n:=n) (M:=M*N) (λk=>by rw [cJ];exact aT (e k) (f (i-k))) (λk g=>by show cf p k*_=0;rw [Yl O,cY]) _) (aM _ (Nat.min_le_right _ _))
theorem ab_add(e:Ab M p)(f:Ab N q):Ab (M+N) (Za2 p q):=λi=>by rw [Zv6];have:=e i;have:=f i;omega
theorem ab_sub(e:Ab M p)(f:Ab N q):Ab (M+N) (Aq p q):=λi=>by rw [Ay];have:=e i;have:=f i;omega
theorem ab_in(h:∀a∈c,Me a):Ab (2^63) (tzl c):=λi=>by rw [Lt];obtain⟨e,f⟩:=Iw h i;show(c.getD i 0).natAbs<=_;omega
theorem Yhu{n:Nat}(e:p.length<=n)(f:q.length<=n):(Za2 p q).length<=n:=by unfold Za2;refine aB (Kl _) ?_;rw [Yo];omega
theorem Yht{n:Nat}(e:p.length<=n)(f:q.length<=n):(Aq p q).length<=n:=by unfold Aq;refine aB (Kl _) ?_;rw [Yo];omega
theorem Zu0{n m:Nat}(g:Tr p)(h:Tr q)(j:p.length<=n)(k:q.length<=m):(Qc p q).length<=n+m-1:=by
 by_cases e:p=[]
 .rw [e,Fa];exact bB _
 .by_cases f:q=[]
  .rw [f,Zc3];exact bB _
  .have:=On g h e f;omega
def dN:Nat->List Int->List Int
 | 0,p=>p
 | n+1,p=>Ys (dN n p)
def axQ(o:Nat)(c:List Int):List Int:=Yf (dN o (tzl c)) (1000^o)
def sqQ(o:Nat)(c:List Int):List Int:=Qc (axQ o c) (axQ o c)
def sumQ(o:Nat)(x y z:List Int):Nat->List Int
 | 0=>[]
 | i+1=>Za2 (sumQ o x y z i) (sqQ o (Zt i x y z))
def kilo(o:Nat):Int:=Ck (List.replicate o 1000)
def timC(o:Nat)(m ov T:Int):Int:=Ck (m::ov::List.replicate o T)
def oneQ(o:Nat)(m ov T:Int):List Int:=Yf [1] (timC o m ov T)
def formP(o:Nat)(m ov T:Int)(x y z:List Int):List Int:=Yi (Aq (Qc (oneQ o m ov T) (oneQ o m ov T)) (sumQ o x y z 3))
structure Sgo (fr to ov:Int) (x y z:List Int):Prop where
 t1:0<=fr
 t2:fr<to
 t3:to<=3600000
 o1:1<=ov
 o2:ov<=4294967296
 hx:∀a∈x,Me a
 hy:∀a∈y,Me a
 hz:∀a∈z,Me a
 lx:1<=x.length/\x.length<=6
 ly:1<=y.length/\y.length<=6
 lz:1<=z.length/\z.length<=6
def Sgo.hc{fr e:Int}{x y:List Int}(h:Sgo fr e ov x y z)(i:Nat):∀a∈Zt i x y z,Me a:=Cq h.hx h.hy h.hz i
def Sgo.lc{fr e:Int}{x y:List Int}(h:Sgo fr e ov x y z)(i:Nat):1<=(Zt i x y z).length/\(Zt i x y z).length<=6:=Ft (p:=λl:List Int=>1<=l.length/\l.length<=6) h.lx h.ly h.lz
theorem Sgo.of{fr j:Int}{x y:List Int}(v:∀a∈x,Me a)(w:∀a∈y,Me a)(B:∀a∈z,Me a)(h:Bj fr j ov x y z=true):Sgo fr j ov x y z:=by unfold Bj Zwt axB at h;simp only [aP,cL]at h;obtain⟨⟨⟨⟨⟨⟨⟨⟨k,l⟩,n⟩,s⟩,u⟩,e⟩,f⟩,g⟩,-⟩:=h;exact⟨k,l,n,s,u,v,w,B,⟨e.1.1.1,e.1.1.2⟩,⟨f.1.1.1,f.1.1.2⟩,⟨g.1.1.1,g.1.1.2⟩⟩
def Mk:Nat->Nat
 | 0=>2^63
 | 1=>5*2^63
 | _=>4*(5*2^63)
theorem Zdr(h:c.length<=6):¬25<(tzl c).length:=by have:=Kl c;omega
def Lw(z:R2):Prop:=0<z.2/\Int.gcd z.1 z.2=1
theorem lgcd_p(e:0<y):Nu x y=(Int.gcd x y:Int):=by unfold Nu;rw [aD O]
theorem Ybr (x:Int)(e:0<y):Lw (x/Nu x y,y/Nu x y):=by have f:0<Int.gcd x y:=Int.gcd_pos_of_ne_zero_right _ O;rw [lgcd_p e];refine⟨Int.ediv_pos_of_pos_of_dvd e O (iS ..),?_⟩;exact Int.gcd_ediv_gcd_ediv_gcd f
theorem Zmn(e:0<a.2)(h:¬Ld a.1 a.2):Lw (slow a):=by obtain⟨f,g,-⟩:=Zc6 h;have:=Ybr a.1 e;unfold slow;rw [f,g];exact this
theorem Ybq(h:Zcl a b)(e:0<a.2)(f:0<b.2):Lw (Qt a b):=by obtain⟨j,k,-⟩:=Zc6 h.2;have g:0<Ij (a.1*b.2+b.1*a.2) (a.2*b.2)*2:=gW (Zr7 h.1 (gW e f)) O3;have:=Ybr (Hi (a.1*b.2+b.1*a.2) (a.2*b.2)*1) g;unfold Qt;rw [j,k];exact this
structure Hv (n Q j:Nat) (W:Rat) (a b:R2):Prop where
 hQ:0<Q
 hQ2:Q<2^(2*n)
 ea:En (2^n) Q j a
 eb:En (2^n) Q j b
 wd:(qv b-qv a)*((2^j:Nat):Rat)=W
 le:qv a<=qv b
 la:Lw a
 lb:Lw b
theorem Hv.start{n:Nat}(j:0<a.2)(k:0<b.2)(s:bl a.1.natAbs<=n)(D:bl a.2.natAbs<=n)(u:bl b.1.natAbs<=n)(F:bl b.2.natAbs<=n)(v:n<=65536)(l:qv a<=qv b):∃Q,Hv n Q 0 (qv b-qv a) (slow a) (slow b):=by
 obtain⟨S,V,Y,W,f⟩:=Zaq _ j s D v;obtain⟨t1,t2,t3,t4,t5⟩:=Zaq _ k u F v;have P:=(Qg n _).1 W;have R:=(Qg n _).1 t4;have w:=Zl8 j (eP ((Qg n _).1 s));have B:=Zl8 k (eP ((Qg n _).1 u));have g:0<(slow a).2.natAbs*(slow b).2.natAbs:=fU O O;have h:(slow a).2.natAbs*(slow b).2.natAbs<2^(2*n):=by rw [show 2*n=n+n by omega,bK];exact iW P (eP R) (bQ O3)
 generalize I:(slow a).2.natAbs*(slow b).2.natAbs=Q at *;have e:((Q*2^0:Nat):Int)=(slow a).2*(slow b).2:=by rw [gT,jQ,<-I];push_cast;rw [kP O,kP O]
 have G:En (2^n) Q 0 (slow a):=⟨V,by rw [e];exact iT _ _,by rw [f];exact w.1,by rw [f];exact w.2⟩;have H:En (2^n) Q 0 (slow b):=⟨t2,by rw [e];exact Int.dvd_mul_left _ _,by rw [t5];exact B.1,by rw [t5];exact B.2⟩;exact⟨Q,g,h,G,H,by rw [f,t5,gT];push_cast;grind,by rw [f,t5];exact l,Zmn j S,Zmn k t1⟩
theorem Hv.mid{n Q j B:Nat}{W:Rat}(h:Hv n Q j W a b)(V:3*n+2+j<=B)(k:B<=65536) :
  Zcl a b/\(bl (Qt a b).1.natAbs<=B/\bl (Qt a b).2.natAbs<=B/\0<(Qt a b).2)/\qv (Qt a b)=(qv a+qv b)/2/\(bl a.1.natAbs<=B/\bl a.2.natAbs<=B/\0<a.2)/\(bl b.1.natAbs<=B/\bl b.2.natAbs<=B/\0<b.2)/\
  Hv n Q (j+1) W a (Qt a b)/\Hv n Q (j+1) W (Qt a b) b:=by
 have e:∀m,m<=B->2^m<=2^B:=λm h=>dE O3 h;have g:Q*2^(j+1)<2^B:=by have:Q*2^(j+1)<2^(2*n)*2^(j+1):=eD h.hQ2 (bQ O3);rw [<-bK]at this;exact cZ this (e _ O)
 have l:2*2^n*(Q*2^j)<2^B:=by
  have F:Q*2^j<2^(2*n)*2^j:=eD h.hQ2 (bQ O3);have v:2*2^n*(Q*2^j)<2*2^n*(2^(2*n)*2^j):=iX F (fU O3 (bQ O3));have G:2*2^n*(2^(2*n)*2^j)=2^(3*n+1+j):=by rw [<-bK,<-nD,<-bK];congr 1;omega
  rw [G]at v;exact cZ v (e _ O)
 obtain⟨D,s,u,I,P⟩:=mid_en h.ea h.eb h.hQ g l k;obtain⟨R,S⟩:=Yda j 0 B h.ea h.hQ h.hQ2 O;obtain⟨r1,r2⟩:=Yda j 0 B h.eb h.hQ h.hQ2 O;have f:=Ybq D h.ea.pos h.eb.pos;have w:((2^(j+1):Nat):Rat)=2*((2^j:Nat):Rat):=by rw [cC];push_cast;grind
 have H:=h.le;refine⟨D,⟨I,P,s.pos⟩,u,⟨R,S,h.ea.pos⟩,⟨r1,r2,h.eb.pos⟩,⟨h.hQ,h.hQ2,h.ea.up,s,?_,O4,h.la,f⟩,⟨h.hQ,h.hQ2,s,h.eb.up,?_,O4,f,h.lb⟩⟩
 .rw [u,w,<-h.wd];grind
 .rw [u,w,<-h.wd];grind
def Zwv{k n:Nat}(h:Sz k p)(e:k<=n)(i:Nat):(cf p i).natAbs<=2^n:=aB (Zfb h i) (dE O3 e)
theorem Ygd(h:Cvd xs)(j:xs≠[]):Ce 13 xs/\∀u v:Rat,-((2^34:Nat):Rat)<=u->u<=v->v<=((2^34:Nat):Rat)->v-u<=1/((2^5000:Nat):Rat)->Be 13 xs u-Be 13 xs v<=1:=by
 have F:=h.l;obtain⟨k,e,B,D⟩:=chG 13 h.v.tr j h.s O O O;have g:=Bg e O;have f:∀n,n<=11->2<=n->Ztz (2^34) (2^225) n 5000=true:=O6;obtain⟨n,l⟩:∃n:Nat,n=225:=⟨_,rfl⟩;rw [<-l]at f;have g:Sz n (Ys (sqf 13 xs)):=by rw [l];exact g
 have w:∀i,(cf (sqf 13 xs) i).natAbs<=2^n:=λi=>Zwv e O i;exact⟨k,λu v=>sep_of h.v.tr j k (bQ O3) (A:=2^n) (bQ O3) w (λi=>Zfb g i) (λs=>f _ O s) u v⟩
theorem Zxd{j e w:Nat}{x W:Rat}(v:1/((2^(e+1):Nat):Rat)<x)(B:x*((2^j:Nat):Rat)=W)(D:W<=((2^w:Nat):Rat)):j<e+1+w:=by
 have g:=two_pow_pos (e+1);have h:=two_pow_pos j;rcases bE j (e+1+w)with q|q
 .exact q
 .exfalso;have hi:0<((2^(e+1):Nat):Rat)⁻¹:=fX.2 g;have f:((2^(e+1):Nat):Rat)*((2^(e+1):Nat):Rat)⁻¹=1:=lG _ O4;have k:((2^(e+1):Nat):Rat)*((2^w:Nat):Rat)<=((2^j:Nat):Rat):=by
   have:2^(e+1)*2^w<=2^j:=by rw [<-bK];exact dE O3 q
   exact_mod_cast this
  have l:((2^(e+1):Nat):Rat)⁻¹<x:=O4;have n:=aY (show 0<x-((2^(e+1):Nat):Rat)⁻¹ by grind) h;have s:=aI (dA hi) (show 0<=((2^j:Nat):Rat)-((2^(e+1):Nat):Rat)*((2^w:Nat):Rat) by grind);have u:((2^(e+1):Nat):Rat)⁻¹*(((2^(e+1):Nat):Rat)*((2^w:Nat):Rat))=((2^w:Nat):Rat):=by rw [<-kH,jY (((2^(e+1):Nat):Rat)⁻¹),f,oE]
  grind
structure NIn (xs:List Int) (s t:Rat) (j:Nat) (a b:R2):Prop where
 ex:∃Q W,Hv 34 Q j W a b/\W<=((2^34:Nat):Rat)
 lo:s<=qv a
 hi:qv b<=t
 l0:-((2^33:Nat):Rat)<=s
 h0:t<=((2^33:Nat):Rat)
 pa:0<=Zb xs (qv a)
 pb:0<=Zb xs (qv b)
 ng:Zyo xs (qv a) (qv b)
theorem rat34:((2^34:Nat):Rat)=2*((2^33:Nat):Rat)/\(1:Rat)<=((2^33:Nat):Rat):=by
 have h:∀n:Nat,((2^(n+1):Nat):Rat)=2*((2^n:Nat):Rat):=λn=>by rw [cC];push_cast;grind
 constructor
 .exact h 33
 .exact_mod_cast (show 1<=2^33 by decide)
theorem NIn.j{hi:Rat}{j:Nat}(g:Cvd xs)(f:xs≠[])(h:NIn xs lo hi j a b):j<5035:=by obtain⟨Q,W,k,l⟩:=h.ex;obtain⟨n,hs⟩:=Ygd g f;obtain⟨F,G⟩:=rat34;have u:=h.lo;have v:=h.hi;have B:=h.l0;have D:=h.h0;have:=Yha (Zed g f).1 n (K:=2^34) (e:=5000) hs (s:=qv a) (t:=qv b) O4 O4 h.pa h.pb h.ng;exact Zxd (e:=5000) (w:=34) this k.wd l
theorem NIn.start(e:0<a.2)(f:0<b.2)(j:bl a.1.natAbs<=32)(D:bl a.2.natAbs<=32)(k:bl b.1.natAbs<=32)(F:bl b.2.natAbs<=32)(g:qv a<=qv b)(u:0<=Zb xs (qv a))(v:0<=Zb xs (qv b))(s:Zyo xs (qv a) (qv b)) :
  NIn xs (qv a) (qv b) 0 (slow a) (slow b):=by
 obtain⟨Q,l⟩:=Hv.start (n:=34) e f O O O O O g;obtain⟨-,-,-,-,h⟩:=Zaq 34 e O O O;obtain⟨-,-,-,-,t5⟩:=Zaq 34 f O O O;have w:=Zl8 (K:=2^33) e (aB (eP ((Qg 32 _).1 j)) O3);have B:=Zl8 (K:=2^33) f (aB (eP ((Qg 32 _).1 k)) O3);obtain⟨G,H⟩:=rat34;exact⟨⟨Q,_,l,O4⟩,by rw [h];exact iI,by rw [t5];exact iI,w.1,B.2,by rw [h];exact u,by rw [t5];exact v,by rw [h,t5];exact s⟩
structure Fnd (xs:List Int) (s t:Rat) (m:R2):Prop where
 ng:Zb xs (qv m)<0
 lo:s<=qv m
 hi:qv m<=t
 b1:bl m.1.natAbs<=5200
 b2:bl m.2.natAbs<=5200
 lw:Lw m
theorem NIn.round{hi:Rat}{j:Nat}(D:Cvd xs)(P:xs≠[])(h:NIn xs lo hi j a b) :
  Zcl a b/\(bl (Qt a b).1.natAbs<=5200/\bl (Qt a b).2.natAbs<=5200/\0<(Qt a b).2)/\(bl a.1.natAbs<=5200/\bl a.2.natAbs<=5200/\0<a.2)/\(bl b.1.natAbs<=5200/\bl b.2.natAbs<=5200/\0<b.2)/\
  (vlu (Pk xs) (Qt a b)<0->Fnd xs lo hi (Qt a b))/\(¬vlu (Pk xs) (Qt a b)<0->ngb (Pk xs) (chx xs) a (Qt a b)=true->NIn xs lo hi (j+1) a (Qt a b))/\
  (¬vlu (Pk xs) (Qt a b)<0->ngb (Pk xs) (chx xs) a (Qt a b)=false->NIn xs lo hi (j+1) (Qt a b) b):=by
 have hj:=h.j D P;obtain⟨Q,W,v,w⟩:=h.ex;obtain⟨G,n,m3,u,H,Y,Z⟩:=v.mid (B:=5200) O O;have R:=v.le;have S:=h.lo;have V:=h.hi;have F:=Zhl (xs:=xs) n.2.2;have l:¬vlu (Pk xs) (Qt a b)<0->0<=Zb xs (qv (Qt a b)):=λe=>by
  rw [F]at e;rcases Qq (Zb xs (qv (Qt a b)))with⟨f,g⟩|⟨f,g⟩|⟨f,g⟩
  .exact dA f
  .rw [g]at e;exact absurd O3 e
  .rw [f];exact iI
 have k:=Zul D u.2.2 n.2.2 (show qv a<=qv (Qt a b) by grind);refine⟨G,n,u,H,λe=>?_,λe s=>?_,λe s=>?_⟩
 .have:Zb xs (qv (Qt a b))<0:=by
   rw [F]at e;rcases Qq (Zb xs (qv (Qt a b)))with⟨f,g⟩|⟨f,g⟩|⟨f,g⟩
   .rw [g]at e;exact absurd e O3
   .exact f
   .rw [g]at e;exact absurd e O3
  exact⟨this,O4,O4,n.1,n.2.1,Ybq G u.2.2 H.2.2⟩
 .exact⟨⟨Q,W,Y,w⟩,S,O4,h.l0,h.h0,h.pa,l e,k.1 s⟩
 .refine⟨⟨Q,W,Z,w⟩,O4,V,h.l0,h.h0,l e,h.pb,?_⟩;obtain⟨x,x1,x2,I⟩:=h.ng;rcases(show x<=qv (Qt a b)\/qv (Qt a b)<=x by grind)with q|q
  .have:=k.2 ⟨x,x1,q,I⟩;rw [s]at this;exact absurd this O3
  .exact⟨x,q,x2,I⟩
def frs(xs:List Int):Nat->R2->R2->R2×R2
 | 0,a,b=>(a,b)
 | n+1,a,b=>if ngb (Pk xs) (chx xs) a (Qt a b)then frs xs n a (Qt a b)else frs xs n (Qt a b) b
structure E32 (a:R2):Prop where
 p:0<a.2
 b1:bl a.1.natAbs<=32
 b2:bl a.2.natAbs<=32
theorem E32.slow(h:E32 a):E32 (slow a)/\qv (Go.Sky.slow a)=qv a/\Lw (Go.Sky.slow a)/\¬Ld a.1 a.2:=by obtain⟨e,f,g,j,k⟩:=Zaq 32 h.p h.b1 h.b2 O;exact⟨⟨f,g,j⟩,k,Zmn h.p e,e⟩
theorem Zgt(g:0<m.2):vlu (Pk xs) m<0↔Zb xs (qv m)<0:=by
 rw [Zhl g];rcases Qq (Zb xs (qv m))with⟨f,e⟩|⟨f,e⟩|⟨f,e⟩
 .rw [e];constructor
  .intro h;exact absurd h O3
  .intro h;grind
 .rw [e];exact⟨λ_=>f,λ_=>O3⟩
 .rw [e,f];constructor
  .intro h;exact absurd h O3
  .intro h;grind
theorem end_l(k:E32 a)(e:qv a<=qv b)(h:vlu (Pk xs) (slow a)<0):Fnd xs (qv a) (qv b) (slow a):=by obtain⟨f,g,l,n⟩:=k.slow;have j:=(Zgt f.p).1 h;exact⟨j,by rw [g];exact iI,by rw [g];exact e,aB f.b1 O3,aB f.b2 O3,l⟩
theorem end_r(k:E32 b)(e:qv a<=qv b)(h:vlu (Pk xs) (slow b)<0):Fnd xs (qv a) (qv b) (slow b):=by obtain⟨f,g,l,n⟩:=k.slow;have j:=(Zgt f.p).1 h;exact⟨j,by rw [g];exact e,by rw [g];exact iI,aB f.b1 O3,aB f.b2 O3,l⟩
theorem Zxg(l:Cvd xs)(f:E32 a)(g:E32 b)(h:qv a<=qv b)(j:¬vlu (Pk xs) (slow a)<0)(k:¬vlu (Pk xs) (slow b)<0)(n:ngb (Pk xs) (chx xs) a b=true) :
  NIn xs (qv a) (qv b) 0 (slow a) (slow b):=by
 obtain⟨v,w,B,D⟩:=f.slow;obtain⟨t1,t2,t3,t4⟩:=g.slow;have s:¬Zb xs (qv (slow a))<0:=λe=>j ((Zgt v.p).2 e);have u:¬Zb xs (qv (slow b))<0:=λe=>k ((Zgt t1.p).2 e);rw [w]at s;rw [t2]at u;exact NIn.start f.p g.p f.b1 f.b2 g.b1 g.b2 h O4 O4 ((Zul l f.p g.p h).1 n)
theorem ngb_ne(h:ngb (Pk xs) (chx xs) a b=true):xs≠[]:=λe=>by
 subst e;unfold ngb at h;split at h
 .exact absurd h (by show ¬decide ((0:Int)<0)=true;decide)
 .exact absurd h (by show ¬(decide ((0:Int)<0) || false)=true;decide)
theorem E32.efit(h:E32 a):efit a=true:=by have:=h.b1;have:=h.b2;unfold Go.Sky.efit;exact aN O
structure FIn (xs:List Int) (j:Nat) (a b:R2):Prop where
 ex:∃Q W,Hv 34 Q j W a b
 bj:j<=200
theorem FIn.start(e:E32 a)(f:E32 b)(g:qv a<=qv b):FIn xs 0 (slow a) (slow b):=by obtain⟨Q,h⟩:=Hv.start (n:=34) e.p f.p (aB e.b1 O3) (aB e.b2 O3) (aB f.b1 O3) (aB f.b2 O3) O g;exact⟨⟨Q,_,h⟩,O⟩
theorem FIn.round{j:Nat}(h:FIn xs j a b) :
  Zcl a b/\(bl (Qt a b).1.natAbs<=5200/\bl (Qt a b).2.natAbs<=5200/\0<(Qt a b).2)/\(bl a.1.natAbs<=5200/\bl a.2.natAbs<=5200/\0<a.2)/\(bl b.1.natAbs<=5200/\bl b.2.natAbs<=5200/\0<b.2)/\
  (j<200->FIn xs (j+1) a (Qt a b)/\FIn xs (j+1) (Qt a b) b):=by
 obtain⟨Q,W,e⟩:=h.ex;have v:=h.bj;obtain⟨g,k,w,l,n,s,u⟩:=e.mid (B:=5200) O O;exact⟨g,k,l,n,λf=>⟨⟨⟨Q,W,s⟩,O⟩,⟨⟨Q,W,u⟩,O⟩⟩⟩
theorem Yg9(g:E32 a)(j:E32 b)(f:qv a<=qv b)(hi:i<2)(h:vlu (Pk xs) ([slow a,slow b].getD i (0,0))<0):Fnd xs (qv a) (qv b) ([slow a,slow b].getD i (0,0)):=by
 rcases(show i=0\/i=1 by omega)with e|e
 .subst e;exact end_l g f h
 .subst e;exact end_r j f h
theorem Yim(f:E32 a)(g:E32 b)(i:Nat)(hi:i<2):E32 ([slow a,slow b].getD i (0,0)):=by
 rcases(show i=0\/i=1 by omega)with e|e
 .subst e;exact f.slow.1
 .subst e;exact g.slow.1
def Yi3(e:E32 a)(f:E32 b)(h:¬0<cmp a b):qv a<=qv b:=(Yi2 e.p f.p).1 O
def Zco:E32 (0,1):=⟨O3,O3,O3⟩
def Zcn:E32 (1,1):=⟨O3,O3,O3⟩
def Zcp:¬0<cmp (0,1) (1,1):=O6
def Et(xs:List Int):Bool:=ngb (Pk xs) (chx xs) (0,1) (1,1)
def slS(d:List Int):Nat->Int
 | 0=>0
 | k+1=>slS d k+Ck [d.getD k 0,(k:Int)+1]
def fsS(d:List Int)(k:Nat):Int:=if k=0 then 0 else d.getD 0 0
def qr(a b:Int):R2:=(Hi a b,Ij a b)
def bgS(c:List Int):Int:=fsS (c.drop 1) (c.drop 1).length
def enS(c:List Int):Int:=slS (c.drop 1) (c.drop 1).length
def bS(ov T:Int)(x y z:List Int):Nat->List R2
 | 0=>List.replicate 3 (0,0)
 | i+1=>(bS ov T x y z i).set i (qr (bgS (Zt i x y z)) (Ck [ov,T]))
def eS(ov T:Int)(x y z:List Int):Nat->List R2
 | 0=>List.replicate 3 (0,0)
 | i+1=>(eS ov T x y z i).set i (qr (enS (Zt i x y z)) (Ck [ov,T]))
def joinB(fr h ov:Int)(x y z:List Int)(e g f:Int)(j k l:List Int):Bool:=
 decide (qr (bgS j) (Ck [f,g-e])=qr (enS x) (Ck [ov,h-fr])/\qr (bgS k) (Ck [f,g-e])=qr (enS y) (Ck [ov,h-fr])/\qr (bgS l) (Ck [f,g-e])=qr (enS z) (Ck [ov,h-fr]))
def plT(c:List Int)(a d:Int)(k:Nat):Int:=c.getD k 0*(a^k*d^(5-(k:Int)).toNat)
def plS(c:List Int)(a d:Int):Nat->Int
 | 0=>0
 | k+1=>plS c a d k+plT c a d k
def pl(c:List Int)(a d:Int):Int:=plS c a d c.length
def atS(a d:Int)(x y z:List Int):Nat->List Int
 | 0=>List.replicate 3 0
 | i+1=>(atS a d x y z i).set i (pl (Zt i x y z) a d)
def gS(ov a d:Int)(x y z:List Int):Nat->Int
 | 0=>ov*d^5
 | i+1=>(Int.gcd (gS ov a d x y z i) (pl (Zt i x y z) a d):Int)
abbrev plV (p q r o:Int):Value:= .agg #[.bool (decide (p<0)),.string (Xn p.natAbs),.bool (decide (q<0)),.string (Xn q.natAbs),.bool (decide (r<0)),.string (Xn r.natAbs),.bool (decide (o<0)),.string (Xn o.natAbs)]
theorem Ew(a d:Int)(x y z:List Int):∀i,(atS a d x y z i).length=3
 | 0=>rfl
 | i+1=>by show(List.set _ _ _).length=3;rw [cI];exact Ew a d x y z i
theorem Yey(a d:Int)(x y z:List Int)(h:i<3):atS a d x y z i=(atS a d x y z i).set i 0:=by
 match i,h with
 | 0,_=>rfl
 | 1,_=>rfl
 | 2,_=>rfl
theorem Zor{l:List Int}{v:Int}(h:i<l.length):(l.set i v).getD i 0=v:=by rw [aC,List.getElem?_set_self h];rfl
theorem Zt9(h:∀x∈c,Me x){a:Int}(j:0<=a/\a<=3600000)(l:1<=d/\d<=3600000){k:Nat}(n:k<=5):(a^k*d^(5-(k:Int)).toNat).natAbs<=3600000^5/\(plT c a d k).natAbs<=9223372036854775808*3600000^5:=by
 have e:(a^k*d^(5-(k:Int)).toNat).natAbs<=3600000^5:=by rw [cJ,lH,lH];refine aB (aT (gD (show a.natAbs<=3600000 by omega) k) (gD (show d.natAbs<=3600000 by omega) _)) ?_;rw [<-bK,show k+(5-(k:Int)).toNat=5 by omega];exact aK _
 obtain⟨f,g⟩:=Iw h k;refine⟨e,?_⟩;unfold plT;rw [cJ];exact aT O e
theorem Zub{c:List Int}(h:∀x∈c,Me x){a d:Int}(e:0<=a/\a<=3600000)(f:1<=d/\d<=3600000):∀k,k<=6->(plS c a d k).natAbs<=k*(9223372036854775808*3600000^5)
 | 0,_=>by show(0:Int).natAbs<=_;decide
 | k+1,g=>by have j:=Zub h e f k O;have:=(Zt9 h e f (k:=k) O).2;show(plS c a d k+plT c a d k).natAbs<=_;rw [eF];omega
def Zfy(h:∀x∈c,Me x){a:Int}(f:0<=a/\a<=3600000)(g:1<=d/\d<=3600000){k:Nat}(e:k<=6):bl (plS c a d k).natAbs<=180:=
 (Qg 180 _).2 (bA (Zub h f g k e) (bA (aM _ e) O3))
theorem Yej(h:∀x∈c,Me x){a:Int}(g:0<=a/\a<=3600000)(j:1<=d/\d<=3600000){k:Nat}(l:k<=5):bl (a^k*d^(5-(k:Int)).toNat).natAbs<=180/\bl (plT c a d k).natAbs<=180:=by obtain⟨e,f⟩:=Zt9 h g j l;exact⟨(Qg 180 _).2 (bA e O3),(Qg 180 _).2 (bA f O3)⟩
theorem Zs5 (a:Int)(f:0<=a/\a<=3600000){k:Nat}(e:k<=5):bl (a^k).natAbs<=180:=by refine(Qg 180 _).2 ?_;rw [lH];exact bA (aB (gD (show a.natAbs<=3600000 by omega) k) (dE O3 e)) O3
theorem Ycp{fr k ov:Int}{x y z:List Int}(h:Sgo fr k ov x y z){a d:Int}(e:0<=a/\a<=3600000)(f:1<=d/\d<=3600000):∀i,0<gS ov a d x y z i/\bl (gS ov a d x y z i).natAbs<=180
 | 0=>by have g:=h.o1;have j:=h.o2;refine⟨gW O (kN O),(Qg 180 _).2 ?_⟩;show(ov*d^5).natAbs<_;rw [cJ,lH];exact bA (aT (show ov.natAbs<=4294967296 by omega) (gD (show d.natAbs<=3600000 by omega) 5)) O3
 | i+1=>by obtain⟨g,j⟩:=Ycp h e f i;have l:0<Int.gcd (gS ov a d x y z i) (pl (Zt i x y z) a d):=Int.gcd_pos_of_ne_zero_left _ O;have n:=Znr (gS ov a d x y z i) (pl (Zt i x y z) a d);have s:bl (pl (Zt i x y z) a d).natAbs<=180:=Zfy (h.hc i) e f (h.lc i).2;show 0<((Int.gcd _ _:Nat):Int)/\bl ((Int.gcd _ _:Nat):Int).natAbs<=180;exact⟨O,O⟩
def sameP(ov a d:Int)(x y z:List Int)(e g f:Int)(h j k:List Int):Bool:=
 decide (pl x a d/gS ov a d x y z 3=pl h g f/gS e g f h j k 3/\pl y a d/gS ov a d x y z 3=pl j g f/gS e g f h j k 3/\pl z a d/gS ov a d x y z 3=pl k g f/gS e g f h j k 3/\ov*d^5/gS ov a d x y z 3=e*f^5/gS e g f h j k 3)
def Zpm(g ov:Int)(x y z:List Int)(e f:Int)(h j k:List Int):Bool:=decide (g=e) && sameP ov 1 1 x y z f 0 1 h j k
structure Gin (g:Zj):Prop where
 f:Me g.1.1
 t:Me g.1.2.1
 o:Me g.1.2.2
 x:∀a∈g.2.1.2,Me a
 y:∀a∈g.2.2.1.2,Me a
 z:∀a∈g.2.2.2.2,Me a
def seB(g:Zj):Bool:=Bj g.1.1 g.1.2.1 g.1.2.2 g.2.1.2 g.2.2.1.2 g.2.2.2.2
def meG(g h:Zj):Bool:=Zpm g.1.2.1 g.1.2.2 g.2.1.2 g.2.2.1.2 g.2.2.2.2 h.1.1 h.1.2.2 h.2.1.2 h.2.2.1.2 h.2.2.2.2
abbrev SgG (g:Zj):Prop:=Sgo g.1.1 g.1.2.1 g.1.2.2 g.2.1.2 g.2.2.1.2 g.2.2.2.2
def Hr{g:Zj}(h:Gin g)(e:seB g=true):SgG g:=Sgo.of h.x h.y h.z e
def Zc4(ps:List Zj)(i:Nat):Bool:=seB (ps.getD i G0) && (decide (i=0) || meG (ps.getD (i-1) G0) (ps.getD i G0))
def Xk(ps:List Zj):Bool:=(List.range ps.length).all (Zc4 ps) && decide (1<=ps.length) && decide (ps.length<=256)
theorem Zg5{ps:List Zj}(h:Zc4 ps i=true):seB (ps.getD i G0)=true:=by unfold Zc4 at h;rw [aP]at h;exact h.1
theorem okAt_s{ps:List Zj}(h:seB (ps.getD i G0)=false):Zc4 ps i=false:=by unfold Zc4;rw [h];rfl
theorem okAt_0{ps:List Zj}(h:seB (ps.getD i G0)=true)(e:i=0):Zc4 ps i=true:=by unfold Zc4;rw [h,aN e];rfl
theorem Zr4{ps:List Zj}(h:seB (ps.getD i G0)=true)(e:0<i):Zc4 ps i=meG (ps.getD (i-1) G0) (ps.getD i G0):=by unfold Zc4;rw [h,aJ O];rfl
theorem Zuf (i:Nat){ps:List Zj}(hi:i<ps.length)(h:Zc4 ps i=false):Xk ps=false:=by
 unfold Xk;have:(List.range ps.length).all (Zc4 ps)=false:=by
  cases hb:(List.range ps.length).all (Zc4 ps)with
  | false=>rfl
  | true=>have:=bW.1 hb i (iC.2 hi);rw [h]at this;cases this
 rw [this];rfl
theorem Zug{ps:List Zj}(h:∀i,i<ps.length->Zc4 ps i=true):Xk ps=decide (1<=ps.length/\ps.length<=256):=by unfold Xk;rw [bW.2 λi hi=>h i (iC.1 hi)];simp
theorem Zw4(g:Zj)(i:Nat):seB g=false\/(seB g=true/\i=0)\/(seB g=true/\0<i):=by
 cases seB g
 .exact .inl rfl
 .exact .inr (by rcases aZ i with h|h;exact .inl ⟨rfl,h⟩;exact .inr ⟨rfl,h⟩)
theorem Dh{ps:List Zj}(h:Xk ps=true):(∀i,i<ps.length->Zc4 ps i=true)/\1<=ps.length/\ps.length<=256:=by unfold Xk at h;simp only [aP,cL]at h;exact⟨λi hi=>bW.1 h.1.1 i (iC.2 hi),h.1.2,h.2⟩
open Go.ChangeShapes Go.WideShapes Go.ChangeAt Go.RowKit Go.Joins Go.Deep
open Go.Proofs
variable {P:Program} {W:World} {H:Type} {enc:TypeId×Value->H}
theorem Zsd{n:Int}(h:(Lit.int .i64 n).wf=true):Me n:=by simp [Lit.wf,IntKind.has,IntKind.min,IntKind.max,IntKind.bits,IntKind.signed]at h;exact⟨O,O⟩
theorem Zyd{w:World}{a:Addr}{v:Value}(h:w.cell? a=some v):a.spot=none/\a.block<w.heap.size:=by
 unfold World.cell? at h;split at h
 .rename_i c t f e;refine⟨?_,(aO.1 e).1⟩;cases hs:a.spot with
  | none=>rfl
  | some x=>rw [hs]at h;simp at h
 .cases h
end Go.Sky
namespace Go.Sky
open Go.ChangeShapes Go.WideShapes Go.ChangeAt Go.RowKit Go.Joins Go.Deep
open Go.Proofs
variable {P:Program} {W:World} {H:Type} {enc:TypeId×Value->H}
theorem Zr1 {t ti:TypeId} {f0 f1 f2:Field} {v:Value} {d:DataW H} {p:List MemPlace} (q:P.underlying t=some (.struct #[f0,f1,f2])) (F:P.cellsOf t=3) (z:f0.type=ti) (B:f1.type=ti) (D:f2.type=ti) (R:f0.offset=0) (S:f1.offset=1) (V:f2.offset=2)
  (hi:P.underlying ti=some (.int .i64)) (f:P.cellsOf ti=1) {r:Reach} {x:Nat} (I:Value.okWide P W r x t v) (h:DataW.Trod enc P W 0 (λ_=>true) true t v d p):∃a b c:Int,v= .agg #[.int .i64 a,.int .i64 b,.int .i64 c]/\Me a/\Me b/\Me c:=by
 obtain⟨y,rfl,e⟩:=okWide_struct q I;obtain⟨o,G⟩:=h;obtain⟨xs,n,_,hx,hl,i,g⟩:=DataW.trod_struct q G;rw [F]at e;obtain⟨l⟩:=y;have e:l.length=3:=by simpa using e
 match l,e with
 | [c0,c1,c2],_=>
 match xs,i with
 | [y0,y1,y2],_=>
 have j:=g 0 f0 rfl;have k:=g 1 f1 rfl;have m:=g 2 f2 rfl;rw [z,R,f]at j;rw [B,S,f]at k;rw [D,V,f]at m;obtain⟨M,s,Y⟩:=DataW.trod_int hi j;obtain⟨N,u,Z⟩:=DataW.trod_int hi k;obtain⟨Q,w,w2⟩:=DataW.trod_int hi m;simp [Value.cells]at s u w;subst s;subst u;subst w;exact⟨M,N,Q,rfl,Zsd Y.2,Zsd Z.2,Zsd w2.2⟩
end Go.Sky
namespace Go.Proofs.YtlnoheikolgejaaGreat
open Go Go.Joins Go.Sky
def Nx{a b:Bool}(h:a=true)(c:b=true):(a && b)=true:=by rw [h,c];rfl
def cf0:(λ(P:Program) (f:FuncId) (fn:Func) (s:ChangeSpec) (c:OpenClaim)=>c.wf (OpenSpec.ofChange s)) Tryz.checked.prog 3 Tryz.f3 Rows.launchPathsSpec Rows.launchPathsRow=true:=O5
def cf1:(λ(P:Program) (f:FuncId) (fn:Func) (s:ChangeSpec) (c:OpenClaim)=>laidOutB P) Tryz.checked.prog 3 Tryz.f3 Rows.launchPathsSpec Rows.launchPathsRow=true:=O5
def cf2:(λ(P:Program) (f:FuncId) (fn:Func) (s:ChangeSpec) (c:OpenClaim)=>mapsRowed P) Tryz.checked.prog 3 Tryz.f3 Rows.launchPathsSpec Rows.launchPathsRow=true:=O5
def cf3:(λ(P:Program) (f:FuncId) (fn:Func) (s:ChangeSpec) (c:OpenClaim)=>fn.params.all (P.readableRec ·)) Tryz.checked.prog 3 Tryz.f3 Rows.launchPathsSpec Rows.launchPathsRow=true:=O5
def cf4:(λ(P:Program) (f:FuncId) (fn:Func) (s:ChangeSpec) (c:OpenClaim)=>namedTie P c.named s.vars) Tryz.checked.prog 3 Tryz.f3 Rows.launchPathsSpec Rows.launchPathsRow=true:=O5
def cf5:(λ(P:Program) (f:FuncId) (fn:Func) (s:ChangeSpec) (c:OpenClaim)=>c.stops == []) Tryz.checked.prog 3 Tryz.f3 Rows.launchPathsSpec Rows.launchPathsRow=true:=O5
def cf6:(λ(P:Program) (f:FuncId) (fn:Func) (s:ChangeSpec) (c:OpenClaim)=>P.stops == []) Tryz.checked.prog 3 Tryz.f3 Rows.launchPathsSpec Rows.launchPathsRow=true:=O5
def cf7:(λ(P:Program) (f:FuncId) (fn:Func) (s:ChangeSpec) (c:OpenClaim)=>c.knobs == []) Tryz.checked.prog 3 Tryz.f3 Rows.launchPathsSpec Rows.launchPathsRow=true:=O5
def cf8:(λ(P:Program) (f:FuncId) (fn:Func) (s:ChangeSpec) (c:OpenClaim)=>P.stopKnobs == []) Tryz.checked.prog 3 Tryz.f3 Rows.launchPathsSpec Rows.launchPathsRow=true:=O5
def cf9:(λ(P:Program) (f:FuncId) (fn:Func) (s:ChangeSpec) (c:OpenClaim)=>c.inPlace == P.inPlace f) Tryz.checked.prog 3 Tryz.f3 Rows.launchPathsSpec Rows.launchPathsRow=true:=O5
def cf10:(λ(P:Program) (f:FuncId) (fn:Func) (s:ChangeSpec) (c:OpenClaim)=>c.unfollowed == P.unfollowed f) Tryz.checked.prog 3 Tryz.f3 Rows.launchPathsSpec Rows.launchPathsRow=true:=O5
def cf11:(λ(P:Program) (f:FuncId) (fn:Func) (s:ChangeSpec) (c:OpenClaim)=>c.recurses == P.recurses f) Tryz.checked.prog 3 Tryz.f3 Rows.launchPathsSpec Rows.launchPathsRow=true:=O5
def cf12:(λ(P:Program) (f:FuncId) (fn:Func) (s:ChangeSpec) (c:OpenClaim)=>c.named == P.varsNamed f) Tryz.checked.prog 3 Tryz.f3 Rows.launchPathsSpec Rows.launchPathsRow=true:=O5
def cf13:(λ(P:Program) (f:FuncId) (fn:Func) (s:ChangeSpec) (c:OpenClaim)=>(c.maps == (fn.params.toList ++ s.plain.varTypes P).any (P.mapsRec ·))) Tryz.checked.prog 3 Tryz.f3 Rows.launchPathsSpec Rows.launchPathsRow=true:=O5
def cf14:(λ(P:Program) (f:FuncId) (fn:Func) (s:ChangeSpec) (c:OpenClaim)=>(c.ifaces == (fn.params.toList ++ s.plain.varTypes P).any (P.ifacesRec ·))) Tryz.checked.prog 3 Tryz.f3 Rows.launchPathsSpec Rows.launchPathsRow=true:=O5
def cf15:(λ(P:Program) (f:FuncId) (fn:Func) (s:ChangeSpec) (c:OpenClaim)=>c.mapsOut == P.mapsAmong fn.resultTypes.toList) Tryz.checked.prog 3 Tryz.f3 Rows.launchPathsSpec Rows.launchPathsRow=true:=O5
def cf16:(λ(P:Program) (f:FuncId) (fn:Func) (s:ChangeSpec) (c:OpenClaim)=>(c.loops == (fn.params.toList ++ s.plain.varTypes P).any (P.loopsFrom ·))) Tryz.checked.prog 3 Tryz.f3 Rows.launchPathsSpec Rows.launchPathsRow=true:=O5
def cf17:(λ(P:Program) (f:FuncId) (fn:Func) (s:ChangeSpec) (c:OpenClaim)=>(c.wideKeys == (fn.params.toList ++ s.plain.varTypes P ++ fn.resultTypes.toList).any (P.wideKeysFrom ·))) Tryz.checked.prog 3 Tryz.f3 Rows.launchPathsSpec Rows.launchPathsRow=true:=O5
def cf18:(λ(P:Program) (f:FuncId) (fn:Func) (s:ChangeSpec) (c:OpenClaim)=>s.vars.all (P.varReadable ·)) Tryz.checked.prog 3 Tryz.f3 Rows.launchPathsSpec Rows.launchPathsRow=true:=O5
def cf19:(λ(P:Program) (f:FuncId) (fn:Func) (s:ChangeSpec) (c:OpenClaim)=>fn.resultTypes.all (λt=>P.readableRec t && decide (t<P.types.size))) Tryz.checked.prog 3 Tryz.f3 Rows.launchPathsSpec Rows.launchPathsRow=true:=O5
def cf20:(λ(P:Program) (f:FuncId) (fn:Func) (s:ChangeSpec) (c:OpenClaim)=>(c.ifacesOut == fn.resultTypes.toList.any (P.ifacesRec ·))) Tryz.checked.prog 3 Tryz.f3 Rows.launchPathsSpec Rows.launchPathsRow=true:=O5
def cf21:(λ(P:Program) (f:FuncId) (fn:Func) (s:ChangeSpec) (c:OpenClaim)=>(c.loopsOut == fn.resultTypes.toList.any (P.loopsFrom ·))) Tryz.checked.prog 3 Tryz.f3 Rows.launchPathsSpec Rows.launchPathsRow=true:=O5
def cf22:(λ(P:Program) (f:FuncId) (fn:Func) (s:ChangeSpec) (c:OpenClaim)=>c.plainKeys == P.plainKeys) Tryz.checked.prog 3 Tryz.f3 Rows.launchPathsSpec Rows.launchPathsRow=true:=O5
def cf23:(λ(P:Program) (f:FuncId) (fn:Func) (s:ChangeSpec) (c:OpenClaim)=>c.shortTexts.isNone) Tryz.checked.prog 3 Tryz.f3 Rows.launchPathsSpec Rows.launchPathsRow=true:=O5
def cf24:(λ(P:Program) (f:FuncId) (fn:Func) (s:ChangeSpec) (c:OpenClaim)=>P.stopsHeard) Tryz.checked.prog 3 Tryz.f3 Rows.launchPathsSpec Rows.launchPathsRow=true:=O5
def cf25:(λ(P:Program) (f:FuncId) (fn:Func) (s:ChangeSpec) (c:OpenClaim)=>P.mayEnter) Tryz.checked.prog 3 Tryz.f3 Rows.launchPathsSpec Rows.launchPathsRow=true:=O5
def cf26:(λ(P:Program) (f:FuncId) (fn:Func) (s:ChangeSpec) (c:OpenClaim)=>c.lifted == P.liftsFinal) Tryz.checked.prog 3 Tryz.f3 Rows.launchPathsSpec Rows.launchPathsRow=true:=O5
def cf27:(λ(P:Program) (f:FuncId) (fn:Func) (s:ChangeSpec) (c:OpenClaim)=>P.make == some c.make) Tryz.checked.prog 3 Tryz.f3 Rows.launchPathsSpec Rows.launchPathsRow=true:=O5
def cf28:(λ(P:Program) (f:FuncId) (fn:Func) (s:ChangeSpec) (c:OpenClaim)=>c.kinds == (if c.domain.isEmpty then []else fn.params.toList.map λt=>match P.underlying t with|some (.int k)=>some k|_=>none)) Tryz.checked.prog 3 Tryz.f3 Rows.launchPathsSpec Rows.launchPathsRow=true:=O5
def cf29:(λ(P:Program) (f:FuncId) (fn:Func) (s:ChangeSpec) (c:OpenClaim)=>c.pinned == c.pinnedBy) Tryz.checked.prog 3 Tryz.f3 Rows.launchPathsSpec Rows.launchPathsRow=true:=O5
def cf30:(λ(P:Program) (f:FuncId) (fn:Func) (s:ChangeSpec) (c:OpenClaim)=>(c.veiled == (fn.params.toList ++ s.plain.varTypes P ++ fn.resultTypes.toList).any (P.veiledRec ·))) Tryz.checked.prog 3 Tryz.f3 Rows.launchPathsSpec Rows.launchPathsRow=true:=O5
def cf31:(λ(P:Program) (f:FuncId) (fn:Func) (s:ChangeSpec) (c:OpenClaim)=>c.veiledFits P fn.params.toList (fn.params.toList ++ s.plain.varTypes P ++ fn.resultTypes.toList)) Tryz.checked.prog 3 Tryz.f3 Rows.launchPathsSpec Rows.launchPathsRow=true:=O5
set_option maxRecDepth 100000 in
def closed:joinedFacts Tryz.checked.prog 3 Tryz.f3 Rows.launchPathsSpec Rows.launchPathsRow=true:=(Nx (Nx (Nx (Nx (Nx (Nx (Nx (Nx (Nx (Nx (Nx (Nx (Nx (Nx (Nx (Nx (Nx (Nx (Nx (Nx (Nx (Nx (Nx (Nx (Nx (Nx (Nx (Nx (Nx (Nx (Nx cf0 cf1) cf2) cf3) cf4) cf5) cf6) cf7) cf8) cf9) cf10) cf11) cf12) cf13) cf14) cf15) cf16) cf17) cf18) cf19) cf20) cf21) cf22) cf23) cf24) cf25) cf26) cf27) cf28) cf29) cf30) cf31)
end Go.Proofs.YtlnoheikolgejaaGreat
namespace Go.Sky
variable {P:Program} {N:Nat} {sc:Nat->Prop} {env env':Xz} {H H':Hp} {Q Q':Exit->Act->World->Prop} {M:Nat->Prop}
@[reducible] def lk2 {α:Type} : List (Nat×α)->Nat->Option α
 | [],_=>none
 | (k,v)::r,n=>match Nat.beq k n with
  | true=>some v
  | false=>lk2 r n
theorem Zsa{α:Type} : ∀(e:List (Nat×α)) (n:Nat),lk2 e n=lk e n
 | [],_=>rfl
 | (k,v)::r,n=>by unfold lk2 lk;cases Nat.beq k n<;>simp [Zsa r n]
@[reducible] def ev2 (e:Xz):Operand->Option Value
 | .tmp t=>lk2 e t
 | .const v=>some v
 | .global g=>some (.pointer (some ⟨g,0,none⟩))
 | .func f=>some (.func (.func f) #[] #[])
theorem ev2_eq(e:Xz)(x:Operand):ev2 e x=ev e x:=by cases x<;>simp [ev2,ev,Zsa]
@[reducible] def nth {α:Type} : List α->Nat->Option α
 | [],_=>none
 | x::r,n=>match n with
  | 0=>some x
  | n+1=>nth r n
theorem Zr5{α:Type} : ∀(l:List α) (n:Nat),nth l n=l[n]?
 | [],n=>by simp [nth]
 | x::r,0=>by simp [nth]
 | x::r,n+1=>by simp [nth,Zr5 r n]
@[reducible] def ltb (a b:Nat):Bool:=match Nat.ble b a with
 | true=>false
 | false=>true
theorem Pq{a b:Nat}(h:ltb a b=true):Nat.blt a b=true:=by
 unfold ltb at h;cases hb:Nat.ble b a with
 | true=>rw [hb]at h;cases h
 | false=>
  have d:¬b<=a:=λc=>by rw [mN c]at hb;cases hb
  show Nat.ble (a+1) b=true;exact mN O
@[reducible] def neb (a b:Nat):Bool:=match Nat.beq a b with
 | true=>false
 | false=>true
theorem Ar{a b:Nat}(h:neb a b=true):a≠b:=λe=>by subst e;unfold neb at h;rw [Nat.beq_refl]at h;cases h
class Som {α:Type} (a:Option α) (b:outParam α):Prop where h:a=some b
instance {α:Type} {b:α} : Som (some b) b:=⟨rfl⟩
class TB (a:Bool):Prop where h:a=true
instance:TB true:=⟨rfl⟩
def Som.e{x:Operand}{v:Value}(h:Som (ev2 env x) v):ev env x=some v:=(ev2_eq env x).symm.trans h.h
def Som.l{α:Type}{e:List (Nat×α)}{n:Nat}{v:α}(h:Som (lk2 e n) v):lk e n=some v:=(Zsa e n).symm.trans h.h
theorem Som.n{α:Type}{l:List α}{n:Nat}{v:α}(h:Som (nth l n) v):l.toArray[n]? = some v:=by have:=(Zr5 l n).symm.trans h.h;simpa using this
class AndO (s q:Prop) (r:outParam Prop):Prop where h:r->s/\q
instance (priority:=low) {s q:Prop} : AndO s q (s/\q):=⟨id⟩
instance {q:Prop} : AndO True q q:=⟨λh=>⟨aA,h⟩⟩
class Und (P:Program) (t:TypeId) (d:outParam TypeDesc):Prop where h:P.underlying t=some d
class Siz (P:Program) (t:TypeId) (k:outParam Nat):Prop where h:∀w,(sizeOf t).run P w= .ok k w
class Agg (P:Program) (t:TypeId) (b:outParam Bool):Prop where h:∀w,(isAgg t).run P w= .ok b w
class EncT {α:Type} (P:Program) (t:TypeId) (k:Nat) (enc:α->Value):Prop where h:Enc P t k enc
class RdI (P:Program) (H:Hp) (v:Value) (i:outParam Nat) {α:outParam Type} (k:outParam Nat) (enc:outParam (α->Value)) (xs:outParam (List α)):Prop where
 h:∃p,lk H i=some p/\Rd p k enc v xs
instance {α:Type} {v:Value} {i k:Nat} {enc:α->Value} {xs:List α} : RdI P ((i,Yg k enc v xs)::H) v i k enc xs:=⟨_,Zv _ _ _,Zh⟩
instance {α:Type} {v:Value} {i k:Nat} {enc:α->Value} {xs:List α} {e:TypeId} [h:EncT P e k enc]:RdI P ((i,Pt k e enc v xs)::H) v i k enc xs:=⟨_,Zv _ _ _,Yc h.h⟩
instance {β:Type} {v:Value} {i k:Nat} {enc:β->Value} {q:β->Pc} {zs:List β} : RdI P ((i,Qh k enc q v zs)::H) v i k enc zs:=⟨_,Zv _ _ _,Zp⟩
instance (priority:=low) {α:Type} {v:Value} {i j k:Nat} {p:Pc} {enc:α->Value} {xs:List α} [h:RdI P H v i k enc xs] [hn:TB (neb j i)]:RdI P ((j,p)::H) v i k enc xs:=
 ⟨by obtain⟨q,h1,h2⟩:=h.h;exact⟨q,by rw [Zm (Ar hn.h)];exact h1,h2⟩⟩
class BxI (H:Hp) (b:Nat) (i:outParam Nat) (t:outParam TypeId) (l:outParam (List Value)):Prop where h:lk H i=some (box b t l.toArray)
instance {b i:Nat} {t:TypeId} {l:List Value} : BxI ((i,box b t l.toArray)::H) b i t l:=⟨Zv _ _ _⟩
instance (priority:=low) {b i j:Nat} {t:TypeId} {p:Pc} {l:List Value} [h:BxI H b i t l] [hn:TB (neb j i)]:BxI ((j,p)::H) b i t l:=⟨by rw [Zm (Ar hn.h)];exact h.h⟩
class RxI (H:Hp) (b:Nat) (i:outParam Nat) (t:outParam TypeId) (l:outParam (List Value)):Prop where h:lk H i=some (Ke b t l.toArray)
instance {b i:Nat} {t:TypeId} {l:List Value} : RxI ((i,Ke b t l.toArray)::H) b i t l:=⟨Zv _ _ _⟩
instance (priority:=low) {b i j:Nat} {t:TypeId} {p:Pc} {l:List Value} [h:RxI H b i t l] [hn:TB (neb j i)]:RxI ((j,p)::H) b i t l:=⟨by rw [Zm (Ar hn.h)];exact h.h⟩
class DI (P:Program) (N:Nat) (sc:Nat->Prop) (op:Go.Op) (env:Xz) (H:Hp) (v:outParam Value) (s:outParam Prop):Prop where
 h:s->∀{d:Option Tmp} {ty:TypeId} {pos:String} {af:Array Edge} {g:Option (Nat×Bool)},Nf P N sc ⟨d,op,ty,pos,af,g⟩ env H v
section
variable {x y c:Operand} {v u:Value} {t t':TypeId} {k:IntKind} {m n:Int}
instance [h:Som (ev2 env x) v]:DI P N sc (.move x) env H v True:=⟨λ_=>Zak rfl h.e⟩
instance [h:Som (ev2 env x) v]:DI P N sc (.assign x) env H v True:=⟨λ_=>d_as rfl h.e⟩
instance {i:Nat} {vs:List Value} [h:Som (ev2 env x) (.tuple vs.toArray)] [h2:Som (nth vs i) v]:DI P N sc (.extract x i) env H v True:=⟨λ_=>Zsp rfl h.e h2.n⟩
instance {ad:Addr} [h:Som (ev2 env x) (.pointer (some ad))]:DI P N sc (.nilCheck x) env H (.pointer (some ad)) True:=⟨λ_=>d_nc rfl h.e⟩
instance {p:Prop} [Decidable p] [h:Som (ev2 env x) (.bool (decide p))]:DI P N sc (.unOp .not t x) env H (.bool (decide (¬p))) True:=⟨λ_=>d_not rfl h.e⟩
instance (priority:=low) {b:Bool} [h:Som (ev2 env x) (.bool b)]:DI P N sc (.unOp .not t x) env H (.bool (!b)) True:=⟨λ_=>Xi rfl h.e⟩
instance (priority:=high) [h:Som (ev2 env x) (.bool true)]:DI P N sc (.unOp .not t x) env H (.bool false) True:=⟨λ_=>Xi rfl h.e⟩
instance (priority:=high) [h:Som (ev2 env x) (.bool false)]:DI P N sc (.unOp .not t x) env H (.bool true) True:=⟨λ_=>Xi rfl h.e⟩
instance [h:Som (ev2 env c) (.bool true)] [h1:Som (ev2 env x) v]:DI P N sc (.pick c x y) env H v True:=⟨λ_=>Dc rfl h.e h1.e⟩
instance [h:Som (ev2 env c) (.bool false)] [h1:Som (ev2 env y) v]:DI P N sc (.pick c x y) env H v True:=⟨λ_=>Zca rfl h.e h1.e⟩
instance [h:Som (ev2 env x) (.int k m)] [h1:Som (ev2 env y) (.int k n)]:DI P N sc (.binOp .lss t x y t') env H (.bool (decide (m<n))) True:=⟨λ_=>Ydr rfl h.e h1.e⟩
instance [h:Som (ev2 env x) (.int k m)] [h1:Som (ev2 env y) (.int k n)]:DI P N sc (.binOp .leq t x y t') env H (.bool (decide (m<=n))) True:=⟨λ_=>d_leq rfl h.e h1.e⟩
instance [h:Som (ev2 env x) (.int k m)] [h1:Som (ev2 env y) (.int k n)]:DI P N sc (.binOp .gtr t x y t') env H (.bool (decide (n<m))) True:=⟨λ_=>Zqs rfl h.e h1.e⟩
instance [h:Som (ev2 env x) (.int k m)] [h1:Som (ev2 env y) (.int k n)]:DI P N sc (.binOp .geq t x y t') env H (.bool (decide (n<=m))) True:=⟨λ_=>d_geq rfl h.e h1.e⟩
instance [h:Som (ev2 env x) (.int k m)] [h1:Som (ev2 env y) (.int k n)]:DI P N sc (.binOp .eql t x y t') env H (.bool (decide (m=n))) True:=⟨λ_=>Ydt rfl h.e h1.e⟩
instance [h:Som (ev2 env x) (.int k m)] [h1:Som (ev2 env y) (.int k n)]:DI P N sc (.binOp .neq t x y t') env H (.bool (decide (m≠n))) True:=⟨λ_=>Ydq rfl h.e h1.e⟩
instance {a b:Bool} [h:Som (ev2 env x) (.bool a)] [h1:Som (ev2 env y) (.bool b)] [h2:Und P t .bool]:DI P N sc (.binOp .eql t x y t') env H (.bool (a == b)) True:=⟨λ_=>d_eqb rfl h.e h1.e h2.h⟩
instance {a b:Bool} [h:Som (ev2 env x) (.bool a)] [h1:Som (ev2 env y) (.bool b)] [h2:Und P t .bool]:DI P N sc (.binOp .neq t x y t') env H (.bool (a != b)) True:=⟨λ_=>d_neb rfl h.e h1.e h2.h⟩
instance [h:Som (ev2 env x) (.int .i64 m)] [h1:Som (ev2 env y) (.int .i64 n)]:DI P N sc (.binOp .add t x y t') env H (.int .i64 (m+n)) (-9223372036854775808<=m+n/\m+n<=9223372036854775807):=⟨λs=>d_add rfl h.e h1.e s⟩
instance [h:Som (ev2 env x) (.int .i64 m)] [h1:Som (ev2 env y) (.int .i64 n)]:DI P N sc (.binOp .sub t x y t') env H (.int .i64 (m-n)) (-9223372036854775808<=m-n/\m-n<=9223372036854775807):=⟨λs=>d_sub rfl h.e h1.e s⟩
instance [h:Som (ev2 env x) (.int .i64 m)] [h1:Som (ev2 env y) (.int .i64 n)]:DI P N sc (.binOp .mul t x y t') env H (.int .i64 (m*n)) (-9223372036854775808<=m*n/\m*n<=9223372036854775807):=⟨λs=>d_mul rfl h.e h1.e s⟩
instance {i kk:Nat} {α:Type} {enc:α->Value} {xs:List α} {e:TypeId} [h:Som (ev2 env x) v] [h1:RdI P H v i kk enc xs] [h2:Und P t (.slice e)]:DI P N sc (.call { callee:= .builtin .len,args:=#[x],argTypes:=#[t] }) env H (.int .i64 xs.length) True:=
 ⟨λ_=>by obtain⟨p,h3,h4⟩:=h1.h;exact d_len rfl h.e h3 h4 h2.h⟩
instance {s:ByteArray} [h:Som (ev2 env x) (.string s)] [h2:Und P t .string]:DI P N sc (.call { callee:= .builtin .len,args:=#[x],argTypes:=#[t] }) env H (.int .i64 s.size) True:=⟨λ_=>d_lens rfl h.e h2.h⟩
end
@[reducible] def eqb (a b:Nat):Bool:=match Nat.beq a b with
 | true=>true
 | false=>false
theorem eqb_eq{a b:Nat}(h:eqb a b=true):a=b:=by
 unfold eqb at h;cases hb:Nat.beq a b with
 | true=>exact dL hb
 | false=>rw [hb]at h;cases h
@[reducible] def lenq {α:Type} : List α->Nat->Bool
 | [],n=>match n with
  | 0=>true
  | _+1=>false
 | _::r,n=>match n with
  | 0=>false
  | n+1=>lenq r n
theorem Zej{α:Type} : ∀{l:List α} {n:Nat},lenq l n=true->l.length=n
 | [],0,_=>rfl
 | [],n+1,h=>by simp [lenq]at h
 | _::r,0,h=>by simp [lenq]at h
 | _::r,n+1,h=>by have:=Zej (l:=r) (n:=n) (by simpa [lenq]using h);simp [this]
@[reducible] def fit0 {α β:Type} : List α->List β->Bool
 | _,[]=>true
 | l,_::vs=>match l with
  | []=>false
  | _::r=>fit0 r vs
@[reducible] def fits {α β:Type} : List α->Nat->List β->Bool
 | [],j,a=>match j with
  | 0=>fit0 ([]:List α) a
  | _+1=>false
 | x::r,j,a=>match j with
  | 0=>fit0 (x::r) a
  | j+1=>fits r j a
theorem Zm1{α β:Type} : ∀{vs:List β} {l:List α},fit0 l vs=true->vs.length<=l.length
 | [],_,_=>O7
 | _::vs,[],h=>by simp [fit0]at h
 | _::vs,_::r,h=>by have:=Zm1 (vs:=vs) (l:=r) (by simpa [fit0]using h);simp;omega
theorem Zva{α β:Type} : ∀{l:List α} {j:Nat} {vs:List β},fits l j vs=true->j+vs.length<=l.length
 | [],0,vs,h=>by have:=Zm1 (by simpa [fits]using h);simpa using this
 | [],j+1,vs,h=>by simp [fits]at h
 | x::r,0,vs,h=>by have:=Zm1 (l:=x::r) (by simpa [fits]using h);simpa using this
 | x::r,j+1,vs,h=>by have:=Zva (l:=r) (j:=j) (by simpa [fits]using h);simp;omega
@[reducible] def seg {α:Type} : List α->Nat->Nat->List α
 | [],_,_=>[]
 | x::r,j,k=>match j with
  | j+1=>seg r j k
  | 0=>match k with
   | 0=>[]
   | k+1=>x::seg r 0 k
theorem Zgy{α:Type} : ∀(l:List α) (j k n:Nat) (u:α),(seg l j k)[n]? = some u->l[j+n]? = some u
 | [],_,_,_,_,h=>by simp [seg]at h
 | x::r,j+1,k,n,u,h=>by have:=Zgy r j k n u (by simpa [seg]using h);rw [show j+1+n=(j+n)+1 by omega];simpa using this
 | x::r,0,0,n,u,h=>by simp [seg]at h
 | x::r,0,k+1,0,u,h=>by simpa [seg]using h
 | x::r,0,k+1,n+1,u,h=>by have:=Zgy r 0 k n u (by simpa [seg]using h);rw [bP]at this ⊢;simpa using this
class LEv {α:Type} (l:List α) (r:outParam (List α)):Prop where h:l=r
instance {α:Type} : LEv ([]:List α) []:=⟨rfl⟩
instance {α:Type} {a:α} {l r:List α} [h:LEv l r]:LEv (a::l) (a::r):=⟨by rw [h.h]⟩
class AddN (a b:Nat) (c:outParam Nat):Prop where h:a+b=c
instance (priority:=low) {a b:Nat} : AddN a b (a+b):=⟨rfl⟩
instance {b:Nat} : AddN 0 b b:=⟨bP b⟩
instance {a:Nat} : AddN a 0 a:=⟨rfl⟩
class Df (α:Type) (d:outParam α):Prop where t:True
instance:Df Int 0:=⟨aA⟩
instance:Df Nat 0:=⟨aA⟩
section
variable {x y:Operand} {v u:Value} {t tb:TypeId} {b j i k f:Nat} {l vs ws:List Value}
instance [h:Som (ev2 env x) (.pointer (some ⟨b,j,none⟩))] [h1:Agg P t false] [h2:BxI H b i tb l] [h3:Som (nth l j) v]:DI P N sc (.load t x) env H v True:=⟨λ_=>Zx9 _ rfl h.e h2.h h1.h h3.n⟩
instance [h:Som (ev2 env x) (.pointer (some ⟨b,j,none⟩))] [h1:Agg P t true] [h2:BxI H b i tb l] [h4:Siz P t k] [h3:LEv (seg l j k) vs] [h5:TB (lenq vs k)]:DI P N sc (.load t x) env H (.agg vs.toArray) True:=
 ⟨λ_=>Zvt _ rfl h.e h2.h h1.h h4.h (Zej h5.h) (λn u hu=>by rw [<-h3.h]at hu;simpa using Zgy l j k n u hu)⟩
instance [h:Som (ev2 env x) (.pointer (some ⟨b,j,none⟩))] [h1:Agg P t false] [h2:RxI H b i tb l] [h3:Som (nth l j) v]:DI P N sc (.load t x) env H v True:=⟨λ_=>d_lr rfl h.e h2.h h1.h h3.n⟩
instance [h:Som (ev2 env x) (.pointer (some ⟨b,j,none⟩))] [h1:Agg P t true] [h2:RxI H b i tb l] [h4:Siz P t k] [h3:LEv (seg l j k) vs] [h5:TB (lenq vs k)]:DI P N sc (.load t x) env H (.agg vs.toArray) True:=
 ⟨λ_=>d_lra rfl h.e h2.h h1.h h4.h (Zej h5.h) (λn u hu=>by rw [<-h3.h]at hu;simpa using Zgy l j k n u hu)⟩
instance {fs:List Field} {c q bo:Nat} {nm tag pk:String} {ft:TypeId} {em:Bool} [h:Som (ev2 env x) (.pointer (some ⟨b,j,none⟩))] [h1:Und P t (.struct fs.toArray)] [h2:Som (nth fs f) ⟨nm,ft,q,em,tag,pk,bo⟩] [h3:Siz P ft k] [h5:TB (neb k 0)] [h4:AddN j q c] :
  DI P N sc (.fieldAddr t x f) env H (.pointer (some ⟨b,c,none⟩)) True:=⟨λ_=>by
 obtain⟨k,rfl⟩:=Nat.exists_eq_succ_of_ne_zero (Ar h5.h);exact d_fa rfl h.e h1.h h2.n h3.h rfl h4.h⟩
instance {α:Type} {enc:α->Value} {xs:List α} {e:TypeId} {kd:IntKind} {n:Nat} [h:Som (ev2 env x) v] [h1:Som (ev2 env y) (.int kd (n:Int))] [h2:RdI P H v i k enc xs] [h3:Und P t (.slice e)] [h4:Siz P e k] :
  DI P N sc (.indexAddr t x y) env H (.pointer (some (ead v n k))) (n<xs.length):=⟨λs=>by obtain⟨p,h5,h6⟩:=h2.h;exact Yh _ _ rfl h.e h1.e h5 h6 h3.h h4.h rfl s⟩
instance {α:Type} {enc:α->Value} {xs:List α} {e:TypeId} {kd:IntKind} {n:Nat} [h:Som (ev2 env x) v] [h1:Som (ev2 env y) (.int kd (@OfNat.ofNat Int n (@instOfNat n)))] [hl:TB (eqb n n)] [h2:RdI P H v i k enc xs] [h3:Und P t (.slice e)] [h4:Siz P e k] :
  DI P N sc (.indexAddr t x y) env H (.pointer (some (ead v (@OfNat.ofNat Nat n (instOfNatNat n)) k))) (@OfNat.ofNat Nat n (instOfNatNat n)<xs.length):=⟨λs=>by obtain⟨p,h5,h6⟩:=h2.h;exact Yh _ _ rfl h.e h1.e h5 h6 h3.h h4.h rfl s⟩
instance {α:Type} {enc:α->Value} {xs:List α} {n:Nat} {d0:α} [h:Som (ev2 env x) (.pointer (some (ead v n k)))] [h2:RdI P H v i k enc xs] [h3:EncT P t k enc] [h4:Df α d0] :
  DI P N sc (.load t x) env H (enc (xs.getD n d0)) (n<xs.length):=⟨λs=>by obtain⟨p,h5,h6⟩:=h2.h;exact Po _ d0 rfl h.e h5 h6 h3.h s⟩
instance {fs:List Field} {q bo:Nat} {nm tag pk:String} {ft:TypeId} {em:Bool} [h:Som (ev2 env x) (.agg l.toArray)] [h1:Und P t (.struct fs.toArray)] [h2:Som (nth fs f) ⟨nm,ft,q,em,tag,pk,bo⟩] [h3:Agg P ft false] [h4:Som (nth l q) v] :
  DI P N sc (.field t x f) env H v True:=⟨λ_=>d_fld rfl h.e h1.h h2.n h3.h h4.n⟩
end
class Adv (n:Nat) (p:Prop) (q:outParam Prop):Prop where h:q->p
def go(n:Nat){p q:Prop}[h:Adv n p q](k:q):p:=h.h k
@[reducible] def dsto (l:List Oper) (j:Nat):Option Nat:=match nth l j with
 | some o=>o.dst
 | none=>none
theorem Fl{l:List Oper}{j e:Nat}(h:Som (dsto l j) e):(l.toArray[j]?).bind (·.dst)=some e:=by
 have h:=h.h;unfold dsto at h;rw [Zr5]at h;simp only [List.getElem?_toArray];cases hb:l[j]? with
 | none=>rw [hb]at h;cases h
 | some o=>rw [hb]at h;exact h
section
variable {n:Nat} {q r s:Prop} {c x y:Code} {id:Nat} {l:List Oper} {ops:Array Oper} {rest:List Oper} {d j t:Nat} {op:Go.Op} {ty:TypeId} {pos:String} {af:Array Edge} {v:Value} {e:Exit} {b:Bool}
instance {p:Prop} : Adv 0 p p:=⟨λk=>k⟩
instance [h:Adv n (E P N sc x (Exit.then (y.wp P Q) Q) env H) q]:Adv (n+1) (E P N sc (.seq x y) Q env H) q:=⟨λk=>e_seq (h.h k)⟩
instance [h:Adv n (L P N sc l.toArray l Q env H) q]:Adv (n+1) (E P N sc (.region id l.toArray false) Q env H) q:=⟨λk=>e_reg (h.h k)⟩
instance [h:Adv n (X N sc .normal Q env H) q]:Adv (n+1) (E P N sc .skip Q env H) q:=⟨λk=>e_skip (h.h k)⟩
instance [h:Adv n (E P N sc c (Exit.inBlock id Q) env H) q]:Adv (n+1) (E P N sc (.block id c) Q env H) q:=⟨λk=>Yil (h.h k)⟩
instance [h:Adv n (X N sc (.exit id) Q env H) q]:Adv (n+1) (E P N sc (.exit id) Q env H) q:=⟨λk=>e_exit (h.h k)⟩
instance [h:Adv n (X N sc .ret Q env H) q]:Adv (n+1) (E P N sc .ret Q env H) q:=⟨λk=>e_ret (h.h k)⟩
instance {o:Operand} [h1:Som (ev2 env o) (.bool true)] [h:Adv n (E P N sc x Q env H) q]:Adv (n+1) (E P N sc (.cond o x y) Q env H) q:=⟨λk=>Yij h1.e (h.h k)⟩
instance {o:Operand} [h1:Som (ev2 env o) (.bool false)] [h:Adv n (E P N sc y Q env H) q]:Adv (n+1) (E P N sc (.cond o x y) Q env H) q:=⟨λk=>Yik h1.e (h.h k)⟩
instance [h:Adv n (E P N sc y Q env H) q]:Adv (n+1) (X N sc .normal (Exit.then (y.wp P Q) Q) env H) q:=⟨λk=>x_then (h.h k)⟩
instance {K:Act->World->Prop} [h:Adv n (X N sc .ret Q env H) q]:Adv (n+1) (X N sc .ret (Exit.then K Q) env H) q:=⟨λk=>x_ret (h.h k)⟩
instance {K:Act->World->Prop} [h:Adv n (X N sc (.exit id) Q env H) q]:Adv (n+1) (X N sc (.exit id) (Exit.then K Q) env H) q:=⟨λk=>x_exit (h.h k)⟩
instance [h:Adv n (X N sc .normal Q env H) q]:Adv (n+1) (X N sc .normal (Exit.inBlock id Q) env H) q:=⟨λk=>x_bn (h.h k)⟩
instance [h:Adv n (X N sc .ret Q env H) q]:Adv (n+1) (X N sc .ret (Exit.inBlock id Q) env H) q:=⟨λk=>x_br (h.h k)⟩
instance [h:Adv n (X N sc .normal Q env H) q]:Adv (n+1) (X N sc (.exit id) (Exit.inBlock id Q) env H) q:=⟨λk=>x_be (h.h k)⟩
instance (priority:=low) {id':Nat} [hn:TB (neb id' id)] [h:Adv n (X N sc (.exit id') Q env H) q]:Adv (n+1) (X N sc (.exit id') (Exit.inBlock id Q) env H) q:=⟨λk=>x_bo (Ar hn.h) (h.h k)⟩
instance [h:Adv n (X N sc .normal Q env H) q]:Adv (n+1) (L P N sc ops [] Q env H) q:=⟨λk=>l_nil (h.h k)⟩
instance [h1:DI P N sc op env H v s] [h2:TB (ltb d N)] [h:Adv n (L P N sc ops rest Q ((d,v)::env) H) q] [h3:AndO s q r]:Adv (n+1) (L P N sc ops (⟨some d,op,ty,pos,af,none⟩::rest) Q env H) r:=
 ⟨λk=>dt (h1.h (h3.h k).1) (h.h (h3.h k).2) (Pq h2.h)⟩
instance [hj:Som (dsto l j) t] [hg:Som (lk2 env t) (.bool b)] [h4:TB (ltb t N)] [h1:DI P N sc op env H v s] [h2:TB (ltb d N)] [h:Adv n (L P N sc l.toArray rest Q ((d,v)::env) H) q] [h3:AndO s q r]:Adv (n+1) (L P N sc l.toArray (⟨some d,op,ty,pos,af,some (j,b)⟩::rest) Q env H) r:=
 ⟨λk=>Bb (h1.h (h3.h k).1) (Fl hj) hg.l (h.h (h3.h k).2) (Pq h4.h) (Pq h2.h)⟩
instance [hj:Som (dsto l j) t] [hg:Som (lk2 env t) (.bool false)] [h4:TB (ltb t N)] [h2:TB (ltb d N)] [h:Adv n (L P N sc l.toArray rest Q ((d,undef)::env) H) q]:Adv (n+1) (L P N sc l.toArray (⟨some d,op,ty,pos,af,some (j,true)⟩::rest) Q env H) q:=
 ⟨λk=>gsk (Fl hj) hg.l rfl (Pq h4.h) (Pq h2.h) (h.h k)⟩
instance [hj:Som (dsto l j) t] [hg:Som (lk2 env t) (.bool true)] [h4:TB (ltb t N)] [h2:TB (ltb d N)] [h:Adv n (L P N sc l.toArray rest Q ((d,undef)::env) H) q]:Adv (n+1) (L P N sc l.toArray (⟨some d,op,ty,pos,af,some (j,false)⟩::rest) Q env H) q:=
 ⟨λk=>gsk (Fl hj) hg.l rfl (Pq h4.h) (Pq h2.h) (h.h k)⟩
instance [hj:Som (dsto l j) t] [hg:Som (lk2 env t) undef] [h2:TB (ltb d N)] [h:Adv n (L P N sc l.toArray rest Q ((d,undef)::env) H) q]:Adv (n+1) (L P N sc l.toArray (⟨some d,op,ty,pos,af,some (j,b)⟩::rest) Q env H) q:=
 ⟨λk=>gsku (Fl hj) hg.l (Pq h2.h) (h.h k)⟩
end
end Go.Sky
namespace Go.Sky
variable {P:Program} {N:Nat} {sc:Nat->Prop} {env env':Xz} {H H':Hp} {Q Q':Exit->Act->World->Prop} {M:Nat->Prop}
class Hw (w0:World) (sc:Nat->Prop):Prop where h:∀b,w0.heap.size<=b->sc b
class EvI (env:Xz) (xs:List Operand) (vs:outParam (List Value)):Prop where h:EvL env xs vs
instance:EvI env [] []:=⟨aA⟩
instance {x:Operand} {r:List Operand} {v:Value} {vs:List Value} [h:Som (ev2 env x) v] [h2:EvI env r vs]:EvI env (x::r) (v::vs):=⟨⟨h.e,h2.h⟩⟩
class CalF (P:Program) (f:FuncId):Prop where h:∀args w,(callFunc f args).run P w= .ok (.enter f args) w
class AddI (n:Nat) (l:List Pc) (H:Hp) (H':outParam Hp):Prop where h:adds n l H=H'
instance {n:Nat} : AddI n [] H H:=⟨rfl⟩
instance {n:Nat} {p:Pc} {r:List Pc} [h:AddI (n+1) r H H']:AddI n (p::r) H ((n,p)::H'):=⟨by rw [<-h.h]⟩
class PreL (P:Program) (H:Hp) (al:Bool) (ids:List Nat) (pre:outParam (List Pc)):Prop where h:PreOk H al pre
class RoI (p:Pc):Prop where h:p.own=false
instance {α:Type} {k:Nat} {enc:α->Value} {v:Value} {xs:List α} : RoI (Yg k enc v xs):=⟨rfl⟩
instance {β:Type} {k:Nat} {enc:β->Value} {q:β->Pc} {v:Value} {zs:List β} : RoI (Qh k enc q v zs):=⟨rfl⟩
instance {b:Nat} {t:TypeId} {cs:Array Value} : RoI (Ke b t cs):=⟨rfl⟩
class LnI (P:Program) (al:Bool) (i:Nat) (p:Pc) (q:outParam Pc):Prop where
 h:i≠0->∀{H r},lk H i=some p->PreOk H al r->PreOk H al (q::r)
theorem Zq6{i:Nat}(h:i≠0):Nat.beq i 0=false:=by
 cases hb:Nat.beq i 0 with
 | true=>exact absurd (dL hb) h
 | false=>rfl
instance {al:Bool} {i:Nat} {p:Pc} [h:RoI p]:LnI P al i p p:=⟨λh0 _ _ hi hr=>Zx i hi (Zq6 h0) h.h hr⟩
instance {α:Type} {i k:Nat} {e:TypeId} {enc:α->Value} {v:Value} {xs:List α} [h:EncT P e k enc]:LnI P false i (Pt k e enc v xs) (Yg k enc v xs):=⟨λh0 _ _ hi hr=>Zo6 i hi (Zq6 h0) h.h hr⟩
instance {i b:Nat} {t:TypeId} {cs:Array Value} : LnI P false i (box b t cs) (Ke b t cs):=⟨λh0 _ _ hi hr=>Zfl i hi (Zq6 h0) hr⟩
instance {al:Bool} : PreL P H al [] []:=⟨aA⟩
instance {al:Bool} {i:Nat} {ids:List Nat} {p q:Pc} {r:List Pc} [h:Som (lk2 H i) p] [h0:TB (neb i 0)] [h1:LnI P al i p q] [h2:PreL P H al ids r]:PreL P H al (i::ids) (q::r):=⟨h1.h (Ar h0.h) h.l h2.h⟩
theorem T.conv{o:Oper}{G:Type}{φ:G->Prop}{c:G->Xz}{a b:G->Hp}(h:T P N sc M o env H φ c a)(d:∀g,a g=b g):T P N sc M o env H φ c b:=by rw [show b=a from(funext d).symm];exact h
section
variable {f:FuncId} {xs:List Operand} {ats:Array TypeId} {d:Nat} {vs fs us:List Value} {pre:List Pc} {al:Bool} {G:Type} {φ:G->Prop} {val:G->Value} {its:G->List Pc} {w0:World} {M0:Nat->Prop} {ty:TypeId} {pos:String} {af:Array Edge} {g:Option (Nat×Bool)}
def Zs(n:Nat)(a:List Nat)(c:Cal P f vs.toArray pre al φ val its){b:G->Hp}[hx:EvI env xs vs][hf:CalF P f][hp:PreL P H al a pre][h0:Som (lk2 H 0) (Yt w0 M0)][hN:TB (ltb d N)][hw:Hw w0 sc][ha:∀g,AddI n (its g) H (b g)] :
  T P N sc M ⟨some d,.call { callee:= .value (.func f),args:=xs.toArray,argTypes:=ats },ty,pos,af,g⟩ env H φ (λg=>(d,val g)::env) b:=
 (Ea n c rfl rfl (Pq hN.h) hx.h hf.h hp.h h0.l hw.h).conv λg=>(ha g).h
class On1 (P:Program) (N:Nat) (sc:Nat->Prop) (env:Xz) (H:Hp) (v:Value):Prop where h:One N sc env H v
instance {k:IntKind} {n:Int} : On1 P N sc env H (.int k n):=⟨Ze rfl⟩
instance {b:Bool} : On1 P N sc env H (.bool b):=⟨Ze rfl⟩
instance {s:ByteArray} : On1 P N sc env H (.string s):=⟨Ze rfl⟩
instance {a:Option Addr} : On1 P N sc env H (.pointer a):=⟨Ze rfl⟩
instance {a:Option Addr} {m n:Nat} : On1 P N sc env H (.slice a m n):=⟨Ze rfl⟩
instance (priority:=low) {α:Type} {i k:Nat} {v:Value} {enc:α->Value} {ys:List α} [h:RdI P H v i k enc ys]:On1 P N sc env H v:=⟨by obtain⟨p,h1,h2⟩:=h.h;exact Qm _ h1 h2⟩
class OnL (P:Program) (N:Nat) (sc:Nat->Prop) (env:Xz) (H:Hp) (l:List Value):Prop where h:∀u∈l,One N sc env H u
instance:OnL P N sc env H []:=⟨λ_ h=>nomatch h⟩
instance {v:Value} {l:List Value} [h:On1 P N sc env H v] [h2:OnL P N sc env H l]:OnL P N sc env H (v::l):=⟨λu hu=>by
 cases hu with
 | head=>exact h.h
 | tail _ hu=>exact h2.h u hu⟩
class CeI (P:Program) (N:Nat) (sc:Nat->Prop) (env:Xz) (H:Hp) (v:Value) (l:outParam (List Value)):Prop where
 h:∀a w,Sat N sc env H a w->v.cells=l.toArray
 o:∀u∈l,One N sc env H u
instance {l:List Value} [h:OnL P N sc env H l]:CeI P N sc env H (.agg l.toArray) l:=⟨λ_ _ _=>rfl,h.h⟩
instance (priority:=low) {v:Value} [h:On1 P N sc env H v]:CeI P N sc env H v [v]:=⟨λa w hs=>Zi (h.h a w hs),λu hu=>by rw [bZ.1 hu];exact h.h⟩
class ClI (v:Value) (l:outParam (List Value)):Prop where h:v.cells=l.toArray
instance {l:List Value} : ClI (.agg l.toArray) l:=⟨rfl⟩
instance {k:IntKind} {n:Int} : ClI (.int k n) [.int k n]:=⟨rfl⟩
instance {b:Bool} : ClI (.bool b) [.bool b]:=⟨rfl⟩
instance {s:ByteArray} : ClI (.string s) [.string s]:=⟨rfl⟩
instance {a:Option Addr} : ClI (.pointer a) [.pointer a]:=⟨rfl⟩
instance {a:Option Addr} {m n:Nat} : ClI (.slice a m n) [.slice a m n]:=⟨rfl⟩
class Zer (P:Program) (t:TypeId) (z:outParam Value):Prop where h:∀w,(zeroValue t).run P w= .ok z w
variable {t tb:TypeId} {l l':List Value} {v z:Value} {x y:Operand} {i j k b:Nat}
def Yd(n:Nat)[hz:Zer P t z][hc:ClI z l][h0:Som (lk2 H 0) (Yt w0 M0)][hN:TB (ltb d N)][hw:Hw w0 sc] :
  T P N sc M ⟨some d,.alloc t,ty,pos,af,g⟩ env H (G:=Nat) (λ_=>True) (λb=>(d,.pointer (some ⟨b,0,none⟩))::env) (λb=>(n,box b t l.toArray)::H):=Zgu _ rfl rfl (Pq hN.h) hz.h hc.h h0.l hw.h
def Yj(n:Nat)[hx:Som (ev2 env x) v][hc:ClI v l][h0:Som (lk2 H 0) (Yt w0 M0)][hN:TB (ltb d N)][hw:Hw w0 sc] :
  T P N sc M ⟨some d,.box t x,ty,pos,af,g⟩ env H (G:=Nat) (λ_=>True) (λb=>(d,.pointer (some ⟨b,0,none⟩))::env) (λb=>(n,box b t l.toArray)::H):=t_box rfl rfl (Pq hN.h) hx.e hc.h h0.l hw.h
@[reducible] def lay2 {α:Type} : List α->Nat->List α->List α
 | [],_,_=>[]
 | c::r,j,vs=>match j with
  | j+1=>c::lay2 r j vs
  | 0=>match vs with
   | []=>c::r
   | v::vs=>v::lay2 r 0 vs
theorem Zmu{α:Type} : ∀(l:List α) (j:Nat) (vs:List α),j+vs.length<=l.length->lay2 l j vs=l.take j ++ vs ++ l.drop (j+vs.length)
 | [],j,vs,h=>by have a:vs=[]:=aE (by simp only [eH]at h;omega);subst a;simp [lay2]
 | c::r,j+1,vs,h=>by rw [show j+1+vs.length=(j+vs.length)+1 by omega];simp only [lay2,kU,nB,eW];rw [Zmu r j vs (by simp at h;omega)]
 | c::r,0,[],h=>by simp [lay2]
 | c::r,0,v::vs,h=>by
  have e:0+vs.length<=r.length:=by simp only [cD]at h;omega
  have:=Zmu r 0 vs e;simp only [lay2,this,bP,dY,fD,cD,nB,eW]
theorem Zy4 [hx:Som (ev2 env x) (.pointer (some ⟨b,j,none⟩))] [hy:Som (ev2 env y) v] [hB:BxI H b i tb l] [hi:TB (neb i 0)] [hv:CeI P N sc env H v vs] [hk:Siz P t k] [hl:TB (lenq vs k)] [hf:TB (fits l j vs)] [hr:LEv (lay2 l j vs) l']
  [h0:Som (lk2 H 0) (Yt w0 M0)] [hw:Hw w0 sc] (e:M b):T P N sc M ⟨none,.store t x y,ty,pos,af,g⟩ env H (G:=Unit) (λ_=>True) (λ_=>env) (λ_=>(i,box b tb l'.toArray)::H):=λa w hs=>by
 have c:=Zva hf.h;refine Zf1 _ rfl rfl hx.e hy.e hB.h (Ar hi.h) (hv.h a w hs) hk.h (Zej hl.h) (by simpa using c) hv.o ?_ h0.l hw.h e a w hs;unfold Ip;rw [<-hr.h,Zmu l j vs c]
variable {ops:Array Oper} {rest:List Oper} {op:Go.Op} {genv:G->Xz} {gH:G->Hp} {dd:Option Tmp}
def Ym(a:T P N sc (λ_=>True) ⟨dd,op,ty,pos,af,none⟩ env H φ genv gH)(h:∀g,φ g->L P N sc ops rest Q (genv g) (gH g)):L P N sc ops (⟨dd,op,ty,pos,af,none⟩::rest) Q env H:=tt a h
def gt' {c:List Oper} {e:Nat} {a:Bool} (m:T P N sc (λ_=>True) ⟨dd,op,ty,pos,af,some (j,a)⟩ env H φ genv gH) [hj:Som (dsto c j) e] [he:Som (lk2 env e) (.bool a)] [hN:TB (ltb e N)]
  (h:∀g,φ g->L P N sc c.toArray rest Q (genv g) (gH g)):L P N sc c.toArray (⟨dd,op,ty,pos,af,some (j,a)⟩::rest) Q env H:=gtt m rfl (Fl hj) he.l (Pq hN.h) h
instance {n:Nat} {q:Prop} [hx:Som (ev2 env x) (.pointer (some ⟨b,j,none⟩))] [hy:Som (ev2 env y) v] [hB:BxI H b i tb l] [hi:TB (neb i 0)] [hv:CeI P N sc env H v vs] [hk:Siz P t k] [hl:TB (lenq vs k)] [hf:TB (fits l j vs)] [hr:LEv (lay2 l j vs) l']
  [h0:Som (lk2 H 0) (Yt w0 M0)] [hw:Hw w0 sc] [h:Adv n (L P N sc ops rest Q env ((i,box b tb l'.toArray)::H)) q]:Adv (n+1) (L P N sc ops (⟨none,.store t x y,ty,pos,af,none⟩::rest) Q env H) q:=
 ⟨λq=>Ym (Zy4 aA) λ_ _=>h.h q⟩
end
end Go.Sky
namespace Go.Sky
variable {P:Program} {N:Nat} {sc:Nat->Prop} {env env':Xz} {H H' H0:Hp} {Q Q':Exit->Act->World->Prop} {M:Nat->Prop}
@[reducible] def drp2:Nat->Hp->Hp
 | _,[]=>[]
 | k,(i,p)::r=>match Nat.beq i k with
  | true=>drp2 k r
  | false=>(i,p)::drp2 k r
theorem Zvl:∀(k:Nat) (H:Hp),drp2 k H=drp k H
 | _,[]=>rfl
 | k,(i,p)::r=>by unfold drp2 drp;cases Nat.beq i k<;>simp [Zvl k r]
@[reducible] def anyb:List Nat->Nat->Bool
 | [],_=>false
 | k::r,i=>match Nat.beq i k with
  | true=>true
  | false=>anyb r i
theorem Znw:∀(a:List Nat) (i:Nat),anyb a i=a.any (Nat.beq i)
 | [],_=>rfl
 | k::r,i=>by unfold anyb;rw [nG,<-Znw r i];cases Nat.beq i k<;>rfl
@[reducible] def rst2 (a:List Nat):Hp->Hp
 | []=>[]
 | (i,p)::r=>match anyb a i with
  | true=>(i,p)::rst2 a r
  | false=>rst2 a r
theorem Zt2(a:List Nat):∀H:Hp,rst2 a H=rst a H
 | []=>rfl
 | (i,p)::r=>by unfold rst2 rst;rw [<-Znw];cases anyb a i<;>simp [Zt2 a r]
class AgI (H0 H:Hp) (ks:List Nat):Prop where h:Agr H0 H ks
instance:AgI H0 H []:=⟨aA⟩
instance {k:Nat} {ks:List Nat} {p:Pc} [h1:Som (lk2 H k) p] [h2:Som (lk2 H0 k) p] [h:AgI H0 H ks]:AgI H0 H (k::ks):=⟨⟨h1.l.trans h2.l.symm,h.h⟩⟩
class StI (P:Program) (N:Nat) (sc:Nat->Prop) (M:Nat->Prop) (op:Go.Op) (env:Xz) (H:Hp) (v:outParam Value) (s:outParam Prop):Prop where
 h:s->∀{d:Option Tmp} {ty:TypeId} {pos:String} {af:Array Edge} {g:Option (Nat×Bool)},Stb P N sc M ⟨d,op,ty,pos,af,g⟩ env H v
section
variable {op:Go.Op} {v:Value} {s:Prop} {k b:Nat} {t:TypeId} {l:List Value} {ks:List Nat}
instance [h:DI P N sc op env H v s]:StI P N sc (λ_=>False) op env H v s:=⟨λhs=>Qv (h.h hs)⟩
instance [hb:BxI H b k t l] [h:DI P N sc op env (drp2 k H) v s]:StI P N sc (λx=>x=b) op env H v s:=⟨λhs=>st1 k hb.h (by rw [<-Zvl];exact h.h hs)⟩
instance [ha:AgI H0 H ks] [h:DI P N sc op env (rst2 ks H) v s]:StI P N sc (Off H0 ks) op env H v s:=⟨λhs=>Eo (by rw [<-Zt2];exact h.h hs) ha.h⟩
end
class MI (M:Nat->Prop) (b:Nat):Prop where h:M b
class MS (N:Nat) (sc:Nat->Prop) (M:Nat->Prop) (env:Xz) (H:Hp) (b:Nat):Prop where h:∀a w,Sat N sc env H a w->M b
instance {b:Nat} : MS N sc (λ_=>True) env H b:=⟨λ_ _ _=>trivial⟩
instance {b:Nat} : MS N sc (λx=>x=b) env H b:=⟨λ_ _ _=>rfl⟩
instance {b:Nat} [h:MI M b]:MS N sc M env H b:=⟨λ_ _ _=>h.h⟩
@[reducible] def nin (ks:List Nat) (i:Nat):Bool:=match anyb ks i with
 | true=>false
 | false=>true
instance (priority:=low) {b i:Nat} {t:TypeId} {l:List Value} {ks:List Nat} [hb:BxI H b i t l] [hn:TB (nin ks i)] [ha:AgI H0 H ks]:MS N sc (Off H0 ks) env H b:=⟨λa w hs=>λk hk p hp hf=>by
 rw [<-ha.h.mem k hk]at hp;have hne:i≠k:=λe=>by
  subst e;have h1:=hn.h;unfold nin at h1;rw [Znw]at h1;cases h2:ks.any (Nat.beq i)with
  | true=>rw [h2]at h1;cases h1
  | false=>
   have:=jZ.1 h2 i hk;simp at this
 exact hs.sep i k _ p hne hb.h hp rfl b rfl hf⟩
section
variable {d i j k b e n:Nat} {vs ws l l':List Value} {w0:World} {M0:Nat->Prop} {ty t tb:TypeId} {pos:String} {af:Array Edge} {g:Option (Nat×Bool)} {x y:Operand} {v z:Value} {bb:Bool}
variable {ll:List Oper} {F:Xz->Hp->Prop} {rest:List (Nat×Nat)} {op:Go.Op} {G:Type} {φ:G->Prop} {genv:G->Xz} {gH:G->Hp} {dd:Option Tmp} {q r s:Prop}
def t_stm [hx:Som (ev2 env x) (.pointer (some ⟨b,j,none⟩))] [hy:Som (ev2 env y) v] [hB:BxI H b i tb l] [hi:TB (neb i 0)] [hv:CeI P N sc env H v vs] [hk:Siz P t k] [hl:TB (lenq vs k)] [hf:TB (fits l j vs)] [hr:LEv (lay2 l j vs) l']
  [h0:Som (lk2 H 0) (Yt w0 M0)] [hw:Hw w0 sc] [hM:MS N sc M env H b]:T P N sc M ⟨none,.store t x y,ty,pos,af,g⟩ env H (G:=Unit) (λ_=>True) (λ_=>env) (λ_=>(i,box b tb l'.toArray)::H):=λa w hs=>Zy4 (hM.h a w hs) a w hs
def Ii(n:Nat){ks:List Nat}[hz:Zer P t z][hc:ClI z l][h0:Som (lk2 H 0) (Yt w0 M0)][hN:TB (ltb d N)][hw:Hw w0 sc][ha:AgI H0 H ks] :
  T P N sc (Off H0 ks) ⟨some d,.alloc t,ty,pos,af,g⟩ env H (G:=Nat) (λb=>MI (Off H0 ks) b) (λb=>(d,.pointer (some ⟨b,0,none⟩))::env) (λb=>(n,box b t l.toArray)::H):=λa w hs K Q f=>
 Zy7 (i:=n) rfl rfl (Pq hN.h) hz.h hc.h h0.l hw.h ha.h a w hs K Q λg c m h=>f g c m ⟨h⟩
def Xq(a:T P N sc M ⟨dd,op,ty,pos,af,none⟩ env H φ genv gH)[ho:Som (nth ll i) ⟨dd,op,ty,pos,af,none⟩](h:∀g,φ g->LD P N sc M ll.toArray F rest (genv g) (gH g)):LD P N sc M ll.toArray F ((i,1)::rest) env H:=Eh ho.n a h
def Hh{ts:List Nat}{a:Array Bool}(c:T P N sc M ⟨dd,op,ty,pos,af,none⟩ env H φ genv gH)[ho:Som (nth ll i) ⟨dd,op,ty,pos,af,none⟩](h:∀g,φ g->A P N sc M ll.toArray ts Q n (a.setIfInBounds i true) (genv g) (gH g)):Zdj P N sc M ll.toArray ts Q n a env H i:=Zaf ho.n rfl c h
instance [ho:Som (nth ll i) ⟨some d,op,ty,pos,af,none⟩] [h1:StI P N sc M op env H v s] [h2:TB (ltb d N)] [h:Adv n (LD P N sc M ll.toArray F rest ((d,v)::env) H) q] [h3:AndO s q r]:Adv (n+1) (LD P N sc M ll.toArray F ((i,0)::rest) env H) r:=
 ⟨λk=>Xp ho.n rfl (h1.h (h3.h k).1) (h.h (h3.h k).2) rfl (Pq h2.h)⟩
instance [ho:Som (nth ll i) ⟨some d,op,ty,pos,af,some (j,bb)⟩] [hj:Som (dsto ll j) e] [he:Som (lk2 env e) (.bool bb)] [hN:TB (ltb e N)] [h1:StI P N sc M op env H v s] [h2:TB (ltb d N)] [h:Adv n (LD P N sc M ll.toArray F rest ((d,v)::env) H) q] [h3:AndO s q r]:Adv (n+1) (LD P N sc M ll.toArray F ((i,0)::rest) env H) r:=
 ⟨λk=>r0g (h1.h (h3.h k).1) ho.n rfl (Fl hj) he.l rfl (h.h (h3.h k).2) (Pq hN.h) (Pq h2.h)⟩
instance [ho:Som (nth ll i) ⟨some d,op,ty,pos,af,some (j,true)⟩] [hj:Som (dsto ll j) e] [he:Som (lk2 env e) (.bool false)] [hN:TB (ltb e N)] [h2:TB (ltb d N)] [h:Adv n (LD P N sc M ll.toArray F rest ((d,undef)::env) H) q]:Adv (n+1) (LD P N sc M ll.toArray F ((i,2)::rest) env H) q:=
 ⟨λk=>r2 ho.n rfl (Fl hj) he.l rfl (Pq hN.h) rfl (Pq h2.h) (h.h k)⟩
instance [ho:Som (nth ll i) ⟨some d,op,ty,pos,af,some (j,false)⟩] [hj:Som (dsto ll j) e] [he:Som (lk2 env e) (.bool true)] [hN:TB (ltb e N)] [h2:TB (ltb d N)] [h:Adv n (LD P N sc M ll.toArray F rest ((d,undef)::env) H) q]:Adv (n+1) (LD P N sc M ll.toArray F ((i,2)::rest) env H) q:=
 ⟨λk=>r2 ho.n rfl (Fl hj) he.l rfl (Pq hN.h) rfl (Pq h2.h) (h.h k)⟩
instance [ho:Som (nth ll i) ⟨none,.store t x y,ty,pos,af,none⟩] [hx:Som (ev2 env x) (.pointer (some ⟨b,j,none⟩))] [hy:Som (ev2 env y) v] [hB:BxI H b k tb l] [hi:TB (neb k 0)] [hv:CeI P N sc env H v vs] [hk:Siz P t e] [hl:TB (lenq vs e)] [hf:TB (fits l j vs)] [hr:LEv (lay2 l j vs) l']
  [h0:Som (lk2 H 0) (Yt w0 M0)] [hw:Hw w0 sc] [h:Adv n (LD P N sc M ll.toArray F rest env ((k,box b tb l'.toArray)::H)) q]:Adv (n+1) (LD P N sc M ll.toArray F ((i,3)::rest) env H) q:=
 ⟨λq=>r3' ho.n (Zy4 aA) λ_ _=>h.h q⟩
instance [ho:Som (nth ll i) ⟨none,.store t x y,ty,pos,af,none⟩] [hx:Som (ev2 env x) (.pointer (some ⟨b,j,none⟩))] [hy:Som (ev2 env y) v] [hB:BxI H b k tb l] [hi:TB (neb k 0)] [hM:MS N sc M env H b] [hv:CeI P N sc env H v vs] [hk:Siz P t e] [hl:TB (lenq vs e)] [hf:TB (fits l j vs)] [hr:LEv (lay2 l j vs) l']
  [h0:Som (lk2 H 0) (Yt w0 M0)] [hw:Hw w0 sc] [h:Adv n (LD P N sc M ll.toArray F rest env ((k,box b tb l'.toArray)::H)) q]:Adv (n+1) (LD P N sc M ll.toArray F ((i,1)::rest) env H) q:=
 ⟨λq=>Eh ho.n t_stm λ_ _=>h.h q⟩
instance [ho:Som (nth ll i) ⟨some d,op,ty,pos,af,none⟩] [h1:DI P N sc op env H v s] [h2:TB (ltb d N)] [h:Adv n (LD P N sc M ll.toArray F rest ((d,v)::env) H) q] [h3:AndO s q r]:Adv (n+1) (LD P N sc M ll.toArray F ((i,1)::rest) env H) r:=
 ⟨λk=>Eh ho.n (Zcg (h1.h (h3.h k).1) rfl (Pq h2.h)) λ_ _=>h.h (h3.h k).2⟩
instance [ho:Som (nth ll i) ⟨some d,op,ty,pos,af,none⟩] [h1:DI P N sc op env H v s] [h2:TB (ltb d N)] [h:Adv n (LD P N sc M ll.toArray F rest ((d,v)::env) H) q] [h3:AndO s q r]:Adv (n+1) (LD P N sc M ll.toArray F ((i,3)::rest) env H) r:=
 ⟨λk=>r3' ho.n (Zcg (h1.h (h3.h k).1) rfl (Pq h2.h)) λ_ _=>h.h (h3.h k).2⟩
instance [h:Adv n (F env H) q] {ops:Array Oper} : Adv (n+1) (LD P N sc M ops F [] env H) q:=⟨λk=>r_fin (h.h k)⟩
theorem Qj {id:Nat} {l:List Oper} (M:Nat->Prop) (a:List (Nat×Nat)) (h:LD P N sc M l.toArray (X N sc .normal Q) a env H) (c:P.follows .mixedOrders=true:=by kernel_rfl)
  (f:(Region.noSelect l.toArray && Nat.beq a.length l.length && Hz l.toArray (Za0 a) a (Array.replicate l.length false) && (Region.ready .any l.toArray (Fv a (Array.replicate l.length false))).isEmpty)=true:=by kernel_rfl) :
  E P N sc (.region id l.toArray true) Q env H:=e_dreg M a c f h
end
end Go.Sky

