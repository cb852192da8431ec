/- Rules, arithmetic and contracts: part 8. No conditions but those that each theorem names. -/
import Derived.Test.YtpmihempjefadaaGreatAw06
set_option linter.all false
namespace Go.Sky
variable{a b m:R2}{c xs o p r rest before q z:List Int}{v:Value}{t i M N k b0 fuel:Nat}{ls cs:List (SL×List Int)}{x y ov d:Int}{ds:List (List Int)}{lo:Rat}{ti ts:TypeId}
theorem Zst(g:Rat->Rat){h:Rat}(l:0<h):∀(n:Nat) (u v:Rat),u<v->v-u<=(n:Rat)*h->g u*g v<0->∃x y,u<=x/\x<y/\y<=v/\y-x<=h/\g x≠0/\g x*g y<=0
 | 0,u,v,a,b,_=>by push_cast at b;grind
 | n+1,u,v,a,b,c=>by
  push_cast at b;have f:g u≠0:=λe=>by rw [e]at c;grind
  by_cases j:v-u<=h
  .exact⟨u,v,O4,a,O4,j,f,O4⟩
  .rcases(show g u*g (u+h)<=0\/0<g u*g (u+h) by grind)with q|q
   .exact⟨u,u+h,O4,O4,O4,O4,f,q⟩
   .have s:g (u+h)*g v<0:=by
     have I:=Gu f;rcases(show g (u+h)*g v<0\/0<=g (u+h)*g v by grind)with w|w
     .exact w
     .have Q:=bB q (show 0 < -(g u*g v) by grind);have R:=aM (dG I) w;grind
    obtain⟨x,y,P,B,D,F,G,H⟩:=Zst g l n (u+h) v O4 O4 s;exact⟨x,y,O4,B,D,F,G,H⟩
theorem Zm4{a b c:Rat}(h:a*b<0)(e:a-b<=c)(f:b-a<=c):-c<=a/\a<=c:=by
 rcases(show 0<a\/a<0\/a=0 by grind)with q|q|q
 .have:b<0:=by
   rcases(show b<0\/0<=b by grind)with w|w
   .exact w
   .have:=aM (dG q) w;grind
  grind
 .have:0<b:=by
   rcases(show 0<b\/b<=0 by grind)with w|w
   .exact w
   .have:=aM (show 0<=-a by grind) (show 0<=-b by grind);grind
  grind
 .rw [q]at h;grind
theorem Ztf{F:Nat}(hx:Tr xs)(h0:xs≠[])(hC:Ah F xs)(ho:Tr o)(o0:o≠[])(hE:Ed o (sqf F xs)){u v:Rat}(B:u<v)(hu:Zb (sqf F xs) u≠0)(h:Zb o u*Zb o v<0):vch F xs v<vch F xs u:=by
 rcases jM (vch F xs v) (vch F xs u)with q|q
 .exact q
 .exfalso;have hk:=Zds hx h0 hC (dG B) q hu;obtain⟨k,w,Y,G⟩:=hE;have s:=Pg Y;have l:∀d,Tr d->Ed d o->Ed d (tzl w)->d.length<=1:=λd hd e1 R=>by
   obtain⟨f,s1,Q,r1⟩:=e1;obtain⟨g,s2,c2,r2⟩:=R;refine Zfe hx h0 hC.1.2.2.1 hd ⟨k*f,lmul w s1,bG Y Q,λx=>?_⟩ ⟨k*f*g,Mb ((lmul (ld w) s1).map λa=>g*a) ((lmul s2 (ld o)).map λa=>f*a),bG (bG Y Q) c2,λx=>?_⟩
   .rw [Zp];have a1:=G x;have j:=r1 x;push_cast;grind
   .rw [Xd,Zg,Zg,Zp,Zp,Km];have a0:=Ca ((sqf F xs).map λa=>k*a) (lmul w o) (λy=>by rw [Zg,Zp];exact G y) x;rw [Ao,Cq]at a0;have j:=r1 x;have a3:=r2 x;rw [Mu]at a3;push_cast;have b1:(k:Rat)*f*g*Zb (ld (sqf F xs)) x=(f:Rat)*g*(Zb (ld w) x*Zb o x+Zb w x*Zb (ld o) x):=by rw [<-a0];grind
    rw [b1];have b2:(f:Rat)*g*(Zb (ld w) x*Zb o x+Zb w x*Zb (ld o) x)=(g:Rat)*(Zb (ld w) x*((f:Rat)*Zb o x))+(f:Rat)*(((g:Rat)*Zb w x)*Zb (ld o) x):=O4;rw [b2,j,a3];grind
  obtain⟨ε,e1,R⟩:=Zzn ho (Qq w) o0 l u v;obtain⟨I,l1,l2⟩:=Cp u v o;obtain⟨P,m1,m2⟩:=Cp u v w;obtain⟨D,d1,-,d3⟩:=Gb (show(0:Rat)<1 by decide) (show 0<I+P by grind) (show 0<ε/2 by grind);obtain⟨n,hn⟩:=Zgp (v-u) d1;obtain⟨x,y,H,x2,x3,x4,x5,x6⟩:=Zst (Zb o) d1 n u v B hn h;have sx:=hk x H O4;have sy:=hk y O4 x3;have ox:=G x;have oy:=G y;have W:Zb o y≠0:=λe=>by
   rw [e]at oy;rcases fB.1 (show(k:Rat)*Zb (sqf F xs) y=0 by grind)with t|t
   .exact s t
   .rw [t]at sy;grind
  have S:Zb o x*Zb o y<0:=by
   rcases(show Zb o x*Zb o y<0\/Zb o x*Zb o y=0 by grind)with t|t
   .exact t
   .rcases fB.1 t with t|t
    .exact absurd t x5
    .exact absurd t W
  have Z:0<Zb (sqf F xs) x*Zb (sqf F xs) y:=by
   have a1:=bB sx sy;have j:=Gu hu;rcases(show 0<Zb (sqf F xs) x*Zb (sqf F xs) y\/Zb (sqf F xs) x*Zb (sqf F xs) y<=0 by grind)with t|t
   .exact t
   .have:=aM (dG j) (show 0<=-(Zb (sqf F xs) x*Zb (sqf F xs) y) by grind);grind
  have V:Zb w x*Zb w y<0:=by
   have a1:(k:Rat)*k*(Zb (sqf F xs) x*Zb (sqf F xs) y)=(Zb w x*Zb w y)*(Zb o x*Zb o y):=by
    have:((k:Rat)*Zb (sqf F xs) x)*((k:Rat)*Zb (sqf F xs) y)=(Zb w x*Zb o x)*(Zb w y*Zb o y):=by rw [ox,oy]
    grind
   have j:=bB (Gu s) Z;rcases(show Zb w x*Zb w y<0\/0<=Zb w x*Zb w y by grind)with t|t
   .exact t
   .have:=aM t (show 0<=-(Zb o x*Zb o y) by grind);grind
  have Q:=l2 x y H O4 x3;have c2:=m2 x y H O4 x3;have n1:=aM (a:=I) (b:=D-(y-x)) O4 O4;have n2:=aM (a:=P) (b:=D-(y-x)) O4 O4;have n3:=aM (a:=I) (b:=D) O4 O4;have n4:=aM (a:=P) (b:=D) O4 O4;obtain⟨b1,b2⟩:=Zm4 (c:=ε/2) S O4 O4;obtain⟨b3,b4⟩:=Zm4 (c:=ε/2) V O4 O4;rcases R x H O4 with t|t
  .unfold Big at t;grind
  .unfold Big at t;rw [Mu]at t;grind
theorem Zmy{F:Nat}(l:Tr xs)(f:xs≠[])(g:Ah F xs){u v:Rat}(e:u<v)(h:Zb (sqf F xs) u≠0)(j:Zb (sqf F xs) v=0):vch F xs v<vch F xs u:=by
 rcases jM (vch F xs v) (vch F xs u)with q|q
 .exact q
 .exfalso;have:=Zds l f g (dG e) q h v (dG e) O4;rw [j]at this;grind
theorem Odp.ed{F n:Nat}(h:Odp F n p o):Ed o (Go.Sky.sqf F p):=by have e:=Dp.start h.tr h.ne;obtain⟨-,f⟩:=Fh h.tr h.ne h.sz h.hn h.hl h.hF p.length (Xk p) e (by rw [Po h.tr];exact aJ _);rw [<-h.eq]at f;rwa [Zn9 e.2.2.1]at f
theorem Yc7{F:Nat}(l:Tr xs)(f:xs≠[])(j:Ah F xs)(x:Rat):Zb xs x=0↔Zb (sqf F xs) x=0:=by
 constructor
 .intro h;have n:(x.den:Int)≠0:=by exact_mod_cast x.den_nz
  have e:((x.num:Int):Rat)/((x.den:Int):Rat)=x:=by rw [<-Rat.divInt_eq_div];exact Rat.num_divInt_den x
  have:=Yc9 l f j.1.2.2.1 n (r:=x.num) (by rw [e];exact h);rwa [e]at this
 .intro h;obtain⟨g,s⟩:=Ykn l f j.1.2.2.1;rw [s x,h];grind
theorem Ylf {F n:Nat}  (h:Odp F n p o) (f:Ah F p) {K:Nat} {e:Nat} (l:∀u v:Rat,-(K:Rat)<=u->u<=v->v<=(K:Rat)->v-u<=1/((2^e:Nat):Rat)->vch F p u-vch F p v<=1)
  {s t:Rat} (h1:-(K:Rat)+1<=s) (Q:t<=(K:Rat)) (hs:0<=Zb p s) (ht:0<=Zb p t) (V:Yca p s t):1/((2^(e+1):Nat):Rat)<t-s:=by
 obtain⟨x,x1,x2,x3⟩:=V;have B:s<x:=by rcases(show s<x\/s=x by grind)with q|q;exact q;subst q;grind
 have D:x<t:=by rcases(show x<t\/x=t by grind)with q|q;exact q;subst q;grind
 obtain⟨f1,f2,f3,f4,f5,f6⟩:=Nc F h.tr h.ne f.1.2.2.1;have j:Zb (Go.Sky.sqf F p) x≠0:=λz=>by have:=(Yc7 h.tr h.ne f x).2 z;grind
 rcases(show 1/((2^(e+1):Nat):Rat)<t-s\/t-s<=1/((2^(e+1):Nat):Rat) by grind)with q|q
 .exact q
 .exfalso;have W:=two_pow_pos e;have Y:=two_pow_pos (e+1);have I:((2^(e+1):Nat):Rat)=2*((2^e:Nat):Rat):=by rw [cJ];push_cast;grind
  have hi:0<((2^e:Nat):Rat)⁻¹:=gC.2 W;have R:1/((2^(e+1):Nat):Rat)=((2^e:Nat):Rat)⁻¹/2:=by rw [I];grind
  have P:1/((2^e:Nat):Rat)=((2^e:Nat):Rat)⁻¹:=O4;have S:((2^e:Nat):Rat)⁻¹<=1:=by
   have g1:(1:Rat)<=((2^e:Nat):Rat):=by have:1<=2^e:=dZ e;exact_mod_cast this
   have g2:=aM (a:=((2^e:Nat):Rat)-1) (b:=((2^e:Nat):Rat)⁻¹) O4 O4;have g3:((2^e:Nat):Rat)*((2^e:Nat):Rat)⁻¹=1:=lK _ O4;grind
  obtain⟨u,u1,u2,u3⟩:∃u,s-((2^e:Nat):Rat)⁻¹/2<=u/\u<=s/\vch F p x<vch F p u:=by
   by_cases z:Zb (Go.Sky.sqf F p) s=0
   .obtain⟨δ,d1,H⟩:=Bw (Go.Sky.sqf F p).length (Go.Sky.sqf F p) (s-((2^e:Nat):Rat)⁻¹/2) (aJ _);have G:=Zgq (Go.Sky.sqf F p).length (Go.Sky.sqf F p) (s-((2^e:Nat):Rat)⁻¹/2) f2 f3 (aJ _);obtain⟨u,w1,w2,w3⟩:∃u,s-((2^e:Nat):Rat)⁻¹/2<u/\u<=s-((2^e:Nat):Rat)⁻¹/2+δ/\u<s:=by
     rcases(show s-((2^e:Nat):Rat)⁻¹/2+δ<s\/s<=s-((2^e:Nat):Rat)⁻¹/2+δ by grind)with w|w
     .exact⟨_,O4,iL,w⟩
     .exact⟨s-((2^e:Nat):Rat)⁻¹/4,O4,O4,O4⟩
    have Z:Zb (Go.Sky.sqf F p) u≠0:=λc=>by have:=H u w1 w2;rw [c]at this;exact G this.symm
    have m1:=Zmy h.tr h.ne f w3 Z z;have m2:=Zjk h.tr h.ne f (dG B);exact⟨u,O4,O4,O⟩
   .have g:0<Zb p s:=by have:Zb p s≠0:=λc=>z ((Yc7 h.tr h.ne f s).1 c);grind
    have k:=h.opp (x:=s) (y:=x) (by have:=bB g (show 0 < -Zb p x by grind);grind);exact⟨s,O4,O4,Ztf h.tr h.ne f h.otr h.one h.ed B z k.1⟩
  have u4:vch F p t<vch F p x:=by
   by_cases z:Zb (Go.Sky.sqf F p) t=0
   .exact Zmy h.tr h.ne f D j z
   .have g:0<Zb p t:=by have:Zb p t≠0:=λc=>z ((Yc7 h.tr h.ne f t).1 c);grind
    have k:=h.opp (x:=x) (y:=t) (by have:=bB g (show 0 < -Zb p x by grind);grind);exact Ztf h.tr h.ne f h.otr h.one h.ed D j k.1
  have:=l u t O4 O4 Q O4;omega
def Zcb(xs:List Int)(m:Nat):Prop:=xs.length=0\/(xs.length+2)*(xs.length+2)*(Qz xs+m+2*(xs.length-1)+32)<=65536
instance (xs:List Int) (m:Nat):Decidable (Zcb xs m):=by unfold Zcb;infer_instance
def sgf_t{m:Nat}(h:xs.length=0):Value.bool (decide (Zcb xs m))= .bool true:=aN Value.bool (aI (.inl h))
theorem sgf_i{m:Nat}{n:Int}(h:xs.length≠0)(f:n=(((xs.length+2)*(xs.length+2)*(Qz xs+m+2*(xs.length-1)+32):Nat):Int)):Value.bool (decide (Zcb xs m))= .bool (decide (n<=65536)):=aN Value.bool (cF.2 (by
 subst f;show(xs.length=0\/_<=65536)↔_;constructor
 .intro e;rcases e with e|e
  .exact absurd e h
  .exact lD.2 e
 .intro e;exact .inr (lD.1 e)))
def efit(z:R2):Bool:=decide (max (bl z.1.natAbs) (bl z.2.natAbs)<=512)
def Zpk:List Int->Int
 | []=>0
 | x::r=>if x=0 then Zpk r else x
theorem Zs0{s:Int}(h:s≠0):∀{L:List Int} {i:Nat},i<L.length->(∀k,k<i->L.getD k 0=0)->L.getD i 0=s->Zpk L=s
 | [],i,hi,_,_=>absurd hi O8
 | x::r,0,_,_,hs=>by have e:x=s:=hs;subst e;unfold Zpk;rw [aD h]
 | x::r,i+1,hi,hz,hs=>by have e:x=0:=hz 0 O;unfold Zpk;rw [aF e];exact Zs0 h (L:=r) (i:=i) (by simpa using hi) (λk f=>hz (k+1) O) hs
theorem Znf:∀{L:List Int},(∀k,k<L.length->L.getD k 0=0)->Zpk L=0
 | [],_=>rfl
 | x::r,hz=>by have e:x=0:=hz 0 O8;unfold Zpk;rw [aF e];exact Znf λk f=>hz (k+1) (by simpa using f)
def aft(e:List (List Int))(m:R2):Int:=Zpk (e.map (fat m.1 m.2))
def vlu(e:List (List Int))(m:R2):Int:=if e.length=0 then 0 else fat m.1 m.2 (e.getD 0 [])
def chv(e:List (List Int))(m:R2):Int:=chg (e.map (fat m.1 m.2))
def crb(e:List (List Int))(a b:R2):Bool:=if e.length=0 then false else decide (0<chv e a-chv e b-if fat b.1 b.2 (e.getD 0 [])=0 then 1 else 0)
def cmp(a b:R2):Int:=(a.1*b.2-b.1*a.2).sign
def ngb(ds cs:List (List Int))(a b:R2):Bool:=if cmp a b=0 then decide (vlu ds a<0)else(decide (aft ds a<0) || crb cs a b)
theorem Zz9(ls:List (SL×List Int))(x y:Int):aft (ls.map Prod.snd) (x,y)=Zpk (sgx ls (fat x y)):=by unfold aft;rw [Zxe rfl]
theorem Ynd(ls:List (SL×List Int))(x y:Int):chv (ls.map Prod.snd) (x,y)=chg (sgx ls (fat x y)):=by unfold chv;rw [Zxe rfl]
theorem Zg0(h:i<ls.length):(ls.map Prod.snd).getD i []=(ls.getD i Z0).2:=by rw [aE,aE,eY,aL h];rfl
theorem chv_r(e:List (List Int))(m:R2):0<=chv e m/\chv e m<=(e.length:Int):=by have:=Zhk (e.map (fat m.1 m.2));rw [aW]at this;exact this
theorem Zrq{x:Rat}(h:Eo x=0):x=0:=by
 rcases Pf x with⟨f,e⟩|⟨f,e⟩|⟨f,e⟩
 .rw [e]at h;exact absurd h O3
 .rw [e]at h;exact absurd h O3
 .exact f
theorem sgm_i{l:Int}(f:-1<=x/\x<=1)(e:-1<=l/\l<=1):Mr (x*l):=by
 rcases(show x=-1\/x=0\/x=1 by omega)with h|h|h<;>subst h
 .exact⟨O,O⟩
 .exact⟨O,O⟩
 .exact⟨O,O⟩
theorem Zxg{l:Int}(f:-1<=x/\x<=1)(e:-1<=l/\l<=1)(h:x*l<0):x=-l:=by rcases(show x=-1\/x=0\/x=1 by omega)with h|h|h<;>subst h<;>omega
theorem Zxf{l:Int}(g:-1<=x/\x<=1)(f:-1<=l/\l<=1)(h:¬x*l<0)(e:x≠0):¬x=-l:=by rcases(show x=-1\/x=0\/x=1 by omega)with h|h|h<;>subst h<;>omega
theorem Zxh{l:Int}(h:x=0):¬x*l<0:=by subst h;omega
theorem crb_t{e f:Int}(h:cs.length≠0)(g:fat e f (cs.getD 0 Z0).2=0):Value.bool (crb (cs.map Prod.snd) (x,y) (e,f))= .bool (decide (0<chv (cs.map Prod.snd) (x,y)-chv (cs.map Prod.snd) (e,f)-1)):=by unfold crb;rw [aW,aD h,Zg0 O,aF g]
theorem crb_f{e f:Int}(h:cs.length≠0)(g:¬fat e f (cs.getD 0 Z0).2=0):Value.bool (crb (cs.map Prod.snd) (x,y) (e,f))= .bool (decide (0<chv (cs.map Prod.snd) (x,y)-chv (cs.map Prod.snd) (e,f))):=by unfold crb;rw [aW,aD h,Zg0 O,aD g,jL]
theorem ngb_t{cs:List (List Int)}(h:¬cmp a b=0)(e:aft ds a<0):Value.bool (ngb ds cs a b)= .bool true:=by unfold ngb;rw [aD h,aI e];rfl
theorem ngb_f{cs:List (List Int)}(h:¬cmp a b=0)(e:¬aft ds a<0):Value.bool (ngb ds cs a b)= .bool (crb cs a b):=by unfold ngb;rw [aD h,aK e];rfl
def Ze2:Nat->List Int->List (List Int)
 | 0,_=>[]
 | n+1,p=>if p.length=0 then []else p::Ze2 n (Xb p)
theorem Ztj{m:R2}(j:0<m.2):∀(n:Nat) (p:List Int),p.length<=n->aft (Ze2 n p) m=Em n p (qv m)
 | 0,p,s=>rfl
 | n+1,p,s=>by
  unfold Ze2;by_cases h:p.length=0
  .rw [aF h];have:p=[]:=aG h;subst this;have f:∀n,Em n [] (qv m)=0:=λn=>by
    induction n with
    | zero=>rfl
    | succ n g=>unfold Em;rw [aD (by show ¬(0:Rat)≠0;simp)];exact g
   rw [f];rfl
  .rw [aD h];have u:=Ns p;have g:=Ztj j n (Xb p) O;unfold aft at g ⊢;rw [cQ];unfold Zpk Em;have l:fat m.1 m.2 p=Eo (Zb p (qv m)):=Zpp j p;rw [l];by_cases f:Zb p (qv m)=0
   .rw [aF (Zrr f),aD (by simpa using f)];exact g
   .rw [aD (λe=>f (Zrq e)),aF f]
structure Cvd (xs:List Int):Prop where
 v:Vp xs
 s:Sz 205 xs
 l:xs.length<=11
theorem Zzb(h:Cvd xs)(e:xs≠[])(f:Dp xs r):Sz 220 r/\r.length<=11:=by obtain⟨g,j⟩:=f.sz h.v.tr e h.s (by have:=h.l;omega);exact⟨g,by have:=h.l;omega⟩
theorem Ziw(h:Cvd xs)(l:xs≠[])(e:Dp xs r) :
  Vp r/\r≠[]/\(∀i,bl (cf r (i+1)*((i:Int)+1)).natAbs<=65536)/\Vp (Xb r)/\¬Znd r (Xb r)/\eok 13 (gA r (Xb r)) (gB r (Xb r))/\Nz 13 r (Xb r)=Ms 13 r/\Vp (Ms 13 r)/\
  Cx r (Ms 13 r)=0/\pdv r (Ms 13 r)/\Hc r (Ms 13 r)=sqf 13 r/\Vp (sqf 13 r)/\Sz 235 (sqf 13 r)/\(sqf 13 r).length<=11/\Dp xs (Ms 13 r)/\sqf 13 r≠[]/\((sqf 13 r).length≠1->(Ms 13 r).length<r.length)/\Za3 13 r:=by
 obtain⟨H,Z⟩:=Zzb h l e;have w:Vp r:=⟨H.mono O,e.1,O⟩;have f:=e.ok h.v.tr l h.s O (by have:=h.l;omega) (show xs.length<=13+1 by have:=h.l;omega);obtain⟨⟨V,P,Q,F,G⟩,-,-⟩:=f.1;have j:=e.2.2.1;have s:=(chG 13 e.1 e.2.1 H O O O).2.1;have R:=(chG 13 e.1 e.2.1 H O O O).2.2.1;have D:=Zup w e.2.1 f.1.1;have I:Ms 13 r=Nz 13 r (Xb r):=by unfold Ms;rw [j]
 have n:=e.next f.2;have B:Vp (Ms 13 r):=by obtain⟨t1,t2⟩:=Zzb h l n;exact⟨t1.mono O,n.1,O⟩
 have u:sqf 13 r=Hc r (Ms 13 r):=by unfold sqf Ms;rw [j]
 obtain⟨f1,f2,f3,f4,f5,f6⟩:=Nc 13 e.1 e.2.1 f.2;have g:∀i,bl (cf r (i+1)*((i:Int)+1)).natAbs<=65536:=λi=>by
  by_cases hi:i<r.length
  .have:=V i hi;rwa [j]at this
  .rw [Yn O];simp [Ko]
 rw [j]at P Q F G;rw [<-I]at F G;refine⟨w,e.2.1,g,Ze9 w (λi _=>g i),P,Q,I.symm,B,F,G,u.symm,D,s,O,n,f3,λS=>?_,f.2⟩;refine Zph e.1 e.2.1 f.2 ?_;have:=Ox e.1 e.2.1 f.2;have W:=aH.2 f3;have Y:=aH.2 this.2.1;omega
def Gj(xs:List Int):List Int:=Zsb 13 xs.length [1] (Xk xs)
structure OddI (xs:List Int) (t:Nat) (rest out before:List Int):Prop where
 ex:∃f q,Dp xs q/\q.length<=f/\Zsb 13 f out q=Gj xs/\Tr out/\Op xs out q/\((t%2=1/\rest=q)\/(t%2=0/\rest=Ms 13 q/\before=sqf 13 q/\(sqf 13 q).length≠1))
theorem OddI.start{b:List Int}(h:Cvd xs)(e:xs≠[]):OddI xs 1 (Xk xs) [1] b:=
 ⟨xs.length,Xk xs,Dp.start h.v.tr e,by rw [Po h.v.tr];exact aJ _,rfl,.inr O3,Op.start h.v.tr,.inl ⟨rfl,rfl⟩⟩
theorem OddI.dp{e:List Int}(h:Cvd xs)(j:xs≠[])(n:OddI xs t rest e before):Dp xs rest:=by
 obtain⟨f,q,g,s,u,w,B,l|⟨-,rfl,-⟩⟩:=n.ex
 .rw [l.2];exact g
 .exact(Ziw h j g).2.2.2.2.2.2.2.2.2.2.2.2.2.2.1
theorem OddI.out{e:List Int}(h:Cvd xs)(l:xs≠[])(u:OddI xs t rest e before):Vp e/\Sz 220 e/\e.length<=11:=by obtain⟨f,q,n,w,B,g,s,-⟩:=u.ex;obtain⟨j,D,F⟩:=s.sz h.v.tr l h.s (by have:=h.l;omega) g n.1;have:=h.l;exact⟨⟨j.mono O,g,O⟩,j,O⟩
theorem OddI.odd_end{e:List Int}(h:Cvd xs)(s:xs≠[])(l:OddI xs t rest e before)(F:t%2=1)(n:(sqf 13 rest).length=1):e=Gj xs:=by
 obtain⟨f,q,j,u,g,w,B,⟨-,rfl⟩|⟨D,-⟩⟩:=l.ex
 .cases f with
  | zero=>exact absurd (aH.2 j.2.1) O
  | succ f=>unfold Zsb at g;rw [aF n]at g;exact g
 .omega
theorem OddI.odd_next{e:List Int}(s:OddI xs t rest e before)(B:t%2=1)(u:(sqf 13 rest).length≠1):OddI xs (t+1) (Ms 13 rest) e (sqf 13 rest):=by
 obtain⟨f,q,g,h,j,l,n,⟨-,rfl⟩|⟨w,-⟩⟩:=s.ex
 .exact⟨f,rest,g,h,j,l,n,.inr ⟨O,rfl,rfl,u⟩⟩
 .omega
theorem OddI.even{g:List Int}(h:Cvd xs)(D:xs≠[])(hI:OddI xs t rest g before)(ht:t%2=0) :
  Vp before/\Cx before (sqf 13 rest)=0/\pdv before (sqf 13 rest)/\Vp (Hc before (sqf 13 rest))/\¬Ar g (Hc before (sqf 13 rest))/\
  ((sqf 13 rest).length=1->Qr g (Hc before (sqf 13 rest))=Gj xs)/\((sqf 13 rest).length≠1->OddI xs (t+1) (Ms 13 rest) (Qr g (Hc before (sqf 13 rest))) (sqf 13 rest))/\Vp (Qr g (Hc before (sqf 13 rest))):=by
 obtain⟨f,q,j,h2,n,h4,h5,⟨h7,-⟩|⟨-,rfl,rfl,Z⟩⟩:=hI.ex
 .omega
 obtain⟨a1,a2,a3,a4,a5,a6,a7,a8,a9,c0,c5,H,I,c6,P,c7,Q,s⟩:=Ziw h D j;obtain⟨b1,b2,b3,b4,b5,b6,b7,b8,b9,c8,c9,R,S,d0,u,l,V,B⟩:=Ziw h D P;obtain⟨c1,c2,W,c4⟩:=Zcg j.1 j.2.1 s B;have Y:=h5.next j.1 j.2.1 j.2.2.1 s B;have ho:=h.l;obtain⟨s1,s2,s3⟩:=Y.sz h.v.tr D h.s O Qp u.1;obtain⟨o1,o2,o3⟩:=h5.sz h.v.tr D h.s O h4 j.1;have d1:(Zaw 13 q).length<=11:=by have e:=aN List.length c2;rw [Ma W R.tr c4 l]at e;have:=aH.2 l;omega
 have F:Sz 450 (Zaw 13 q):=by obtain⟨a,ha,e⟩:=Y;have e2:Xk xs=Qr (Qr (Qr a (Ms 13 (Ms 13 q))) g) (Zaw 13 q):=e.trans ((Qp).ext Qp λi=>Mi (λx=>by simp only [Yu];grind) i);exact(Zvu h.v.tr D h.s O Qp W e2).1.mono O
 have hd:Cx (sqf 13 q) (sqf 13 (Ms 13 q))=0:=by
  have m1:=Py I;have m2:=Py S;have l1:=aH.2 l;unfold Cx;rw [aD O];split
  .rfl
  .have:((sqf 13 q).length-(sqf 13 (Ms 13 q)).length+1)*(Qz (sqf 13 (Ms 13 q))+1)<=12*240:=aY O O;rw [aD O]
 have a0:Vp (Zaw 13 q):=⟨F.mono O,W,O⟩;have hm:¬Ar g (Zaw 13 q):=λhF=>by have m1:=Py o1;have m2:=Py F;rcases hF.2.2 with w|w<;>omega
 refine⟨H,hd,c1,a0,hm,λG=>?_,λG=>?_,⟨s1.mono O,Qp,aB s2 O⟩⟩
 .cases f with
  | zero=>exact absurd (aH.2 j.2.1) O
  | succ f=>unfold Zsb at n;rw [aD Z,aF G]at n;exact n
 .cases f with
  | zero=>exact absurd (aH.2 j.2.1) O
  | succ f=>
   unfold Zsb at n;rw [aD Z,aD G]at n;have l1:=Q Z;have l2:=V G;exact⟨f,Ms 13 (Ms 13 q),u,O,n,Qp,Y,.inl ⟨O,rfl⟩⟩
theorem Ya3(h:Cvd xs)(f:xs≠[]):Gj xs=Zeq 13 xs.length (Xk xs):=by have e:=Dp.start h.v.tr f;have j:=h.l;have g:=(e.ok h.v.tr f h.s O O (show xs.length<=13+1 by omega)).2;unfold Gj;rw [Ylb h.v.tr f h.s O O O xs.length [1] (Xk xs) (.inr (show cf [1] 0≠0 by decide)) e (by rw [Po h.v.tr];exact aJ _),Ykw (Zxu xs e.1 e.2.1 g)]
theorem Zfv(h:Cvd xs)(f:xs≠[]):Odp 13 205 xs (Gj xs)/\Vp (Gj xs)/\Sz 220 (Gj xs)/\(Gj xs).length<=xs.length/\Zas (Gj xs):=by
 have g:=Dp.start h.v.tr f;have I:=h.l;have s:=(g.ok h.v.tr f h.s O O (show xs.length<=13+1 by omega)).2;have n:=Ya3 h f;have j:Tr (Gj xs):=by rw [n];exact Zxu xs g.1 g.2.1 s
 obtain⟨⟨B,u⟩,-⟩:=Fh h.v.tr f h.s O O (show xs.length<=13+1 by omega) xs.length (Xk xs) g (by rw [Po h.v.tr];exact aJ _);rw [<-n]at u;have e:Xk xs=Qr (Qr B B) (Gj xs):=g.1.ext Qp λi=>Mi (λx=>by rw [u x,Yu,Yu];grind) i;obtain⟨l,G,w⟩:=Zvu h.v.tr f h.s O Qp j e;have F:=(chG 13 j w l O O O).1;refine⟨⟨h.v.tr,f,h.s,O,O,O,n,j,w,F⟩,⟨l.mono O,j,O⟩,l,G,.inr ?_⟩;have P:=Py l;have D:((Gj xs).length+2)*((Gj xs).length+2)<=13*13:=aY O O;have H:((Gj xs).length+2)*((Gj xs).length+2)*(Qz (Gj xs)+16)<=13*13*236:=aY D O;omega
def chx(xs:List Int):List (List Int):=if xs.length=0 then []else chn 13 (Gj xs)
def Nb(xs:List Int):List (List Int):=Ze2 xs.length xs
theorem Zti:∀(n k:Nat) (p:List Int),Tr p->p.length<=25->Sz k p->∀q∈Ze2 n p,Tr q/\q.length<=p.length/\Sz (k+5*n) q
 | 0,_,_,_,_,_,q,e=>absurd e (by simp [Ze2])
 | n+1,k,p,g,l,hs,q,e=>by
  unfold Ze2 at e;by_cases f:p.length=0
  .rw [aF f]at e;exact absurd e O8
  .rw [aD f]at e;rcases aZ.1 e with rfl|e
   .exact⟨g,aJ _,hs.mono O⟩
   .have s:=Ns p;obtain⟨h,u,j⟩:=Zti n (k+5) (Xb p) (Mg g) O (Zaq hs l) q e;exact⟨h,O,j.mono O⟩
theorem Di(h:Cvd xs):∀q∈Nb xs,Vp q/\Qz q<=6150/\q.length<=11:=λq g=>by have l:=h.l;obtain⟨f,j,e⟩:=Zti xs.length 205 xs h.v.tr O h.s q g;have:=Py e;exact⟨⟨e.mono O,f,O⟩,O,O⟩
theorem Zgk(h:Cvd xs):∀q∈chx xs,Vp q/\Qz q<=6150/\q.length<=11:=λq f=>by
 have H:=h.l;unfold chx at f;by_cases j:xs.length=0
 .rw [aF j]at f;exact absurd f O8
 .rw [aD j]at f;have l:xs≠[]:=λe=>j (by rw [e];rfl);obtain⟨g,s,u,B,D⟩:=Zfv h l;obtain⟨w,F,G,n⟩:=chG 13 g.otr g.one u O O (show(Gj xs).length<=13+1 by omega);exact⟨vp_chn s g.one w q f,(n q f).1,by have:=(n q f).2;omega⟩
theorem Zqa(xs:List Int):(chx xs).length<=1000:=by
 unfold chx;split
 .exact bI _
 .have:=Zee 13 (sqf 13 (Gj xs)) (Yh (Xb (sqf 13 (Gj xs))));unfold chn;omega
theorem Zre(g:Qz p<=6150)(h:p.length<=11)(a:bl m.1.natAbs<=5300)(b:bl m.2.natAbs<=5300):¬Ke p m.1 m.2:=λf=>by
 have e:Qz [m.1,m.2]<=5300:=by show max (bl m.1.natAbs) (max (bl m.2.natAbs) 0)<=5300;omega
 have j:(p.length-1)*Qz [m.1,m.2]<=10*5300:=aY O e;have:=f.2;omega
def Zc1(h:Cvd xs)(a:bl m.1.natAbs<=5300)(b:bl m.2.natAbs<=5300):(∀p∈Nb xs,¬Ke p m.1 m.2)/\(∀p∈chx xs,¬Ke p m.1 m.2):=
 ⟨λp e=>Zre (Di h p e).2.1 (Di h p e).2.2 a b,λp e=>Zre (Zgk h p e).2.1 (Zgk h p e).2.2 a b⟩
theorem Yd8(e:0<a.2)(f:0<b.2):((a.1*b.2-b.1*a.2:Int):Rat)=(qv a-qv b)*((a.2:Rat)*(b.2:Rat)):=by have g:=Gh e;have h:=Gh f;unfold qv;push_cast;grind
theorem Ym5(g:0<a.2)(j:0<b.2):cmp a b<0↔qv a<qv b:=by
 have e:=Yd8 g j;have l:=bB (Gh g) (Gh j);unfold cmp;rw [sign_neg_iff];constructor
 .intro h;have f:((a.1*b.2-b.1*a.2:Int):Rat)<0:=by exact_mod_cast h
  rcases(show qv a<qv b\/qv b<=qv a by grind)with q|q
  .exact q
  .have:=aM (show 0<=qv a-qv b by grind) (Rat.le_of_lt l);grind
 .intro h;have:=bB (show 0<qv b-qv a by grind) l;have f:((a.1*b.2-b.1*a.2:Int):Rat)<0:=O4;exact_mod_cast f
theorem Zp7(f:0<a.2)(g:0<b.2):cmp a b=0↔qv a=qv b:=by
 have e:=Yd8 f g;have l:=bB (Gh f) (Gh g);unfold cmp;rw [gR];constructor
 .intro h;rw [h]at e;rcases fB.1 (show(qv a-qv b)*((a.2:Rat)*(b.2:Rat))=0 by rw [<-e];rfl)with q|q
  .grind
  .rw [q]at l;grind
 .intro h;have j:((a.1*b.2-b.1*a.2:Int):Rat)=0:=by rw [e,h];grind
  exact_mod_cast j
theorem Ym6(g:0<a.2)(j:0<b.2):cmp a b<=0↔qv a<=qv b:=by
 have e:=Ym5 g j;have f:=Zp7 g j;constructor
 .intro h;rcases(show cmp a b<0\/cmp a b=0 by omega)with q|q
  .exact dG (e.1 q)
  .have:=f.1 q;grind
 .intro h;rcases(show qv a<qv b\/qv a=qv b by grind)with q|q
  .exact eK (e.2 q)
  .exact oE (f.2 q)
def Ygw(e:0<m.2)(p:List Int):fat m.1 m.2 p=Eo (Zb p (qv m)):=Zpp e p
theorem Ync(h:Cvd xs)(l:xs≠[])(B:0<a.2)(n:0<b.2):crb (chx xs) a b=true↔Zae 13 (Gj xs) (qv a) (qv b):=by
 obtain⟨j,I,P,Q,R⟩:=Zfv h l;have g:xs.length≠0:=λe=>l (aG e);unfold crb Zae chx;rw [aD g];have G:∃r,chn 13 (Gj xs)=sqf 13 (Gj xs)::r:=by unfold chn Mn;split<;>exact⟨_,rfl⟩
 obtain⟨r,s⟩:=G;have u:∀m:R2,0<m.2->chv (chn 13 (Gj xs)) m=vch 13 (Gj xs) (qv m):=λm H=>(cvc_v (F:=13) (xs:=Gj xs) H);rw [aD (by rw [s];simp),u a B,u b n];have D:(chn 13 (Gj xs)).getD 0 []=sqf 13 (Gj xs):=by rw [s];rfl
 rw [D,Ygw n];have w:Eo (Zb (sqf 13 (Gj xs)) (qv b))=0↔Zb (Gj xs) (qv b)=0:=⟨λe=>(j.zero _).1 (Zrq e),λe=>Zrr ((j.zero _).2 e)⟩;by_cases f:Zb (Gj xs) (qv b)=0
 .rw [aF f,aF (w.2 f)];exact eW
 .rw [aD f,aD (λe=>f (w.1 e))];exact eW
theorem Zjj(f:0<m.2):vlu (Nb xs) m=Eo (Zb xs (qv m)):=by
 unfold vlu Nb;by_cases e:xs.length=0
 .have:xs=[]:=aG e;subst this;rfl
 .obtain⟨n,g⟩:∃n,xs.length=n+1:=⟨xs.length-1,O⟩;rw [g];unfold Ze2;rw [aD e,aD O8];exact Ygw f xs
theorem Zya(h:Cvd xs)(g:0<a.2)(w:0<b.2)(u:qv a<=qv b):ngb (Nb xs) (chx xs) a b=true↔Yca xs (qv a) (qv b):=by
 unfold ngb;by_cases l:cmp a b=0
 .rw [aF l,Zjj g,eW];have e:=(Zp7 g w).1 l;constructor
  .intro f;refine⟨qv a,iL,u,?_⟩;rcases Pf (Zb xs (qv a))with⟨s,j⟩|⟨s,j⟩|⟨s,j⟩
   .rw [j]at f;exact absurd f O3
   .exact s
   .rw [j]at f;exact absurd f O3
  .rintro⟨x,G,H,D⟩;have:x=qv a:=O4;rw [<-this,Zmx D];decide
 .rw [aD l];have B:qv a<qv b:=by have:=λe=>l ((Zp7 g w).2 e);grind
  by_cases n:xs=[]
  .subst n;constructor
   .intro f;exact absurd f (by show ¬(decide ((0:Int)<0) || false)=true;decide)
   .rintro⟨x,G,H,D⟩;exact absurd D (by show ¬(0:Rat)<0;grind)
  .obtain⟨F,I,P,Q,R⟩:=Zfv h n;rw [<-F.sem B,mN,eW,Ync h n g w,show aft (Nb xs) a=Em xs.length xs (qv a)from Ztj g _ _ (aJ _)]
theorem Ztv(h:Cvd xs){m:Nat}(j:m<=100):Zcb xs m:=by refine .inr ?_;have g:=h.l;have l:=Py h.s;have e:(xs.length+2)*(xs.length+2)<=13*13:=aY O O;have f:(xs.length+2)*(xs.length+2)*(Qz xs+m+2*(xs.length-1)+32)<=13*13*357:=aY e O;omega
theorem Znj(h:xs.length=0):Nb xs=[]:=by unfold Nb;rw [h];rfl
theorem Ynb(h:xs.length=0):chx xs=[]:=by unfold chx;rw [aF h]
theorem chx_ne(h:xs.length≠0):chx xs=chn 13 (Gj xs):=by unfold chx;rw [aD h]
theorem Znk:∀(n m:Nat) (p:List Int),p.length<=n->p.length<=m->Ze2 n p=Ze2 m p
 | 0,m,p,f,g=>by
  have e:p.length=0:=O;cases m with
  | zero=>rfl
  | succ m=>unfold Ze2;rw [aF e]
 | n+1,m,p,f,g=>by
  have h:=Ns p;cases m with
  | zero=>unfold Ze2;rw [aF O]
  | succ m=>
   unfold Ze2;by_cases e:p.length=0
   .rw [aF e,aF e]
   .rw [aD e,aD e,Znk n m (Xb p) O O]
theorem Ybx(h:p.length≠0):Nb p=p::Nb (Xb p):=by have f:=Ns p;unfold Nb;obtain⟨n,e⟩:∃n,p.length=n+1:=⟨p.length-1,O⟩;rw [e,show Ze2 (n+1) p=if p.length=0 then []else p::Ze2 n (Xb p)from rfl,aD h,Znk n (Xb p).length (Xb p) O (aJ _)]
def Ab(M:Nat)(p:List Int):Prop:=∀i,(cf p i).natAbs<=M
def Ab.sz{n:Nat}(h:Ab M p)(e:M<2^n):Sz n p:=λi=>(Qt n _).2 (bC (h i) e)
def Ab.mono(h:Ab M p)(e:M<=N):Ab N p:=λi=>aB (h i) e
theorem Bx(h:Ab M p)(c:Int):Ab (M*c.natAbs) (Yi p c):=λi=>by rw [Qo,cH];exact aP _ (h i)
theorem Zra{f:Nat->Int}{M n:Nat}(h:∀k,(f k).natAbs<=M)(e:∀k,n<=k->f k=0):∀m,(Yb f m).natAbs<=min m n*M
 | 0=>by show(0:Int).natAbs<=_;simp
 | m+1=>by
  have g:=Zra h e m;rw [Yk];rcases aX m n with q|q
  .have:=h m;rw [show min (m+1) n=min m n+1 by omega,eN];omega
  .rw [e m q,bP,show min (m+1) n=min m n by omega];exact g
theorem Yi0{n:Nat}(e:Ab M p)(f:Ab N q)(h:p.length<=n):Ab (n*(M*N)) (Qr p q):=λi=>by
 rw [He,PS.mul_c];exact aB (Zra (n:=n) (M:=M*N) (λk=>by rw [cH];exact aY (e k) (f (i-k))) (λk g=>by show cf p k*_=0;rw [Yn O,dC]) _) (aP _ (Nat.min_le_right _ _))
theorem ab_add(e:Ab M p)(f:Ab N q):Ab (M+N) (Zcj p q):=λi=>by rw [Zzw];have:=e i;have:=f i;omega
theorem ab_sub(e:Ab M p)(f:Ab N q):Ab (M+N) (Zbl p q):=λi=>by rw [Zbv];have:=e i;have:=f i;omega
theorem ab_in(h:∀a∈c,Mr a):Ab (2^63) (tzl c):=λi=>by rw [Ij];obtain⟨e,f⟩:=Gy h i;show(c.getD i 0).natAbs<=_;omega
theorem Yls{n:Nat}(e:p.length<=n)(f:q.length<=n):(Zcj p q).length<=n:=by unfold Zcj;refine aB (Hj _) ?_;rw [Yt];omega
theorem Ylr{n:Nat}(e:p.length<=n)(f:q.length<=n):(Zbl p q).length<=n:=by unfold Zbl;refine aB (Hj _) ?_;rw [Yt];omega
theorem Zyo{n m:Nat}(g:Tr p)(h:Tr q)(j:p.length<=n)(l:q.length<=m):(Qr p q).length<=n+m-1:=by
 by_cases e:p=[]
 .rw [e,Dd];exact bI _
 .by_cases f:q=[]
  .rw [f,Zet];exact bI _
  .have:=Ma g h e f;omega
def dN:Nat->List Int->List Int
 | 0,p=>p
 | n+1,p=>Xb (dN n p)
def axQ(o:Nat)(c:List Int):List Int:=Yi (dN o (tzl c)) (1000^o)
def sqQ(o:Nat)(c:List Int):List Int:=Qr (axQ o c) (axQ o c)
def sumQ(o:Nat)(x y z:List Int):Nat->List Int
 | 0=>[]
 | i+1=>Zcj (sumQ o x y z i) (sqQ o (Ye i x y z))
def kilo(o:Nat):Int:=Ap (List.replicate o 1000)
def timC(o:Nat)(m ov T:Int):Int:=Ap (m::ov::List.replicate o T)
def oneQ(o:Nat)(m ov T:Int):List Int:=Yi [1] (timC o m ov T)
def formP(o:Nat)(m ov T:Int)(x y z:List Int):List Int:=Yh (Zbl (Qr (oneQ o m ov T) (oneQ o m ov T)) (sumQ o x y z 3))
structure Sgo (fr to ov:Int) (x y z:List Int):Prop where
 t1:0<=fr
 t2:fr<to
 t3:to<=3600000
 o1:1<=ov
 o2:ov<=4294967296
 hx:∀a∈x,Mr a
 hy:∀a∈y,Mr a
 hz:∀a∈z,Mr a
 lx:1<=x.length/\x.length<=6
 ly:1<=y.length/\y.length<=6
 lz:1<=z.length/\z.length<=6
def Sgo.hc{fr e:Int}{x y:List Int}(h:Sgo fr e ov x y z)(i:Nat):∀a∈Ye i x y z,Mr a:=Ax h.hx h.hy h.hz i
def Sgo.lc{fr e:Int}{x y:List Int}(h:Sgo fr e ov x y z)(i:Nat):1<=(Ye i x y z).length/\(Ye i x y z).length<=6:=Bj (p:=λl:List Int=>1<=l.length/\l.length<=6) h.lx h.ly h.lz
theorem Sgo.of{fr j:Int}{x y:List Int}(B:∀a∈x,Mr a)(D:∀a∈y,Mr a)(F:∀a∈z,Mr a)(h:Zak fr j ov x y z=true):Sgo fr j ov x y z:=by unfold Zak Zur axB at h;simp only [aQ,cZ]at h;obtain⟨⟨⟨⟨⟨⟨⟨⟨l,n⟩,s⟩,u⟩,w⟩,e⟩,f⟩,g⟩,-⟩:=h;exact⟨l,n,s,u,w,B,D,F,⟨e.1.1.1,e.1.1.2⟩,⟨f.1.1.1,f.1.1.2⟩,⟨g.1.1.1,g.1.1.2⟩⟩
def Mk:Nat->Nat
 | 0=>2^63
 | 1=>5*2^63
 | _=>4*(5*2^63)
theorem Zn1(h:c.length<=6):¬25<(tzl c).length:=by have:=Hj c;omega
def Lw(z:R2):Prop:=0<z.2/\Int.gcd z.1 z.2=1
theorem Zpa(e:0<y):Mp x y=(Int.gcd x y:Int):=by unfold Mp;rw [aD O]
theorem Yfh (x:Int)(e:0<y):Lw (x/Mp x y,y/Mp x y):=by have f:0<Int.gcd x y:=Int.gcd_pos_of_ne_zero_right _ O;rw [Zpa e];refine⟨Int.ediv_pos_of_pos_of_dvd e O (gD ..),?_⟩;exact Int.gcd_ediv_gcd_ediv_gcd f
theorem Zo4(e:0<a.2)(h:¬La a.1 a.2):Lw (slow a):=by obtain⟨f,g,-⟩:=Zan h;have:=Yfh a.1 e;unfold slow;rw [f,g];exact this
theorem Yfg(h:Zed a b)(e:0<a.2)(f:0<b.2):Lw (Pj a b):=by obtain⟨j,l,-⟩:=Zan h.2;have g:0<Ip (a.1*b.2+b.1*a.2) (a.2*b.2)*2:=gK (Zo0 h.1 (gK e f)) O3;have:=Yfh (Ho (a.1*b.2+b.1*a.2) (a.2*b.2)*1) g;unfold Pj;rw [j,l];exact this
structure Hv (n Q j:Nat) (W:Rat) (a b:R2):Prop where
 hQ:0<Q
 hQ2:Q<2^(2*n)
 ea:En (2^n) Q j a
 eb:En (2^n) Q j b
 wd:(qv b-qv a)*((2^j:Nat):Rat)=W
 le:qv a<=qv b
 la:Lw a
 lb:Lw b
theorem Hv.start{n:Nat}(j:0<a.2)(l:0<b.2)(u:bl a.1.natAbs<=n)(G:bl a.2.natAbs<=n)(w:bl b.1.natAbs<=n)(H:bl b.2.natAbs<=n)(B:n<=65536)(s:qv a<=qv b):∃Q,Hv n Q 0 (qv b-qv a) (slow a) (slow b):=by
 obtain⟨W,Y,s3,Z,f⟩:=Zca _ j u G B;obtain⟨t1,t2,t3,t4,t5⟩:=Zca _ l w H B;have S:=(Qt n _).1 Z;have V:=(Qt n _).1 t4;have D:=Zol j (eU ((Qt n _).1 u));have F:=Zol l (eU ((Qt n _).1 w));have g:0<(slow a).2.natAbs*(slow b).2.natAbs:=fY O O;have h:(slow a).2.natAbs*(slow b).2.natAbs<2^(2*n):=by rw [show 2*n=n+n by omega,bN];exact jE S (eU V) (bW O3)
 generalize R:(slow a).2.natAbs*(slow b).2.natAbs=Q at *;have e:((Q*2^0:Nat):Int)=(slow a).2*(slow b).2:=by rw [gW,jV,<-R];push_cast;rw [kQ O,kQ O]
 have I:En (2^n) Q 0 (slow a):=⟨Y,by rw [e];exact iZ _ _,by rw [f];exact D.1,by rw [f];exact D.2⟩;have P:En (2^n) Q 0 (slow b):=⟨t2,by rw [e];exact Int.dvd_mul_left _ _,by rw [t5];exact F.1,by rw [t5];exact F.2⟩;exact⟨Q,g,h,I,P,by rw [f,t5,gW];push_cast;grind,by rw [f,t5];exact s,Zo4 j W,Zo4 l t1⟩
theorem Hv.mid{n Q j B:Nat}{W:Rat}(h:Hv n Q j W a b)(Z:3*n+2+j<=B)(l:B<=65536) :
  Zed a b/\(bl (Pj a b).1.natAbs<=B/\bl (Pj a b).2.natAbs<=B/\0<(Pj a b).2)/\qv (Pj a b)=(qv a+qv b)/2/\(bl a.1.natAbs<=B/\bl a.2.natAbs<=B/\0<a.2)/\(bl b.1.natAbs<=B/\bl b.2.natAbs<=B/\0<b.2)/\
  Hv n Q (j+1) W a (Pj a b)/\Hv n Q (j+1) W (Pj a b) b:=by
 have e:∀m,m<=B->2^m<=2^B:=λm h=>dK O3 h;have g:Q*2^(j+1)<2^B:=by have:Q*2^(j+1)<2^(2*n)*2^(j+1):=eJ h.hQ2 (bW O3);rw [<-bN]at this;exact cY this (e _ O)
 have s:2*2^n*(Q*2^j)<2^B:=by
  have H:Q*2^j<2^(2*n)*2^j:=eJ h.hQ2 (bW O3);have D:2*2^n*(Q*2^j)<2*2^n*(2^(2*n)*2^j):=jF H (fY O3 (bW O3));have I:2*2^n*(2^(2*n)*2^j)=2^(3*n+1+j):=by rw [<-bN,<-nI,<-bN];congr 1;omega
  rw [I]at D;exact cY D (e _ O)
 obtain⟨G,u,w,R,S⟩:=mid_en h.ea h.eb h.hQ g s l;obtain⟨V,Y⟩:=Yg8 j 0 B h.ea h.hQ h.hQ2 O;obtain⟨r1,r2⟩:=Yg8 j 0 B h.eb h.hQ h.hQ2 O;have f:=Yfg G h.ea.pos h.eb.pos;have F:((2^(j+1):Nat):Rat)=2*((2^j:Nat):Rat):=by rw [cJ];push_cast;grind
 have P:=h.le;refine⟨G,⟨R,S,u.pos⟩,w,⟨V,Y,h.ea.pos⟩,⟨r1,r2,h.eb.pos⟩,⟨h.hQ,h.hQ2,h.ea.up,u,?_,O4,h.la,f⟩,⟨h.hQ,h.hQ2,u,h.eb.up,?_,O4,f,h.lb⟩⟩
 .rw [w,F,<-h.wd];grind
 .rw [w,F,<-h.wd];grind
def Yai{n:Nat}(h:Sz k p)(e:k<=n)(i:Nat):(cf p i).natAbs<=2^n:=aB (Zgw h i) (dK O3 e)
theorem Ykf(h:Cvd xs)(j:xs≠[]):Ah 13 xs/\∀u v:Rat,-((2^34:Nat):Rat)<=u->u<=v->v<=((2^34:Nat):Rat)->v-u<=1/((2^5000:Nat):Rat)->vch 13 xs u-vch 13 xs v<=1:=by
 have G:=h.l;obtain⟨l,e,D,F⟩:=chG 13 h.v.tr j h.s O O O;have g:=Zaq e O;have f:∀n,n<=11->2<=n->Zxk (2^34) (2^225) n 5000=true:=O7;obtain⟨n,s⟩:∃n:Nat,n=225:=⟨_,rfl⟩;rw [<-s]at f;have g:Sz n (Xb (sqf 13 xs)):=by rw [s];exact g
 have B:∀i,(cf (sqf 13 xs) i).natAbs<=2^n:=λi=>Yai e O i;exact⟨l,λu v=>sep_of h.v.tr j l (bW O3) (A:=2^n) (bW O3) B (λi=>Zgw g i) (λw=>f _ O w) u v⟩
theorem Ya0{j e w:Nat}{x W:Rat}(D:1/((2^(e+1):Nat):Rat)<x)(F:x*((2^j:Nat):Rat)=W)(G:W<=((2^w:Nat):Rat)):j<e+1+w:=by
 have g:=two_pow_pos (e+1);have h:=two_pow_pos j;rcases aX j (e+1+w)with q|q
 .exact q
 .exfalso;have hi:0<((2^(e+1):Nat):Rat)⁻¹:=gC.2 g;have f:((2^(e+1):Nat):Rat)*((2^(e+1):Nat):Rat)⁻¹=1:=lK _ O4;have l:((2^(e+1):Nat):Rat)*((2^w:Nat):Rat)<=((2^j:Nat):Rat):=by
   have:2^(e+1)*2^w<=2^j:=by rw [<-bN];exact dK O3 q
   exact_mod_cast this
  have n:((2^(e+1):Nat):Rat)⁻¹<x:=O4;have s:=bB (show 0<x-((2^(e+1):Nat):Rat)⁻¹ by grind) h;have u:=aM (dG hi) (show 0<=((2^j:Nat):Rat)-((2^(e+1):Nat):Rat)*((2^w:Nat):Rat) by grind);have B:((2^(e+1):Nat):Rat)⁻¹*(((2^(e+1):Nat):Rat)*((2^w:Nat):Rat))=((2^w:Nat):Rat):=by rw [<-kK,kF (((2^(e+1):Nat):Rat)⁻¹),f,oM]
  grind
structure NIn (xs:List Int) (s t:Rat) (j:Nat) (a b:R2):Prop where
 ex:∃Q W,Hv 34 Q j W a b/\W<=((2^34:Nat):Rat)
 lo:s<=qv a
 hi:qv b<=t
 l0:-((2^33:Nat):Rat)<=s
 h0:t<=((2^33:Nat):Rat)
 pa:0<=Zb xs (qv a)
 pb:0<=Zb xs (qv b)
 ng:Yca xs (qv a) (qv b)
theorem rat34:((2^34:Nat):Rat)=2*((2^33:Nat):Rat)/\(1:Rat)<=((2^33:Nat):Rat):=by
 have h:∀n:Nat,((2^(n+1):Nat):Rat)=2*((2^n:Nat):Rat):=λn=>by rw [cJ];push_cast;grind
 constructor
 .exact h 33
 .exact_mod_cast (show 1<=2^33 by decide)
theorem NIn.j{hi:Rat}{j:Nat}(g:Cvd xs)(f:xs≠[])(h:NIn xs lo hi j a b):j<5035:=by obtain⟨Q,W,l,n⟩:=h.ex;obtain⟨u,hs⟩:=Ykf g f;obtain⟨H,I⟩:=rat34;have B:=h.lo;have D:=h.hi;have F:=h.l0;have G:=h.h0;have:=Ylf (Zfv g f).1 u (K:=2^34) (e:=5000) hs (s:=qv a) (t:=qv b) O4 O4 h.pa h.pb h.ng;exact Ya0 (e:=5000) (w:=34) this l.wd n
theorem NIn.start(e:0<a.2)(f:0<b.2)(j:bl a.1.natAbs<=32)(G:bl a.2.natAbs<=32)(l:bl b.1.natAbs<=32)(H:bl b.2.natAbs<=32)(g:qv a<=qv b)(w:0<=Zb xs (qv a))(B:0<=Zb xs (qv b))(u:Yca xs (qv a) (qv b)) :
  NIn xs (qv a) (qv b) 0 (slow a) (slow b):=by
 obtain⟨Q,s⟩:=Hv.start (n:=34) e f O O O O O g;obtain⟨-,-,-,-,h⟩:=Zca 34 e O O O;obtain⟨-,-,-,-,t5⟩:=Zca 34 f O O O;have D:=Zol (K:=2^33) e (aB (eU ((Qt 32 _).1 j)) O3);have F:=Zol (K:=2^33) f (aB (eU ((Qt 32 _).1 l)) O3);obtain⟨I,P⟩:=rat34;exact⟨⟨Q,_,s,O4⟩,by rw [h];exact iL,by rw [t5];exact iL,D.1,F.2,by rw [h];exact w,by rw [t5];exact B,by rw [h,t5];exact u⟩
structure Fnd (xs:List Int) (s t:Rat) (m:R2):Prop where
 ng:Zb xs (qv m)<0
 lo:s<=qv m
 hi:qv m<=t
 b1:bl m.1.natAbs<=5200
 b2:bl m.2.natAbs<=5200
 lw:Lw m
theorem NIn.round{hi:Rat}{j:Nat}(G:Cvd xs)(S:xs≠[])(h:NIn xs lo hi j a b) :
  Zed a b/\(bl (Pj a b).1.natAbs<=5200/\bl (Pj a b).2.natAbs<=5200/\0<(Pj a b).2)/\(bl a.1.natAbs<=5200/\bl a.2.natAbs<=5200/\0<a.2)/\(bl b.1.natAbs<=5200/\bl b.2.natAbs<=5200/\0<b.2)/\
  (vlu (Nb xs) (Pj a b)<0->Fnd xs lo hi (Pj a b))/\(¬vlu (Nb xs) (Pj a b)<0->ngb (Nb xs) (chx xs) a (Pj a b)=true->NIn xs lo hi (j+1) a (Pj a b))/\
  (¬vlu (Nb xs) (Pj a b)<0->ngb (Nb xs) (chx xs) a (Pj a b)=false->NIn xs lo hi (j+1) (Pj a b) b):=by
 have hj:=h.j G S;obtain⟨Q,W,D,F⟩:=h.ex;obtain⟨I,s,m3,w,P,m6,m7⟩:=D.mid (B:=5200) O O;have V:=D.le;have Y:=h.lo;have Z:=h.hi;have H:=Zjj (xs:=xs) s.2.2;have n:¬vlu (Nb xs) (Pj a b)<0->0<=Zb xs (qv (Pj a b)):=λe=>by
  rw [H]at e;rcases Pf (Zb xs (qv (Pj a b)))with⟨f,g⟩|⟨f,g⟩|⟨f,g⟩
  .exact dG f
  .rw [g]at e;exact absurd O3 e
  .rw [f];exact iL
 have l:=Zya G w.2.2 s.2.2 (show qv a<=qv (Pj a b) by grind);refine⟨I,s,w,P,λe=>?_,λe u=>?_,λe u=>?_⟩
 .have:Zb xs (qv (Pj a b))<0:=by
   rw [H]at e;rcases Pf (Zb xs (qv (Pj a b)))with⟨f,g⟩|⟨f,g⟩|⟨f,g⟩
   .rw [g]at e;exact absurd e O3
   .exact f
   .rw [g]at e;exact absurd e O3
  exact⟨this,O4,O4,s.1,s.2.1,Yfg I w.2.2 P.2.2⟩
 .exact⟨⟨Q,W,m6,F⟩,Y,O4,h.l0,h.h0,h.pa,n e,l.1 u⟩
 .refine⟨⟨Q,W,m7,F⟩,O4,Z,h.l0,h.h0,n e,h.pb,?_⟩;obtain⟨x,x1,x2,R⟩:=h.ng;rcases(show x<=qv (Pj a b)\/qv (Pj a b)<=x by grind)with q|q
  .have:=l.2 ⟨x,x1,q,R⟩;rw [u]at this;exact absurd this O3
  .exact⟨x,q,x2,R⟩
def frs(xs:List Int):Nat->R2->R2->R2×R2
 | 0,a,b=>(a,b)
 | n+1,a,b=>if ngb (Nb xs) (chx xs) a (Pj a b)then frs xs n a (Pj a b)else frs xs n (Pj a b) b
structure E32 (a:R2):Prop where
 p:0<a.2
 b1:bl a.1.natAbs<=32
 b2:bl a.2.natAbs<=32
theorem E32.slow(h:E32 a):E32 (slow a)/\qv (Go.Sky.slow a)=qv a/\Lw (Go.Sky.slow a)/\¬La a.1 a.2:=by obtain⟨e,f,g,j,l⟩:=Zca 32 h.p h.b1 h.b2 O;exact⟨⟨f,g,j⟩,l,Zo4 h.p e,e⟩
theorem Zij(g:0<m.2):vlu (Nb xs) m<0↔Zb xs (qv m)<0:=by
 rw [Zjj g];rcases Pf (Zb xs (qv m))with⟨f,e⟩|⟨f,e⟩|⟨f,e⟩
 .rw [e];constructor
  .intro h;exact absurd h O3
  .intro h;grind
 .rw [e];exact⟨λ_=>f,λ_=>O3⟩
 .rw [e,f];constructor
  .intro h;exact absurd h O3
  .intro h;grind
theorem end_l(l:E32 a)(e:qv a<=qv b)(h:vlu (Nb xs) (slow a)<0):Fnd xs (qv a) (qv b) (slow a):=by obtain⟨f,g,n,s⟩:=l.slow;have j:=(Zij f.p).1 h;exact⟨j,by rw [g];exact iL,by rw [g];exact e,aB f.b1 O3,aB f.b2 O3,n⟩
theorem end_r(l:E32 b)(e:qv a<=qv b)(h:vlu (Nb xs) (slow b)<0):Fnd xs (qv a) (qv b) (slow b):=by obtain⟨f,g,n,s⟩:=l.slow;have j:=(Zij f.p).1 h;exact⟨j,by rw [g];exact e,by rw [g];exact iL,aB f.b1 O3,aB f.b2 O3,n⟩
theorem Ya4(n:Cvd xs)(f:E32 a)(g:E32 b)(h:qv a<=qv b)(j:¬vlu (Nb xs) (slow a)<0)(l:¬vlu (Nb xs) (slow b)<0)(s:ngb (Nb xs) (chx xs) a b=true) :
  NIn xs (qv a) (qv b) 0 (slow a) (slow b):=by
 obtain⟨B,D,F,G⟩:=f.slow;obtain⟨t1,t2,t3,t4⟩:=g.slow;have u:¬Zb xs (qv (slow a))<0:=λe=>j ((Zij B.p).2 e);have w:¬Zb xs (qv (slow b))<0:=λe=>l ((Zij t1.p).2 e);rw [D]at u;rw [t2]at w;exact NIn.start f.p g.p f.b1 f.b2 g.b1 g.b2 h O4 O4 ((Zya n f.p g.p h).1 s)
theorem ngb_ne(h:ngb (Nb xs) (chx xs) a b=true):xs≠[]:=λe=>by
 subst e;unfold ngb at h;split at h
 .exact absurd h (by show ¬decide ((0:Int)<0)=true;decide)
 .exact absurd h (by show ¬(decide ((0:Int)<0) || false)=true;decide)
theorem E32.efit(h:E32 a):efit a=true:=by have:=h.b1;have:=h.b2;unfold Go.Sky.efit;exact aI O
structure FIn (xs:List Int) (j:Nat) (a b:R2):Prop where
 ex:∃Q W,Hv 34 Q j W a b
 bj:j<=200
theorem FIn.start(e:E32 a)(f:E32 b)(g:qv a<=qv b):FIn xs 0 (slow a) (slow b):=by obtain⟨Q,h⟩:=Hv.start (n:=34) e.p f.p (aB e.b1 O3) (aB e.b2 O3) (aB f.b1 O3) (aB f.b2 O3) O g;exact⟨⟨Q,_,h⟩,O⟩
theorem FIn.round{j:Nat}(h:FIn xs j a b) :
  Zed a b/\(bl (Pj a b).1.natAbs<=5200/\bl (Pj a b).2.natAbs<=5200/\0<(Pj a b).2)/\(bl a.1.natAbs<=5200/\bl a.2.natAbs<=5200/\0<a.2)/\(bl b.1.natAbs<=5200/\bl b.2.natAbs<=5200/\0<b.2)/\
  (j<200->FIn xs (j+1) a (Pj a b)/\FIn xs (j+1) (Pj a b) b):=by
 obtain⟨Q,W,e⟩:=h.ex;have D:=h.bj;obtain⟨g,l,F,n,s,u,w⟩:=e.mid (B:=5200) O O;exact⟨g,l,n,s,λf=>⟨⟨⟨Q,W,u⟩,O⟩,⟨⟨Q,W,w⟩,O⟩⟩⟩
theorem Yle(g:E32 a)(j:E32 b)(f:qv a<=qv b)(hi:i<2)(h:vlu (Nb xs) ([slow a,slow b].getD i (0,0))<0):Fnd xs (qv a) (qv b) ([slow a,slow b].getD i (0,0)):=by
 rcases(show i=0\/i=1 by omega)with e|e
 .subst e;exact end_l g f h
 .subst e;exact end_r j f h
theorem Ymq(f:E32 a)(g:E32 b)(i:Nat)(hi:i<2):E32 ([slow a,slow b].getD i (0,0)):=by
 rcases(show i=0\/i=1 by omega)with e|e
 .subst e;exact f.slow.1
 .subst e;exact g.slow.1
def Ym7(e:E32 a)(f:E32 b)(h:¬0<cmp a b):qv a<=qv b:=(Ym6 e.p f.p).1 O
def Zh7:E32 (0,1):=⟨O3,O3,O3⟩
def Zh6:E32 (1,1):=⟨O3,O3,O3⟩
def Zh9:¬0<cmp (0,1) (1,1):=O7
def Zd4(xs:List Int):Bool:=ngb (Nb xs) (chx xs) (0,1) (1,1)
def slS(d:List Int):Nat->Int
 | 0=>0
 | k+1=>slS d k+Ap [d.getD k 0,(k:Int)+1]
def fsS(d:List Int)(k:Nat):Int:=if k=0 then 0 else d.getD 0 0
def qr(a b:Int):R2:=(Ho a b,Ip a b)
def bgS(c:List Int):Int:=fsS (c.drop 1) (c.drop 1).length
def enS(c:List Int):Int:=slS (c.drop 1) (c.drop 1).length
def bS(ov T:Int)(x y z:List Int):Nat->List R2
 | 0=>List.replicate 3 (0,0)
 | i+1=>(bS ov T x y z i).set i (qr (bgS (Ye i x y z)) (Ap [ov,T]))
def eS(ov T:Int)(x y z:List Int):Nat->List R2
 | 0=>List.replicate 3 (0,0)
 | i+1=>(eS ov T x y z i).set i (qr (enS (Ye i x y z)) (Ap [ov,T]))
def joinB(fr h ov:Int)(x y z:List Int)(e g f:Int)(j l n:List Int):Bool:=
 decide (qr (bgS j) (Ap [f,g-e])=qr (enS x) (Ap [ov,h-fr])/\qr (bgS l) (Ap [f,g-e])=qr (enS y) (Ap [ov,h-fr])/\qr (bgS n) (Ap [f,g-e])=qr (enS z) (Ap [ov,h-fr]))
def plT(c:List Int)(a d:Int)(k:Nat):Int:=c.getD k 0*(a^k*d^(5-(k:Int)).toNat)
def plS(c:List Int)(a d:Int):Nat->Int
 | 0=>0
 | k+1=>plS c a d k+plT c a d k
def pl(c:List Int)(a d:Int):Int:=plS c a d c.length
def atS(a d:Int)(x y z:List Int):Nat->List Int
 | 0=>List.replicate 3 0
 | i+1=>(atS a d x y z i).set i (pl (Ye i x y z) a d)
def gS(ov a d:Int)(x y z:List Int):Nat->Int
 | 0=>ov*d^5
 | i+1=>(Int.gcd (gS ov a d x y z i) (pl (Ye i x y z) a d):Int)
abbrev plV (p q r o:Int):Value:= .agg #[.bool (decide (p<0)),.string (Xn p.natAbs),.bool (decide (q<0)),.string (Xn q.natAbs),.bool (decide (r<0)),.string (Xn r.natAbs),.bool (decide (o<0)),.string (Xn o.natAbs)]
theorem Cu(a d:Int)(x y z:List Int):∀i,(atS a d x y z i).length=3
 | 0=>rfl
 | i+1=>by show(List.set _ _ _).length=3;rw [bX];exact Cu a d x y z i
theorem Yir(a d:Int)(x y z:List Int)(h:i<3):atS a d x y z i=(atS a d x y z i).set i 0:=by
 match i,h with
 | 0,_=>rfl
 | 1,_=>rfl
 | 2,_=>rfl
theorem Zrn{l:List Int}{v:Int}(h:i<l.length):(l.set i v).getD i 0=v:=by rw [aE,List.getElem?_set_self h];rfl
theorem Zxw(h:∀x∈c,Mr x){a:Int}(j:0<=a/\a<=3600000)(l:1<=d/\d<=3600000)(n:k<=5):(a^k*d^(5-(k:Int)).toNat).natAbs<=3600000^5/\(plT c a d k).natAbs<=9223372036854775808*3600000^5:=by
 have e:(a^k*d^(5-(k:Int)).toNat).natAbs<=3600000^5:=by rw [cH,lL,lL];refine aB (aY (gG (show a.natAbs<=3600000 by omega) k) (gG (show d.natAbs<=3600000 by omega) _)) ?_;rw [<-bN,show k+(5-(k:Int)).toNat=5 by omega];exact aJ _
 obtain⟨f,g⟩:=Gy h k;refine⟨e,?_⟩;unfold plT;rw [cH];exact aY O e
theorem Zxy{c:List Int}(h:∀x∈c,Mr x){a d:Int}(e:0<=a/\a<=3600000)(f:1<=d/\d<=3600000):∀k,k<=6->(plS c a d k).natAbs<=k*(9223372036854775808*3600000^5)
 | 0,_=>by show(0:Int).natAbs<=_;decide
 | k+1,g=>by have j:=Zxy h e f k O;have:=(Zxw h e f (k:=k) O).2;show(plS c a d k+plT c a d k).natAbs<=_;rw [eN];omega
def Zhn(h:∀x∈c,Mr x){a:Int}(f:0<=a/\a<=3600000)(g:1<=d/\d<=3600000)(e:k<=6):bl (plS c a d k).natAbs<=180:=
 (Qt 180 _).2 (bC (Zxy h f g k e) (bC (aP _ e) O3))
theorem Yib(h:∀x∈c,Mr x){a:Int}(g:0<=a/\a<=3600000)(j:1<=d/\d<=3600000)(l:k<=5):bl (a^k*d^(5-(k:Int)).toNat).natAbs<=180/\bl (plT c a d k).natAbs<=180:=by obtain⟨e,f⟩:=Zxw h g j l;exact⟨(Qt 180 _).2 (bC e O3),(Qt 180 _).2 (bC f O3)⟩
theorem Zwl (a:Int)(f:0<=a/\a<=3600000)(e:k<=5):bl (a^k).natAbs<=180:=by refine(Qt 180 _).2 ?_;rw [lL];exact bC (aB (gG (show a.natAbs<=3600000 by omega) k) (dK O3 e)) O3
theorem Zyu{fr l ov:Int}{x y z:List Int}(h:Sgo fr l ov x y z){a d:Int}(e:0<=a/\a<=3600000)(f:1<=d/\d<=3600000):∀i,0<gS ov a d x y z i/\bl (gS ov a d x y z i).natAbs<=180
 | 0=>by have g:=h.o1;have j:=h.o2;refine⟨gK O (jU O),(Qt 180 _).2 ?_⟩;show(ov*d^5).natAbs<_;rw [cH,lL];exact bC (aY (show ov.natAbs<=4294967296 by omega) (gG (show d.natAbs<=3600000 by omega) 5)) O3
 | i+1=>by obtain⟨g,j⟩:=Zyu h e f i;have n:0<Int.gcd (gS ov a d x y z i) (pl (Ye i x y z) a d):=Int.gcd_pos_of_ne_zero_left _ O;have s:=Zqj (gS ov a d x y z i) (pl (Ye i x y z) a d);have u:bl (pl (Ye i x y z) a d).natAbs<=180:=Zhn (h.hc i) e f (h.lc i).2;show 0<((Int.gcd _ _:Nat):Int)/\bl ((Int.gcd _ _:Nat):Int).natAbs<=180;exact⟨O,O⟩
def sameP(ov a d:Int)(x y z:List Int)(e g f:Int)(h j l:List Int):Bool:=
 decide (pl x a d/gS ov a d x y z 3=pl h g f/gS e g f h j l 3/\pl y a d/gS ov a d x y z 3=pl j g f/gS e g f h j l 3/\pl z a d/gS ov a d x y z 3=pl l g f/gS e g f h j l 3/\ov*d^5/gS ov a d x y z 3=e*f^5/gS e g f h j l 3)
def Zkv(g ov:Int)(x y z:List Int)(e f:Int)(h j l:List Int):Bool:=decide (g=e) && sameP ov 1 1 x y z f 0 1 h j l
structure Gin (g:Ze):Prop where
 f:Mr g.1.1
 t:Mr g.1.2.1
 o:Mr g.1.2.2
 x:∀a∈g.2.1.2,Mr a
 y:∀a∈g.2.2.1.2,Mr a
 z:∀a∈g.2.2.2.2,Mr a
def seB(g:Ze):Bool:=Zak g.1.1 g.1.2.1 g.1.2.2 g.2.1.2 g.2.2.1.2 g.2.2.2.2
def meG(g h:Ze):Bool:=Zkv g.1.2.1 g.1.2.2 g.2.1.2 g.2.2.1.2 g.2.2.2.2 h.1.1 h.1.2.2 h.2.1.2 h.2.2.1.2 h.2.2.2.2
abbrev SgG (g:Ze):Prop:=Sgo g.1.1 g.1.2.1 g.1.2.2 g.2.1.2 g.2.2.1.2 g.2.2.2.2
def Iz{g:Ze}(h:Gin g)(e:seB g=true):SgG g:=Sgo.of h.x h.y h.z e
def Zd3(ps:List Ze)(i:Nat):Bool:=seB (ps.getD i G0) && (decide (i=0) || meG (ps.getD (i-1) G0) (ps.getD i G0))
def Xt(ps:List Ze):Bool:=(List.range ps.length).all (Zd3 ps) && decide (1<=ps.length) && decide (ps.length<=256)
theorem Cr{ps:List Ze}(h:Zd3 ps i=true):seB (ps.getD i G0)=true:=by unfold Zd3 at h;rw [aQ]at h;exact h.1
theorem okAt_s{ps:List Ze}(h:seB (ps.getD i G0)=false):Zd3 ps i=false:=by unfold Zd3;rw [h];rfl
theorem Zvd{ps:List Ze}(h:seB (ps.getD i G0)=true)(e:i=0):Zd3 ps i=true:=by unfold Zd3;rw [h,aI e];rfl
theorem Zki{ps:List Ze}(h:seB (ps.getD i G0)=true)(e:0<i):Zd3 ps i=meG (ps.getD (i-1) G0) (ps.getD i G0):=by unfold Zd3;rw [h,aK O];rfl
theorem Zx2 (i:Nat){ps:List Ze}(hi:i<ps.length)(h:Zd3 ps i=false):Xt ps=false:=by
 unfold Xt;have:(List.range ps.length).all (Zd3 ps)=false:=by
  cases hb:(List.range ps.length).all (Zd3 ps)with
  | false=>rfl
  | true=>have:=bF.1 hb i (dA.2 hi);rw [h]at this;cases this
 rw [this];rfl
theorem Zot{ps:List Ze}(h:∀i,i<ps.length->Zd3 ps i=true):Xt ps=decide (1<=ps.length/\ps.length<=256):=by unfold Xt;rw [bF.2 λi hi=>h i (dA.1 hi)];simp
theorem Yat(g:Ze)(i:Nat):seB g=false\/(seB g=true/\i=0)\/(seB g=true/\0<i):=by
 cases seB g
 .exact .inl rfl
 .exact .inr (by rcases aV i with h|h;exact .inl ⟨rfl,h⟩;exact .inr ⟨rfl,h⟩)
theorem Oh{ps:List Ze}(h:Xt ps=true):(∀i,i<ps.length->Zd3 ps i=true)/\1<=ps.length/\ps.length<=256:=by unfold Xt at h;simp only [aQ,cZ]at h;exact⟨λi hi=>bF.1 h.1.1 i (dA.2 hi),h.1.2,h.2⟩
open Go.ChangeShapes Go.WideShapes Go.ChangeAt Go.RowKit Go.Joins Go.Deep
open Go.Proofs
variable {P:Program} {W:World} {H:Type} {enc:TypeId×Value->H}
theorem Zcp{n:Int}(h:(Lit.int .i64 n).wf=true):Mr n:=by simp [Lit.wf,IntKind.has,IntKind.min,IntKind.max,IntKind.bits,IntKind.signed]at h;exact⟨O,O⟩
theorem Yes {t:TypeId} {f0 f1:Field}  {d:DataW H} {p:List MemPlace} (u:P.underlying t=some (.struct #[f0,f1])) (G:P.cellsOf t=2) (V:f0.offset=0) (Y:f1.offset=1) (D:P.underlying f0.type=some (.int .i64)) (F:P.underlying f1.type=some (.int .i64))
  (f:P.cellsOf f0.type=1) (g:P.cellsOf f1.type=1) {r:Reach}  (Q:Value.okWide P W r b0 t v) (h:DataW.Trod enc P W 0 (λ_=>true) true t v d p):∃a b:Int,v= .agg #[.int .i64 a,.int .i64 b]/\Mr a/\Mr b:=by
 obtain⟨cs,rfl,e⟩:=okWide_struct u Q;obtain⟨fuel,I⟩:=h;obtain⟨y0,y1,n,hx,hl,j,s⟩:=trod_struct2 u I;rw [V,f]at j;rw [Y,g]at s;obtain⟨R,w,Z⟩:=DataW.trod_int D j;obtain⟨S,B,w1⟩:=DataW.trod_int F s;rw [G]at e;obtain⟨l⟩:=cs;have e:l.length=2:=by simpa using e
 match l,e with
 | [c0,c1],_=>
 simp [Value.cells]at w B;subst w;subst B;exact⟨R,S,rfl,Zcp Z.2,Zcp w1.2⟩
theorem Yb2{w:World}{a:Addr}(h:w.cell? a=some v):a.spot=none/\a.block<w.heap.size:=by
 unfold World.cell? at h;split at h
 .rename_i c t f e;refine⟨?_,(aO.1 e).1⟩;cases hs:a.spot with
  | none=>rfl
  | some x=>rw [hs]at h;simp at h
 .cases h
theorem Zg8{t e:TypeId}{c:Value}{x:DataW H×List MemPlace}(hs:P.underlying t=some (.slice e))(he:P.underlying e=some (.int .i64))(hc:P.cellsOf e=1)(h:DataW.trod enc P W 0 (λ_=>true) true fuel t [c]=some x) :
  ∃(s:SL) (l:List Int),c=Xo s/\(Ys 1 Xf (Xo s) l).holds W/\∀a∈l,Mr a:=by
 rcases open_ints hs he hc h with⟨F,_⟩|⟨a,f,n,zs,F,_,hl,hm,hz,_,w,a1⟩
 .cases F;exact⟨(none,0,0),[],rfl,Bd 1 Xf W,λx S=>by cases S⟩
 .cases F;have a2:zs.length=n:=by simpa using hz
  have G:(zs.take f).length=f:=by rw [aS];omega
  by_cases hn:f=0
  .subst hn;exact⟨(some a,0,n),[],rfl,⟨⟨some a,n,rfl,hl,hm,.inl rfl⟩,λb V=>absurd rfl V.1⟩,λx S=>by cases S⟩
  .have c0:=w 0 O;obtain⟨g,B,D⟩:=a;rw [show(⟨g,B,D⟩:Addr).add 0=⟨g,B,D⟩from rfl]at c0;obtain⟨R,Q⟩:=Yb2 c0;simp only at R Q;subst R;refine⟨(some ⟨g,B,none⟩,f,n),zs.take f,rfl,⟨⟨some ⟨g,B,none⟩,n,by rw [G],by rw [G];exact hl,hm,.inr ⟨g,B,rfl,λi x hi j u Z=>?_⟩⟩,λb V=>by cases V.2;exact Q⟩,λx S=>?_⟩
   .have Y:i<f:=by
     rcases aX i f with h|h
     .exact h
     .rw [bQ (by rw [G];exact h)]at hi;cases hi
    have a0:j=0:=by
     rcases j with _|j
     .rfl
     .simp [Value.cells]at Z
    subst a0;have I:=w i O;rw [Pw]at I;rw [mA Y]at hi;rw [aE,hi]at I;simp [Value.cells]at Z;subst Z;simpa using I
   .have I:=a1 x (fP S);have h3:=bounds_i64 I;exact⟨O,O⟩
theorem Yas {t e:TypeId} {f0 f1 f2 f3 f4 f5:Field} {cs:List Value}  {x:DataW H×List MemPlace} (ht:P.underlying t=some (.struct #[f0,f1,f2,f3,f4,f5]))
  (h0:f0.type=ti) (h1:f1.type=ti) (h2:f2.type=ti) (h3:f3.type=ts) (h4:f4.type=ts) (h5:f5.type=ts) (o0:f0.offset=0) (o1:f1.offset=1) (o2:f2.offset=2) (o3:f3.offset=3) (o4:f4.offset=4) (o5:f5.offset=5)
  (hi:P.underlying ti=some (.int .i64)) (hs:P.underlying ts=some (.slice e)) (B:P.underlying e=some (.int .i64)) (w:P.cellsOf e=1) (j:P.cellsOf ti=1) (l:P.cellsOf ts=1) (hC:P.cellsOf t=6)
  (h:DataW.trod enc P W 0 (λ_=>true) true fuel t cs=some x):∃g:Ze,cs=[.int .i64 g.1.1,.int .i64 g.1.2.1,.int .i64 g.1.2.2,Xo g.2.1.1,Xo g.2.2.1.1,Xo g.2.2.2.1]/\(qG g).holds W/\Gin g:=by
 obtain⟨xs,n,_,hx,hl,s,f⟩:=DataW.trod_struct ht h;rw [hC]at hl
 match cs,hl with
 | [c0,c1,c2,c3,c4,c5],_=>
 match xs,s with
 | [y0,y1,y2,y3,y4,y5],_=>
 have S:=f 0 f0 rfl;have V:=f 1 f1 rfl;have Y:=f 2 f2 rfl;have Z:=f 3 f3 rfl;have e4:=f 4 f4 rfl;have e5:=f 5 f5 rfl;rw [h0,o0,j]at S;rw [h1,o1,j]at V;rw [h2,o2,j]at Y;rw [h3,o3,l]at Z;rw [h4,o4,l]at e4;rw [h5,o5,l]at e5;obtain⟨m0,q0,w0⟩:=DataW.trod_int hi S;obtain⟨m1,q1,w1⟩:=DataW.trod_int hi V;obtain⟨m2,q2,w2⟩:=DataW.trod_int hi Y;obtain⟨sx,x,rfl,D,F⟩:=Zg8 (enc:=enc) hs B w (c:=c3) (x:=y3) Z;obtain⟨sy,y,rfl,G,I⟩:=Zg8 (enc:=enc) hs B w (c:=c4) (x:=y4) e4;obtain⟨sz,z,rfl,Q,R⟩:=Zg8 (enc:=enc) hs B w (c:=c5) (x:=y5) e5;simp at q0 q1 q2;subst q0;subst q1;subst q2;exact⟨((m0,m1,m2),(sx,x),(sy,y),(sz,z)),rfl,λu hu=>by
  simp only [aZ,dJ,gF]at hu;rcases hu with rfl|rfl|rfl
  .exact D
  .exact G
  .exact Q,⟨Zcp w0.2,Zcp w1.2,Zcp w2.2,F,I,R⟩⟩
theorem Ya2 {t0 t e:TypeId} {f0 f1 f2 f3 f4 f5:Field}  {d:DataW H} {p:List MemPlace} (l:P.underlying t0=some (.slice t)) (ht:P.underlying t=some (.struct #[f0,f1,f2,f3,f4,f5]))
  (h0:f0.type=ti) (h1:f1.type=ti) (h2:f2.type=ti) (h3:f3.type=ts) (h4:f4.type=ts) (h5:f5.type=ts) (o0:f0.offset=0) (o1:f1.offset=1) (o2:f2.offset=2) (o3:f3.offset=3) (o4:f4.offset=4) (o5:f5.offset=5)
  (hi:P.underlying ti=some (.int .i64)) (hs:P.underlying ts=some (.slice e)) (he:P.underlying e=some (.int .i64)) (hc:P.cellsOf e=1) (S:P.cellsOf ti=1) (V:P.cellsOf ts=1) (hC:P.cellsOf t=6)
  {r:Reach}  (hv:Value.okWide P W r b0 t0 v) (h:DataW.Trod enc P W 0 (λ_=>true) true t0 v d p):∃ps:List Ze,(Qi 6 Pz qG v ps).holds W/\∀g∈ps,Gin g:=by
 obtain⟨a0,Q,a7,rfl⟩:=okWide_slice l hv;obtain⟨fuel,hf⟩:=h;rcases open_slice l hf with⟨F,_⟩|⟨a,a5,a4,m,n,D,Pl,F,_,hl,hm,B,hx,Y⟩
 .simp [Value.cells]at F;obtain⟨rfl,rfl,rfl⟩:=F;exact⟨[],⟨Bd 6 Pz W,λz hz=>by cases hz⟩,λg w=>by cases w⟩
 .simp [Value.cells]at F;obtain⟨rfl,rfl,rfl⟩:=F;simp at B;subst B
  haveI:Inhabited Ze:=⟨G0⟩
  obtain⟨xs,a2,I⟩:=Zia (p:=λi (g:Ze)=>W.cells? 0 (a.add (i*6)) 6=some [.int .i64 g.1.1,.int .i64 g.1.2.1,.int .i64 g.1.2.2,Xo g.2.1.1,Xo g.2.2.1.1,Xo g.2.2.2.1]/\(qG g).holds W/\Gin g) Q λi f=>by obtain⟨a8,k2,k3⟩:=Y i O;rw [hC]at k2;obtain⟨g,rfl,k4,k5⟩:=Yas ht h0 h1 h2 h3 h4 h5 o0 o1 o2 o3 o4 o5 hi hs he hc S V hC k3;exact⟨g,k2,k4,k5⟩
  have s:∀g∈xs,(qG g).holds W/\Gin g:=λg w=>by obtain⟨i,f,rfl⟩:=kW w;exact(I i _ (aL f)).2
  refine⟨xs,⟨⟨⟨some a,m,by rw [a2],O,hm,?_⟩,λb hb=>?_⟩,λg w=>(s g w).1⟩,λg w=>(s g w).2⟩
  .rcases aV Q with hz|hz
   .exact .inl (aG O)
   .right;obtain⟨g,a3,a6⟩:=a;obtain⟨G,_⟩:=Zkh l hv;simp only at G;subst G;refine⟨g,a3,rfl,λi x f j u Z=>?_⟩;obtain⟨_,_,R⟩:=World.cells?_some (I i x f).1;have a1:j<6:=by
     rcases aX j 6 with h|h
     .exact h
     .rw [bQ (by simp [Value.cells];omega)]at Z;cases Z
    have:=R j a1;simp only [Pw]at this;rw [this];simpa [Value.cells]using Z
  .cases hb.2;exact(Zkh l hv).2
end Go.Sky
namespace Go.Sky
open Go.ChangeShapes Go.WideShapes Go.ChangeAt Go.RowKit Go.Joins Go.Deep
open Go.Proofs
variable {P:Program} {W:World} {H:Type} {enc:TypeId×Value->H}
theorem Zvc {t ti:TypeId} {f0 f1 f2:Field} {v:Value} {d:DataW H} {p:List MemPlace} (q:P.underlying t=some (.struct #[f0,f1,f2])) (F:P.cellsOf t=3) (z:f0.type=ti) (B:f1.type=ti) (D:f2.type=ti) (R:f0.offset=0) (S:f1.offset=1) (V:f2.offset=2)
  (hi:P.underlying ti=some (.int .i64)) (f:P.cellsOf ti=1) {r:Reach} {x:Nat} (I:Value.okWide P W r x t v) (h:DataW.Trod enc P W 0 (λ_=>true) true t v d p):∃a b c:Int,v= .agg #[.int .i64 a,.int .i64 b,.int .i64 c]/\Mr a/\Mr b/\Mr c:=by
 obtain⟨y,rfl,e⟩:=okWide_struct q I;obtain⟨o,G⟩:=h;obtain⟨xs,n,_,hx,hl,i,g⟩:=DataW.trod_struct q G;rw [F]at e;obtain⟨l⟩:=y;have e:l.length=3:=by simpa using e
 match l,e with
 | [c0,c1,c2],_=>
 match xs,i with
 | [y0,y1,y2],_=>
 have j:=g 0 f0 rfl;have k:=g 1 f1 rfl;have m:=g 2 f2 rfl;rw [z,R,f]at j;rw [B,S,f]at k;rw [D,V,f]at m;obtain⟨M,s,Y⟩:=DataW.trod_int hi j;obtain⟨N,u,Z⟩:=DataW.trod_int hi k;obtain⟨Q,w,w2⟩:=DataW.trod_int hi m;simp [Value.cells]at s u w;subst s;subst u;subst w;exact⟨M,N,Q,rfl,Zcp Y.2,Zcp Z.2,Zcp w2.2⟩
end Go.Sky
namespace Go.Proofs.YtpmihempjefadaaGreat
open Go Go.Joins Go.Sky
def Lj{a b:Bool}(h:a=true)(c:b=true):(a && b)=true:=by rw [h,c];rfl
def cf0:(λ(P:Program) (f:FuncId) (fn:Func) (s:ChangeSpec) (c:OpenClaim)=>c.wf (OpenSpec.ofChange s)) Tryz.checked.prog 8 Tryz.f8 Rows.abortWindowsSpec Rows.abortWindowsRow=true:=O6
def cf1:(λ(P:Program) (f:FuncId) (fn:Func) (s:ChangeSpec) (c:OpenClaim)=>laidOutB P) Tryz.checked.prog 8 Tryz.f8 Rows.abortWindowsSpec Rows.abortWindowsRow=true:=O6
def cf2:(λ(P:Program) (f:FuncId) (fn:Func) (s:ChangeSpec) (c:OpenClaim)=>mapsRowed P) Tryz.checked.prog 8 Tryz.f8 Rows.abortWindowsSpec Rows.abortWindowsRow=true:=O6
def cf3:(λ(P:Program) (f:FuncId) (fn:Func) (s:ChangeSpec) (c:OpenClaim)=>fn.params.all (P.readableRec ·)) Tryz.checked.prog 8 Tryz.f8 Rows.abortWindowsSpec Rows.abortWindowsRow=true:=O6
def cf4:(λ(P:Program) (f:FuncId) (fn:Func) (s:ChangeSpec) (c:OpenClaim)=>namedTie P c.named s.vars) Tryz.checked.prog 8 Tryz.f8 Rows.abortWindowsSpec Rows.abortWindowsRow=true:=O6
def cf5:(λ(P:Program) (f:FuncId) (fn:Func) (s:ChangeSpec) (c:OpenClaim)=>c.stops == []) Tryz.checked.prog 8 Tryz.f8 Rows.abortWindowsSpec Rows.abortWindowsRow=true:=O6
def cf6:(λ(P:Program) (f:FuncId) (fn:Func) (s:ChangeSpec) (c:OpenClaim)=>P.stops == []) Tryz.checked.prog 8 Tryz.f8 Rows.abortWindowsSpec Rows.abortWindowsRow=true:=O6
def cf7:(λ(P:Program) (f:FuncId) (fn:Func) (s:ChangeSpec) (c:OpenClaim)=>c.knobs == []) Tryz.checked.prog 8 Tryz.f8 Rows.abortWindowsSpec Rows.abortWindowsRow=true:=O6
def cf8:(λ(P:Program) (f:FuncId) (fn:Func) (s:ChangeSpec) (c:OpenClaim)=>P.stopKnobs == []) Tryz.checked.prog 8 Tryz.f8 Rows.abortWindowsSpec Rows.abortWindowsRow=true:=O6
def cf9:(λ(P:Program) (f:FuncId) (fn:Func) (s:ChangeSpec) (c:OpenClaim)=>c.inPlace == P.inPlace f) Tryz.checked.prog 8 Tryz.f8 Rows.abortWindowsSpec Rows.abortWindowsRow=true:=O6
def cf10:(λ(P:Program) (f:FuncId) (fn:Func) (s:ChangeSpec) (c:OpenClaim)=>c.unfollowed == P.unfollowed f) Tryz.checked.prog 8 Tryz.f8 Rows.abortWindowsSpec Rows.abortWindowsRow=true:=O6
def cf11:(λ(P:Program) (f:FuncId) (fn:Func) (s:ChangeSpec) (c:OpenClaim)=>c.recurses == P.recurses f) Tryz.checked.prog 8 Tryz.f8 Rows.abortWindowsSpec Rows.abortWindowsRow=true:=O6
def cf12:(λ(P:Program) (f:FuncId) (fn:Func) (s:ChangeSpec) (c:OpenClaim)=>c.named == P.varsNamed f) Tryz.checked.prog 8 Tryz.f8 Rows.abortWindowsSpec Rows.abortWindowsRow=true:=O6
def cf13:(λ(P:Program) (f:FuncId) (fn:Func) (s:ChangeSpec) (c:OpenClaim)=>(c.maps == (fn.params.toList ++ s.plain.varTypes P).any (P.mapsRec ·))) Tryz.checked.prog 8 Tryz.f8 Rows.abortWindowsSpec Rows.abortWindowsRow=true:=O6
def cf14:(λ(P:Program) (f:FuncId) (fn:Func) (s:ChangeSpec) (c:OpenClaim)=>(c.ifaces == (fn.params.toList ++ s.plain.varTypes P).any (P.ifacesRec ·))) Tryz.checked.prog 8 Tryz.f8 Rows.abortWindowsSpec Rows.abortWindowsRow=true:=O6
def cf15:(λ(P:Program) (f:FuncId) (fn:Func) (s:ChangeSpec) (c:OpenClaim)=>c.mapsOut == P.mapsAmong fn.resultTypes.toList) Tryz.checked.prog 8 Tryz.f8 Rows.abortWindowsSpec Rows.abortWindowsRow=true:=O6
def cf16:(λ(P:Program) (f:FuncId) (fn:Func) (s:ChangeSpec) (c:OpenClaim)=>(c.loops == (fn.params.toList ++ s.plain.varTypes P).any (P.loopsFrom ·))) Tryz.checked.prog 8 Tryz.f8 Rows.abortWindowsSpec Rows.abortWindowsRow=true:=O6
def cf17:(λ(P:Program) (f:FuncId) (fn:Func) (s:ChangeSpec) (c:OpenClaim)=>(c.wideKeys == (fn.params.toList ++ s.plain.varTypes P ++ fn.resultTypes.toList).any (P.wideKeysFrom ·))) Tryz.checked.prog 8 Tryz.f8 Rows.abortWindowsSpec Rows.abortWindowsRow=true:=O6
def cf18:(λ(P:Program) (f:FuncId) (fn:Func) (s:ChangeSpec) (c:OpenClaim)=>s.vars.all (P.varReadable ·)) Tryz.checked.prog 8 Tryz.f8 Rows.abortWindowsSpec Rows.abortWindowsRow=true:=O6
def cf19:(λ(P:Program) (f:FuncId) (fn:Func) (s:ChangeSpec) (c:OpenClaim)=>fn.resultTypes.all (λt=>P.readableRec t && decide (t<P.types.size))) Tryz.checked.prog 8 Tryz.f8 Rows.abortWindowsSpec Rows.abortWindowsRow=true:=O6
def cf20:(λ(P:Program) (f:FuncId) (fn:Func) (s:ChangeSpec) (c:OpenClaim)=>(c.ifacesOut == fn.resultTypes.toList.any (P.ifacesRec ·))) Tryz.checked.prog 8 Tryz.f8 Rows.abortWindowsSpec Rows.abortWindowsRow=true:=O6
def cf21:(λ(P:Program) (f:FuncId) (fn:Func) (s:ChangeSpec) (c:OpenClaim)=>(c.loopsOut == fn.resultTypes.toList.any (P.loopsFrom ·))) Tryz.checked.prog 8 Tryz.f8 Rows.abortWindowsSpec Rows.abortWindowsRow=true:=O6
def cf22:(λ(P:Program) (f:FuncId) (fn:Func) (s:ChangeSpec) (c:OpenClaim)=>c.plainKeys == P.plainKeys) Tryz.checked.prog 8 Tryz.f8 Rows.abortWindowsSpec Rows.abortWindowsRow=true:=O6
def cf23:(λ(P:Program) (f:FuncId) (fn:Func) (s:ChangeSpec) (c:OpenClaim)=>c.shortTexts.isNone) Tryz.checked.prog 8 Tryz.f8 Rows.abortWindowsSpec Rows.abortWindowsRow=true:=O6
def cf24:(λ(P:Program) (f:FuncId) (fn:Func) (s:ChangeSpec) (c:OpenClaim)=>P.stopsHeard) Tryz.checked.prog 8 Tryz.f8 Rows.abortWindowsSpec Rows.abortWindowsRow=true:=O6
def cf25:(λ(P:Program) (f:FuncId) (fn:Func) (s:ChangeSpec) (c:OpenClaim)=>P.mayEnter) Tryz.checked.prog 8 Tryz.f8 Rows.abortWindowsSpec Rows.abortWindowsRow=true:=O6
def cf26:(λ(P:Program) (f:FuncId) (fn:Func) (s:ChangeSpec) (c:OpenClaim)=>c.lifted == P.liftsFinal) Tryz.checked.prog 8 Tryz.f8 Rows.abortWindowsSpec Rows.abortWindowsRow=true:=O6
def cf27:(λ(P:Program) (f:FuncId) (fn:Func) (s:ChangeSpec) (c:OpenClaim)=>P.make == some c.make) Tryz.checked.prog 8 Tryz.f8 Rows.abortWindowsSpec Rows.abortWindowsRow=true:=O6
def cf28:(λ(P:Program) (f:FuncId) (fn:Func) (s:ChangeSpec) (c:OpenClaim)=>c.kinds == (if c.domain.isEmpty then []else fn.params.toList.map λt=>match P.underlying t with|some (.int k)=>some k|_=>none)) Tryz.checked.prog 8 Tryz.f8 Rows.abortWindowsSpec Rows.abortWindowsRow=true:=O6
def cf29:(λ(P:Program) (f:FuncId) (fn:Func) (s:ChangeSpec) (c:OpenClaim)=>c.pinned == c.pinnedBy) Tryz.checked.prog 8 Tryz.f8 Rows.abortWindowsSpec Rows.abortWindowsRow=true:=O6
def cf30:(λ(P:Program) (f:FuncId) (fn:Func) (s:ChangeSpec) (c:OpenClaim)=>(c.veiled == (fn.params.toList ++ s.plain.varTypes P ++ fn.resultTypes.toList).any (P.veiledRec ·))) Tryz.checked.prog 8 Tryz.f8 Rows.abortWindowsSpec Rows.abortWindowsRow=true:=O6
def cf31:(λ(P:Program) (f:FuncId) (fn:Func) (s:ChangeSpec) (c:OpenClaim)=>c.veiledFits P fn.params.toList (fn.params.toList ++ s.plain.varTypes P ++ fn.resultTypes.toList)) Tryz.checked.prog 8 Tryz.f8 Rows.abortWindowsSpec Rows.abortWindowsRow=true:=O6
set_option maxRecDepth 100000 in
def closed:joinedFacts Tryz.checked.prog 8 Tryz.f8 Rows.abortWindowsSpec Rows.abortWindowsRow=true:=(Lj (Lj (Lj (Lj (Lj (Lj (Lj (Lj (Lj (Lj (Lj (Lj (Lj (Lj (Lj (Lj (Lj (Lj (Lj (Lj (Lj (Lj (Lj (Lj (Lj (Lj (Lj (Lj (Lj (Lj (Lj cf0 cf1) cf2) cf3) cf4) cf5) cf6) cf7) cf8) cf9) cf10) cf11) cf12) cf13) cf14) cf15) cf16) cf17) cf18) cf19) cf20) cf21) cf22) cf23) cf24) cf25) cf26) cf27) cf28) cf29) cf30) cf31)
end Go.Proofs.YtpmihempjefadaaGreat
namespace Go.Sky
variable {P:Program} {N:Nat} {sc:Nat->Prop} {env env':Qj} {H H':Hp} {Q Q':Exit->Act->World->Prop} {M:Nat->Prop}
@[reducible] def lk2 {α:Type} : List (Nat×α)->Nat->Option α
 | [],_=>none
 | (k,v)::r,n=>match Nat.beq k n with
  | true=>some v
  | false=>lk2 r n
theorem Zvh{α:Type} : ∀(e:List (Nat×α)) (n:Nat),lk2 e n=lk e n
 | [],_=>rfl
 | (k,v)::r,n=>by unfold lk2 lk;cases Nat.beq k n<;>simp [Zvh r n]
@[reducible] def ev2 (e:Qj):Operand->Option Value
 | .tmp t=>lk2 e t
 | .const v=>some v
 | .global g=>some (.pointer (some ⟨g,0,none⟩))
 | .func f=>some (.func (.func f) #[] #[])
theorem ev2_eq(e:Qj)(x:Operand):ev2 e x=ev e x:=by cases x<;>simp [ev2,ev,Zvh]
@[reducible] def nth {α:Type} : List α->Nat->Option α
 | [],_=>none
 | x::r,n=>match n with
  | 0=>some x
  | n+1=>nth r n
theorem Zve{α:Type} : ∀(l:List α) (n:Nat),nth l n=l[n]?
 | [],n=>by simp [nth]
 | x::r,0=>by simp [nth]
 | x::r,n+1=>by simp [nth,Zve r n]
@[reducible] def ltb (a b:Nat):Bool:=match Nat.ble b a with
 | true=>false
 | false=>true
theorem Oo{a b:Nat}(h:ltb a b=true):Nat.blt a b=true:=by
 unfold ltb at h;cases hb:Nat.ble b a with
 | true=>rw [hb]at h;cases h
 | false=>
  have d:¬b<=a:=λc=>by rw [mT c]at hb;cases hb
  show Nat.ble (a+1) b=true;exact mT O
@[reducible] def neb (a b:Nat):Bool:=match Nat.beq a b with
 | true=>false
 | false=>true
theorem Zbm{a b:Nat}(h:neb a b=true):a≠b:=λe=>by subst e;unfold neb at h;rw [Nat.beq_refl]at h;cases h
class Som {α:Type} (a:Option α) (b:outParam α):Prop where h:a=some b
instance {α:Type} {b:α} : Som (some b) b:=⟨rfl⟩
class TB (a:Bool):Prop where h:a=true
instance:TB true:=⟨rfl⟩
def Som.e{x:Operand}{v:Value}(h:Som (ev2 env x) v):ev env x=some v:=(ev2_eq env x).symm.trans h.h
def Som.l{α:Type}{e:List (Nat×α)}{n:Nat}{v:α}(h:Som (lk2 e n) v):lk e n=some v:=(Zvh e n).symm.trans h.h
theorem Som.n{α:Type}{l:List α}{n:Nat}{v:α}(h:Som (nth l n) v):l.toArray[n]? = some v:=by have:=(Zve l n).symm.trans h.h;simpa using this
class AndO (s q:Prop) (r:outParam Prop):Prop where h:r->s/\q
instance (priority:=low) {s q:Prop} : AndO s q (s/\q):=⟨id⟩
instance {q:Prop} : AndO True q q:=⟨λh=>⟨aA,h⟩⟩
class Und (P:Program) (t:TypeId) (d:outParam TypeDesc):Prop where h:P.underlying t=some d
class Siz (P:Program) (t:TypeId) (k:outParam Nat):Prop where h:∀w,(sizeOf t).run P w= .ok k w
class Agg (P:Program) (t:TypeId) (b:outParam Bool):Prop where h:∀w,(isAgg t).run P w= .ok b w
class EncT {α:Type} (P:Program) (t:TypeId) (k:Nat) (enc:α->Value):Prop where h:Enc P t k enc
class RdI (P:Program) (H:Hp) (v:Value) (i:outParam Nat) {α:outParam Type} (k:outParam Nat) (enc:outParam (α->Value)) (xs:outParam (List α)):Prop where
 h:∃p,lk H i=some p/\Rd p k enc v xs
instance {α:Type} {v:Value} {i k:Nat} {enc:α->Value} {xs:List α} : RdI P ((i,Ys k enc v xs)::H) v i k enc xs:=⟨_,Zm _ _ _,Zk⟩
instance {α:Type} {v:Value} {i k:Nat} {enc:α->Value} {xs:List α} {e:TypeId} [h:EncT P e k enc]:RdI P ((i,Ol k e enc v xs)::H) v i k enc xs:=⟨_,Zm _ _ _,Yo h.h⟩
instance {β:Type} {v:Value} {i k:Nat} {enc:β->Value} {q:β->Pc} {zs:List β} : RdI P ((i,Qi k enc q v zs)::H) v i k enc zs:=⟨_,Zm _ _ _,Yf⟩
instance (priority:=low) {α:Type} {v:Value} {i j k:Nat} {p:Pc} {enc:α->Value} {xs:List α} [h:RdI P H v i k enc xs] [hn:TB (neb j i)]:RdI P ((j,p)::H) v i k enc xs:=
 ⟨by obtain⟨q,h1,h2⟩:=h.h;exact⟨q,by rw [Zh (Zbm hn.h)];exact h1,h2⟩⟩
class BxI (H:Hp) (b:Nat) (i:outParam Nat) (t:outParam TypeId) (l:outParam (List Value)):Prop where h:lk H i=some (box b t l.toArray)
instance {b i:Nat} {t:TypeId} {l:List Value} : BxI ((i,box b t l.toArray)::H) b i t l:=⟨Zm _ _ _⟩
instance (priority:=low) {b i j:Nat} {t:TypeId} {p:Pc} {l:List Value} [h:BxI H b i t l] [hn:TB (neb j i)]:BxI ((j,p)::H) b i t l:=⟨by rw [Zh (Zbm hn.h)];exact h.h⟩
class RxI (H:Hp) (b:Nat) (i:outParam Nat) (t:outParam TypeId) (l:outParam (List Value)):Prop where h:lk H i=some (Oz b t l.toArray)
instance {b i:Nat} {t:TypeId} {l:List Value} : RxI ((i,Oz b t l.toArray)::H) b i t l:=⟨Zm _ _ _⟩
instance (priority:=low) {b i j:Nat} {t:TypeId} {p:Pc} {l:List Value} [h:RxI H b i t l] [hn:TB (neb j i)]:RxI ((j,p)::H) b i t l:=⟨by rw [Zh (Zbm hn.h)];exact h.h⟩
class DI (P:Program) (N:Nat) (sc:Nat->Prop) (op:Go.Op) (env:Qj) (H:Hp) (v:outParam Value) (s:outParam Prop):Prop where
 h:s->∀{d:Option Tmp} {ty:TypeId} {pos:String} {af:Array Edge} {g:Option (Nat×Bool)},Mt P N sc ⟨d,op,ty,pos,af,g⟩ env H v
section
variable {x y c:Operand} {v u:Value} {t t':TypeId} {k:IntKind} {m n:Int}
instance [h:Som (ev2 env x) v]:DI P N sc (.move x) env H v True:=⟨λ_=>Hg rfl h.e⟩
instance [h:Som (ev2 env x) v]:DI P N sc (.assign x) env H v True:=⟨λ_=>d_as rfl h.e⟩
instance {i:Nat} {vs:List Value} [h:Som (ev2 env x) (.tuple vs.toArray)] [h2:Som (nth vs i) v]:DI P N sc (.extract x i) env H v True:=⟨λ_=>Zv5 rfl h.e h2.n⟩
instance {ad:Addr} [h:Som (ev2 env x) (.pointer (some ad))]:DI P N sc (.nilCheck x) env H (.pointer (some ad)) True:=⟨λ_=>d_nc rfl h.e⟩
instance {p:Prop} [Decidable p] [h:Som (ev2 env x) (.bool (decide p))]:DI P N sc (.unOp .not t x) env H (.bool (decide (¬p))) True:=⟨λ_=>d_not rfl h.e⟩
instance (priority:=low) {b:Bool} [h:Som (ev2 env x) (.bool b)]:DI P N sc (.unOp .not t x) env H (.bool (!b)) True:=⟨λ_=>Yz rfl h.e⟩
instance (priority:=high) [h:Som (ev2 env x) (.bool true)]:DI P N sc (.unOp .not t x) env H (.bool false) True:=⟨λ_=>Yz rfl h.e⟩
instance (priority:=high) [h:Som (ev2 env x) (.bool false)]:DI P N sc (.unOp .not t x) env H (.bool true) True:=⟨λ_=>Yz rfl h.e⟩
instance [h:Som (ev2 env c) (.bool true)] [h1:Som (ev2 env x) v]:DI P N sc (.pick c x y) env H v True:=⟨λ_=>Cy rfl h.e h1.e⟩
instance [h:Som (ev2 env c) (.bool false)] [h1:Som (ev2 env y) v]:DI P N sc (.pick c x y) env H v True:=⟨λ_=>Ymu rfl h.e h1.e⟩
instance [h:Som (ev2 env x) (.int k m)] [h1:Som (ev2 env y) (.int k n)]:DI P N sc (.binOp .lss t x y t') env H (.bool (decide (m<n))) True:=⟨λ_=>d_lss rfl h.e h1.e⟩
instance [h:Som (ev2 env x) (.int k m)] [h1:Som (ev2 env y) (.int k n)]:DI P N sc (.binOp .leq t x y t') env H (.bool (decide (m<=n))) True:=⟨λ_=>d_leq rfl h.e h1.e⟩
instance [h:Som (ev2 env x) (.int k m)] [h1:Som (ev2 env y) (.int k n)]:DI P N sc (.binOp .gtr t x y t') env H (.bool (decide (n<m))) True:=⟨λ_=>Zts rfl h.e h1.e⟩
instance [h:Som (ev2 env x) (.int k m)] [h1:Som (ev2 env y) (.int k n)]:DI P N sc (.binOp .geq t x y t') env H (.bool (decide (n<=m))) True:=⟨λ_=>d_geq rfl h.e h1.e⟩
instance [h:Som (ev2 env x) (.int k m)] [h1:Som (ev2 env y) (.int k n)]:DI P N sc (.binOp .eql t x y t') env H (.bool (decide (m=n))) True:=⟨λ_=>Yhn rfl h.e h1.e⟩
instance [h:Som (ev2 env x) (.int k m)] [h1:Som (ev2 env y) (.int k n)]:DI P N sc (.binOp .neq t x y t') env H (.bool (decide (m≠n))) True:=⟨λ_=>d_neq rfl h.e h1.e⟩
instance {a b:Bool} [h:Som (ev2 env x) (.bool a)] [h1:Som (ev2 env y) (.bool b)] [h2:Und P t .bool]:DI P N sc (.binOp .eql t x y t') env H (.bool (a == b)) True:=⟨λ_=>d_eqb rfl h.e h1.e h2.h⟩
instance {a b:Bool} [h:Som (ev2 env x) (.bool a)] [h1:Som (ev2 env y) (.bool b)] [h2:Und P t .bool]:DI P N sc (.binOp .neq t x y t') env H (.bool (a != b)) True:=⟨λ_=>Zzh rfl h.e h1.e h2.h⟩
instance [h:Som (ev2 env x) (.int .i64 m)] [h1:Som (ev2 env y) (.int .i64 n)]:DI P N sc (.binOp .add t x y t') env H (.int .i64 (m+n)) (-9223372036854775808<=m+n/\m+n<=9223372036854775807):=⟨λs=>d_add rfl h.e h1.e s⟩
instance [h:Som (ev2 env x) (.int .i64 m)] [h1:Som (ev2 env y) (.int .i64 n)]:DI P N sc (.binOp .sub t x y t') env H (.int .i64 (m-n)) (-9223372036854775808<=m-n/\m-n<=9223372036854775807):=⟨λs=>d_sub rfl h.e h1.e s⟩
instance [h:Som (ev2 env x) (.int .i64 m)] [h1:Som (ev2 env y) (.int .i64 n)]:DI P N sc (.binOp .mul t x y t') env H (.int .i64 (m*n)) (-9223372036854775808<=m*n/\m*n<=9223372036854775807):=⟨λs=>d_mul rfl h.e h1.e s⟩
instance {i kk:Nat} {α:Type} {enc:α->Value} {xs:List α} {e:TypeId} [h:Som (ev2 env x) v] [h1:RdI P H v i kk enc xs] [h2:Und P t (.slice e)]:DI P N sc (.call { callee:= .builtin .len,args:=#[x],argTypes:=#[t] }) env H (.int .i64 xs.length) True:=
 ⟨λ_=>by obtain⟨p,h3,h4⟩:=h1.h;exact d_len rfl h.e h3 h4 h2.h⟩
instance {s:ByteArray} [h:Som (ev2 env x) (.string s)] [h2:Und P t .string]:DI P N sc (.call { callee:= .builtin .len,args:=#[x],argTypes:=#[t] }) env H (.int .i64 s.size) True:=⟨λ_=>d_lens rfl h.e h2.h⟩
end
@[reducible] def eqb (a b:Nat):Bool:=match Nat.beq a b with
 | true=>true
 | false=>false
theorem eqb_eq{a b:Nat}(h:eqb a b=true):a=b:=by
 unfold eqb at h;cases hb:Nat.beq a b with
 | true=>exact dL hb
 | false=>rw [hb]at h;cases h
@[reducible] def lenq {α:Type} : List α->Nat->Bool
 | [],n=>match n with
  | 0=>true
  | _+1=>false
 | _::r,n=>match n with
  | 0=>false
  | n+1=>lenq r n
theorem Zf2{α:Type} : ∀{l:List α} {n:Nat},lenq l n=true->l.length=n
 | [],0,_=>rfl
 | [],n+1,h=>by simp [lenq]at h
 | _::r,0,h=>by simp [lenq]at h
 | _::r,n+1,h=>by have:=Zf2 (l:=r) (n:=n) (by simpa [lenq]using h);simp [this]
@[reducible] def fit0 {α β:Type} : List α->List β->Bool
 | _,[]=>true
 | l,_::vs=>match l with
  | []=>false
  | _::r=>fit0 r vs
@[reducible] def fits {α β:Type} : List α->Nat->List β->Bool
 | [],j,a=>match j with
  | 0=>fit0 ([]:List α) a
  | _+1=>false
 | x::r,j,a=>match j with
  | 0=>fit0 (x::r) a
  | j+1=>fits r j a
theorem Zpl{α β:Type} : ∀{vs:List β} {l:List α},fit0 l vs=true->vs.length<=l.length
 | [],_,_=>O8
 | _::vs,[],h=>by simp [fit0]at h
 | _::vs,_::r,h=>by have:=Zpl (vs:=vs) (l:=r) (by simpa [fit0]using h);simp;omega
theorem Zyy{α β:Type} : ∀{l:List α} {j:Nat} {vs:List β},fits l j vs=true->j+vs.length<=l.length
 | [],0,vs,h=>by have:=Zpl (by simpa [fits]using h);simpa using this
 | [],j+1,vs,h=>by simp [fits]at h
 | x::r,0,vs,h=>by have:=Zpl (l:=x::r) (by simpa [fits]using h);simpa using this
 | x::r,j+1,vs,h=>by have:=Zyy (l:=r) (j:=j) (by simpa [fits]using h);simp;omega
@[reducible] def seg {α:Type} : List α->Nat->Nat->List α
 | [],_,_=>[]
 | x::r,j,k=>match j with
  | j+1=>seg r j k
  | 0=>match k with
   | 0=>[]
   | k+1=>x::seg r 0 k
theorem Ziq{α:Type} : ∀(l:List α) (j k n:Nat) (u:α),(seg l j k)[n]? = some u->l[j+n]? = some u
 | [],_,_,_,_,h=>by simp [seg]at h
 | x::r,j+1,k,n,u,h=>by have:=Ziq r j k n u (by simpa [seg]using h);rw [show j+1+n=(j+n)+1 by omega];simpa using this
 | x::r,0,0,n,u,h=>by simp [seg]at h
 | x::r,0,k+1,0,u,h=>by simpa [seg]using h
 | x::r,0,k+1,n+1,u,h=>by have:=Ziq r 0 k n u (by simpa [seg]using h);rw [bR]at this ⊢;simpa using this
class LEv {α:Type} (l:List α) (r:outParam (List α)):Prop where h:l=r
instance {α:Type} : LEv ([]:List α) []:=⟨rfl⟩
instance {α:Type} {a:α} {l r:List α} [h:LEv l r]:LEv (a::l) (a::r):=⟨by rw [h.h]⟩
class AddN (a b:Nat) (c:outParam Nat):Prop where h:a+b=c
instance (priority:=low) {a b:Nat} : AddN a b (a+b):=⟨rfl⟩
instance {b:Nat} : AddN 0 b b:=⟨bR b⟩
instance {a:Nat} : AddN a 0 a:=⟨rfl⟩
class Df (α:Type) (d:outParam α):Prop where t:True
instance:Df Int 0:=⟨aA⟩
instance:Df Nat 0:=⟨aA⟩
section
variable {x y:Operand} {v u:Value} {t tb:TypeId} {b j i k f:Nat} {l vs ws:List Value}
instance [h:Som (ev2 env x) (.pointer (some ⟨b,j,none⟩))] [h1:Agg P t false] [h2:BxI H b i tb l] [h3:Som (nth l j) v]:DI P N sc (.load t x) env H v True:=⟨λ_=>Zlp _ rfl h.e h2.h h1.h h3.n⟩
instance [h:Som (ev2 env x) (.pointer (some ⟨b,j,none⟩))] [h1:Agg P t true] [h2:BxI H b i tb l] [h4:Siz P t k] [h3:LEv (seg l j k) vs] [h5:TB (lenq vs k)]:DI P N sc (.load t x) env H (.agg vs.toArray) True:=
 ⟨λ_=>Zzi _ rfl h.e h2.h h1.h h4.h (Zf2 h5.h) (λn u hu=>by rw [<-h3.h]at hu;simpa using Ziq l j k n u hu)⟩
instance [h:Som (ev2 env x) (.pointer (some ⟨b,j,none⟩))] [h1:Agg P t false] [h2:RxI H b i tb l] [h3:Som (nth l j) v]:DI P N sc (.load t x) env H v True:=⟨λ_=>d_lr rfl h.e h2.h h1.h h3.n⟩
instance [h:Som (ev2 env x) (.pointer (some ⟨b,j,none⟩))] [h1:Agg P t true] [h2:RxI H b i tb l] [h4:Siz P t k] [h3:LEv (seg l j k) vs] [h5:TB (lenq vs k)]:DI P N sc (.load t x) env H (.agg vs.toArray) True:=
 ⟨λ_=>d_lra rfl h.e h2.h h1.h h4.h (Zf2 h5.h) (λn u hu=>by rw [<-h3.h]at hu;simpa using Ziq l j k n u hu)⟩
instance {fs:List Field} {c q bo:Nat} {nm tag pk:String} {ft:TypeId} {em:Bool} [h:Som (ev2 env x) (.pointer (some ⟨b,j,none⟩))] [h1:Und P t (.struct fs.toArray)] [h2:Som (nth fs f) ⟨nm,ft,q,em,tag,pk,bo⟩] [h3:Siz P ft k] [h5:TB (neb k 0)] [h4:AddN j q c] :
  DI P N sc (.fieldAddr t x f) env H (.pointer (some ⟨b,c,none⟩)) True:=⟨λ_=>by
 obtain⟨k,rfl⟩:=Nat.exists_eq_succ_of_ne_zero (Zbm h5.h);exact Yhm rfl h.e h1.h h2.n h3.h rfl h4.h⟩
instance {α:Type} {enc:α->Value} {xs:List α} {e:TypeId} {kd:IntKind} {n:Nat} [h:Som (ev2 env x) v] [h1:Som (ev2 env y) (.int kd (n:Int))] [h2:RdI P H v i k enc xs] [h3:Und P t (.slice e)] [h4:Siz P e k] :
  DI P N sc (.indexAddr t x y) env H (.pointer (some (ead v n k))) (n<xs.length):=⟨λs=>by obtain⟨p,h5,h6⟩:=h2.h;exact Ym _ _ rfl h.e h1.e h5 h6 h3.h h4.h rfl s⟩
instance {α:Type} {enc:α->Value} {xs:List α} {e:TypeId} {kd:IntKind} {n:Nat} [h:Som (ev2 env x) v] [h1:Som (ev2 env y) (.int kd (@OfNat.ofNat Int n (@instOfNat n)))] [hl:TB (eqb n n)] [h2:RdI P H v i k enc xs] [h3:Und P t (.slice e)] [h4:Siz P e k] :
  DI P N sc (.indexAddr t x y) env H (.pointer (some (ead v (@OfNat.ofNat Nat n (instOfNatNat n)) k))) (@OfNat.ofNat Nat n (instOfNatNat n)<xs.length):=⟨λs=>by obtain⟨p,h5,h6⟩:=h2.h;exact Ym _ _ rfl h.e h1.e h5 h6 h3.h h4.h rfl s⟩
instance {α:Type} {enc:α->Value} {xs:List α} {n:Nat} {d0:α} [h:Som (ev2 env x) (.pointer (some (ead v n k)))] [h2:RdI P H v i k enc xs] [h3:EncT P t k enc] [h4:Df α d0] :
  DI P N sc (.load t x) env H (enc (xs.getD n d0)) (n<xs.length):=⟨λs=>by obtain⟨p,h5,h6⟩:=h2.h;exact Of _ d0 rfl h.e h5 h6 h3.h s⟩
instance {fs:List Field} {q bo:Nat} {nm tag pk:String} {ft:TypeId} {em:Bool} [h:Som (ev2 env x) (.agg l.toArray)] [h1:Und P t (.struct fs.toArray)] [h2:Som (nth fs f) ⟨nm,ft,q,em,tag,pk,bo⟩] [h3:Agg P ft false] [h4:Som (nth l q) v] :
  DI P N sc (.field t x f) env H v True:=⟨λ_=>d_fld rfl h.e h1.h h2.n h3.h h4.n⟩
end
class Adv (n:Nat) (p:Prop) (q:outParam Prop):Prop where h:q->p
def go(n:Nat){p q:Prop}[h:Adv n p q](k:q):p:=h.h k
@[reducible] def dsto (l:List Oper) (j:Nat):Option Nat:=match nth l j with
 | some o=>o.dst
 | none=>none
theorem Dr{l:List Oper}{j e:Nat}(h:Som (dsto l j) e):(l.toArray[j]?).bind (·.dst)=some e:=by
 have h:=h.h;unfold dsto at h;rw [Zve]at h;simp only [List.getElem?_toArray];cases hb:l[j]? with
 | none=>rw [hb]at h;cases h
 | some o=>rw [hb]at h;exact h
section
variable {n:Nat} {q r s:Prop} {c x y:Code} {id:Nat} {l:List Oper} {ops:Array Oper} {rest:List Oper} {d j t:Nat} {op:Go.Op} {ty:TypeId} {pos:String} {af:Array Edge} {v:Value} {e:Exit} {b:Bool}
instance {p:Prop} : Adv 0 p p:=⟨λk=>k⟩
instance [h:Adv n (E P N sc x (Exit.then (y.wp P Q) Q) env H) q]:Adv (n+1) (E P N sc (.seq x y) Q env H) q:=⟨λk=>e_seq (h.h k)⟩
instance [h:Adv n (L P N sc l.toArray l Q env H) q]:Adv (n+1) (E P N sc (.region id l.toArray false) Q env H) q:=⟨λk=>e_reg (h.h k)⟩
instance [h:Adv n (X N sc .normal Q env H) q]:Adv (n+1) (E P N sc .skip Q env H) q:=⟨λk=>e_skip (h.h k)⟩
instance [h:Adv n (E P N sc c (Exit.inBlock id Q) env H) q]:Adv (n+1) (E P N sc (.block id c) Q env H) q:=⟨λk=>Ymp (h.h k)⟩
instance [h:Adv n (X N sc (.exit id) Q env H) q]:Adv (n+1) (E P N sc (.exit id) Q env H) q:=⟨λk=>e_exit (h.h k)⟩
instance [h:Adv n (X N sc .ret Q env H) q]:Adv (n+1) (E P N sc .ret Q env H) q:=⟨λk=>e_ret (h.h k)⟩
instance {o:Operand} [h1:Som (ev2 env o) (.bool true)] [h:Adv n (E P N sc x Q env H) q]:Adv (n+1) (E P N sc (.cond o x y) Q env H) q:=⟨λk=>Ymn h1.e (h.h k)⟩
instance {o:Operand} [h1:Som (ev2 env o) (.bool false)] [h:Adv n (E P N sc y Q env H) q]:Adv (n+1) (E P N sc (.cond o x y) Q env H) q:=⟨λk=>Ymo h1.e (h.h k)⟩
instance [h:Adv n (E P N sc y Q env H) q]:Adv (n+1) (X N sc .normal (Exit.then (y.wp P Q) Q) env H) q:=⟨λk=>x_then (h.h k)⟩
instance {K:Act->World->Prop} [h:Adv n (X N sc .ret Q env H) q]:Adv (n+1) (X N sc .ret (Exit.then K Q) env H) q:=⟨λk=>x_ret (h.h k)⟩
instance {K:Act->World->Prop} [h:Adv n (X N sc (.exit id) Q env H) q]:Adv (n+1) (X N sc (.exit id) (Exit.then K Q) env H) q:=⟨λk=>x_exit (h.h k)⟩
instance [h:Adv n (X N sc .normal Q env H) q]:Adv (n+1) (X N sc .normal (Exit.inBlock id Q) env H) q:=⟨λk=>x_bn (h.h k)⟩
instance [h:Adv n (X N sc .ret Q env H) q]:Adv (n+1) (X N sc .ret (Exit.inBlock id Q) env H) q:=⟨λk=>x_br (h.h k)⟩
instance [h:Adv n (X N sc .normal Q env H) q]:Adv (n+1) (X N sc (.exit id) (Exit.inBlock id Q) env H) q:=⟨λk=>x_be (h.h k)⟩
instance (priority:=low) {id':Nat} [hn:TB (neb id' id)] [h:Adv n (X N sc (.exit id') Q env H) q]:Adv (n+1) (X N sc (.exit id') (Exit.inBlock id Q) env H) q:=⟨λk=>x_bo (Zbm hn.h) (h.h k)⟩
instance [h:Adv n (X N sc .normal Q env H) q]:Adv (n+1) (L P N sc ops [] Q env H) q:=⟨λk=>Zq (h.h k)⟩
instance [h1:DI P N sc op env H v s] [h2:TB (ltb d N)] [h:Adv n (L P N sc ops rest Q ((d,v)::env) H) q] [h3:AndO s q r]:Adv (n+1) (L P N sc ops (⟨some d,op,ty,pos,af,none⟩::rest) Q env H) r:=
 ⟨λk=>dt (h1.h (h3.h k).1) (h.h (h3.h k).2) (Oo h2.h)⟩
instance [hj:Som (dsto l j) t] [hg:Som (lk2 env t) (.bool b)] [h4:TB (ltb t N)] [h1:DI P N sc op env H v s] [h2:TB (ltb d N)] [h:Adv n (L P N sc l.toArray rest Q ((d,v)::env) H) q] [h3:AndO s q r]:Adv (n+1) (L P N sc l.toArray (⟨some d,op,ty,pos,af,some (j,b)⟩::rest) Q env H) r:=
 ⟨λk=>Fj (h1.h (h3.h k).1) (Dr hj) hg.l (h.h (h3.h k).2) (Oo h4.h) (Oo h2.h)⟩
instance [hj:Som (dsto l j) t] [hg:Som (lk2 env t) (.bool false)] [h4:TB (ltb t N)] [h2:TB (ltb d N)] [h:Adv n (L P N sc l.toArray rest Q ((d,undef)::env) H) q]:Adv (n+1) (L P N sc l.toArray (⟨some d,op,ty,pos,af,some (j,true)⟩::rest) Q env H) q:=
 ⟨λk=>gsk (Dr hj) hg.l rfl (Oo h4.h) (Oo h2.h) (h.h k)⟩
instance [hj:Som (dsto l j) t] [hg:Som (lk2 env t) (.bool true)] [h4:TB (ltb t N)] [h2:TB (ltb d N)] [h:Adv n (L P N sc l.toArray rest Q ((d,undef)::env) H) q]:Adv (n+1) (L P N sc l.toArray (⟨some d,op,ty,pos,af,some (j,false)⟩::rest) Q env H) q:=
 ⟨λk=>gsk (Dr hj) hg.l rfl (Oo h4.h) (Oo h2.h) (h.h k)⟩
instance [hj:Som (dsto l j) t] [hg:Som (lk2 env t) undef] [h2:TB (ltb d N)] [h:Adv n (L P N sc l.toArray rest Q ((d,undef)::env) H) q]:Adv (n+1) (L P N sc l.toArray (⟨some d,op,ty,pos,af,some (j,b)⟩::rest) Q env H) q:=
 ⟨λk=>gsku (Dr hj) hg.l (Oo h2.h) (h.h k)⟩
end
end Go.Sky
namespace Go.Sky
variable {P:Program} {N:Nat} {sc:Nat->Prop} {env env':Qj} {H H':Hp} {Q Q':Exit->Act->World->Prop} {M:Nat->Prop}
class Hw (w0:World) (sc:Nat->Prop):Prop where h:∀b,w0.heap.size<=b->sc b
class EvI (env:Qj) (xs:List Operand) (vs:outParam (List Value)):Prop where h:EvL env xs vs
instance:EvI env [] []:=⟨aA⟩
instance {x:Operand} {r:List Operand} {v:Value} {vs:List Value} [h:Som (ev2 env x) v] [h2:EvI env r vs]:EvI env (x::r) (v::vs):=⟨⟨h.e,h2.h⟩⟩
class CalF (P:Program) (f:FuncId):Prop where h:∀args w,(callFunc f args).run P w= .ok (.enter f args) w
class AddI (n:Nat) (l:List Pc) (H:Hp) (H':outParam Hp):Prop where h:adds n l H=H'
instance {n:Nat} : AddI n [] H H:=⟨rfl⟩
instance {n:Nat} {p:Pc} {r:List Pc} [h:AddI (n+1) r H H']:AddI n (p::r) H ((n,p)::H'):=⟨by rw [<-h.h]⟩
class PreL (P:Program) (H:Hp) (al:Bool) (ids:List Nat) (pre:outParam (List Pc)):Prop where h:PreOk H al pre
class RoI (p:Pc):Prop where h:p.own=false
instance {α:Type} {k:Nat} {enc:α->Value} {v:Value} {xs:List α} : RoI (Ys k enc v xs):=⟨rfl⟩
instance {β:Type} {k:Nat} {enc:β->Value} {q:β->Pc} {v:Value} {zs:List β} : RoI (Qi k enc q v zs):=⟨rfl⟩
instance {b:Nat} {t:TypeId} {cs:Array Value} : RoI (Oz b t cs):=⟨rfl⟩
class LnI (P:Program) (al:Bool) (i:Nat) (p:Pc) (q:outParam Pc):Prop where
 h:i≠0->∀{H r},lk H i=some p->PreOk H al r->PreOk H al (q::r)
theorem Zt9{i:Nat}(h:i≠0):Nat.beq i 0=false:=by
 cases hb:Nat.beq i 0 with
 | true=>exact absurd (dL hb) h
 | false=>rfl
instance {al:Bool} {i:Nat} {p:Pc} [h:RoI p]:LnI P al i p p:=⟨λh0 _ _ hi hr=>Yd i hi (Zt9 h0) h.h hr⟩
instance {α:Type} {i k:Nat} {e:TypeId} {enc:α->Value} {v:Value} {xs:List α} [h:EncT P e k enc]:LnI P false i (Ol k e enc v xs) (Ys k enc v xs):=⟨λh0 _ _ hi hr=>Yea i hi (Zt9 h0) h.h hr⟩
instance {i b:Nat} {t:TypeId} {cs:Array Value} : LnI P false i (box b t cs) (Oz b t cs):=⟨λh0 _ _ hi hr=>Zg6 i hi (Zt9 h0) hr⟩
instance {al:Bool} : PreL P H al [] []:=⟨aA⟩
instance {al:Bool} {i:Nat} {ids:List Nat} {p q:Pc} {r:List Pc} [h:Som (lk2 H i) p] [h0:TB (neb i 0)] [h1:LnI P al i p q] [h2:PreL P H al ids r]:PreL P H al (i::ids) (q::r):=⟨h1.h (Zbm h0.h) h.l h2.h⟩
theorem T.conv{o:Oper}{G:Type}{φ:G->Prop}{c:G->Qj}{a b:G->Hp}(h:T P N sc M o env H φ c a)(d:∀g,a g=b g):T P N sc M o env H φ c b:=by rw [show b=a from(funext d).symm];exact h
section
variable {f:FuncId} {xs:List Operand} {ats:Array TypeId} {d:Nat} {vs fs us:List Value} {pre:List Pc} {al:Bool} {G:Type} {φ:G->Prop} {val:G->Value} {its:G->List Pc} {w0:World} {M0:Nat->Prop} {ty:TypeId} {pos:String} {af:Array Edge} {g:Option (Nat×Bool)}
def Zv(n:Nat)(a:List Nat)(c:Cal P f vs.toArray pre al φ val its){b:G->Hp}[hx:EvI env xs vs][hf:CalF P f][hp:PreL P H al a pre][h0:Som (lk2 H 0) (Zt w0 M0)][hN:TB (ltb d N)][hw:Hw w0 sc][ha:∀g,AddI n (its g) H (b g)] :
  T P N sc M ⟨some d,.call { callee:= .value (.func f),args:=xs.toArray,argTypes:=ats },ty,pos,af,g⟩ env H φ (λg=>(d,val g)::env) b:=
 (Oj n c rfl rfl (Oo hN.h) hx.h hf.h hp.h h0.l hw.h).conv λg=>(ha g).h
class On1 (P:Program) (N:Nat) (sc:Nat->Prop) (env:Qj) (H:Hp) (v:Value):Prop where h:One N sc env H v
instance {k:IntKind} {n:Int} : On1 P N sc env H (.int k n):=⟨Zl rfl⟩
instance {b:Bool} : On1 P N sc env H (.bool b):=⟨Zl rfl⟩
instance {s:ByteArray} : On1 P N sc env H (.string s):=⟨Zl rfl⟩
instance {a:Option Addr} : On1 P N sc env H (.pointer a):=⟨Zl rfl⟩
instance {a:Option Addr} {m n:Nat} : On1 P N sc env H (.slice a m n):=⟨Zl rfl⟩
instance (priority:=low) {α:Type} {i k:Nat} {v:Value} {enc:α->Value} {ys:List α} [h:RdI P H v i k enc ys]:On1 P N sc env H v:=⟨by obtain⟨p,h1,h2⟩:=h.h;exact Ok _ h1 h2⟩
class OnL (P:Program) (N:Nat) (sc:Nat->Prop) (env:Qj) (H:Hp) (l:List Value):Prop where h:∀u∈l,One N sc env H u
instance:OnL P N sc env H []:=⟨λ_ h=>nomatch h⟩
instance {v:Value} {l:List Value} [h:On1 P N sc env H v] [h2:OnL P N sc env H l]:OnL P N sc env H (v::l):=⟨λu hu=>by
 cases hu with
 | head=>exact h.h
 | tail _ hu=>exact h2.h u hu⟩
class CeI (P:Program) (N:Nat) (sc:Nat->Prop) (env:Qj) (H:Hp) (v:Value) (l:outParam (List Value)):Prop where
 h:∀a w,Sat N sc env H a w->v.cells=l.toArray
 o:∀u∈l,One N sc env H u
instance {l:List Value} [h:OnL P N sc env H l]:CeI P N sc env H (.agg l.toArray) l:=⟨λ_ _ _=>rfl,h.h⟩
instance (priority:=low) {v:Value} [h:On1 P N sc env H v]:CeI P N sc env H v [v]:=⟨λa w hs=>Zo (h.h a w hs),λu hu=>by rw [bZ.1 hu];exact h.h⟩
class ClI (v:Value) (l:outParam (List Value)):Prop where h:v.cells=l.toArray
instance {l:List Value} : ClI (.agg l.toArray) l:=⟨rfl⟩
instance {k:IntKind} {n:Int} : ClI (.int k n) [.int k n]:=⟨rfl⟩
instance {b:Bool} : ClI (.bool b) [.bool b]:=⟨rfl⟩
instance {s:ByteArray} : ClI (.string s) [.string s]:=⟨rfl⟩
instance {a:Option Addr} : ClI (.pointer a) [.pointer a]:=⟨rfl⟩
instance {a:Option Addr} {m n:Nat} : ClI (.slice a m n) [.slice a m n]:=⟨rfl⟩
class Zer (P:Program) (t:TypeId) (z:outParam Value):Prop where h:∀w,(zeroValue t).run P w= .ok z w
variable {t tb:TypeId} {l l':List Value} {v z:Value} {x y:Operand} {i j k b:Nat}
def Zx(n:Nat)[hz:Zer P t z][hc:ClI z l][h0:Som (lk2 H 0) (Zt w0 M0)][hN:TB (ltb d N)][hw:Hw w0 sc] :
  T P N sc M ⟨some d,.alloc t,ty,pos,af,g⟩ env H (G:=Nat) (λ_=>True) (λb=>(d,.pointer (some ⟨b,0,none⟩))::env) (λb=>(n,box b t l.toArray)::H):=Zil _ rfl rfl hz.h hc.h h0.l hw.h (Oo hN.h)
def Zu(n:Nat)[hx:Som (ev2 env x) v][hc:ClI v l][h0:Som (lk2 H 0) (Zt w0 M0)][hN:TB (ltb d N)][hw:Hw w0 sc] :
  T P N sc M ⟨some d,.box t x,ty,pos,af,g⟩ env H (G:=Nat) (λ_=>True) (λb=>(d,.pointer (some ⟨b,0,none⟩))::env) (λb=>(n,box b t l.toArray)::H):=t_box rfl rfl (Oo hN.h) hx.e hc.h h0.l hw.h
@[reducible] def lay2 {α:Type} : List α->Nat->List α->List α
 | [],_,_=>[]
 | c::r,j,vs=>match j with
  | j+1=>c::lay2 r j vs
  | 0=>match vs with
   | []=>c::r
   | v::vs=>v::lay2 r 0 vs
theorem Zpe{α:Type} : ∀(l:List α) (j:Nat) (vs:List α),j+vs.length<=l.length->lay2 l j vs=l.take j ++ vs ++ l.drop (j+vs.length)
 | [],j,vs,h=>by have a:vs=[]:=aG (by simp only [mO]at h;omega);subst a;simp [lay2]
 | c::r,j+1,vs,h=>by rw [show j+1+vs.length=(j+vs.length)+1 by omega];simp only [lay2,kX,nF,iF];rw [Zpe r j vs (by simp at h;omega)]
 | c::r,0,[],h=>by simp [lay2]
 | c::r,0,v::vs,h=>by
  have e:0+vs.length<=r.length:=by simp only [dM]at h;omega
  have:=Zpe r 0 vs e;simp only [lay2,this,bR,eX,iS,dM,nF,iF]
theorem Ycu [hx:Som (ev2 env x) (.pointer (some ⟨b,j,none⟩))] [hy:Som (ev2 env y) v] [hB:BxI H b i tb l] [hi:TB (neb i 0)] [hv:CeI P N sc env H v vs] [hk:Siz P t k] [hl:TB (lenq vs k)] [hf:TB (fits l j vs)] [hr:LEv (lay2 l j vs) l']
  [h0:Som (lk2 H 0) (Zt w0 M0)] [hw:Hw w0 sc] (e:M b):T P N sc M ⟨none,.store t x y,ty,pos,af,g⟩ env H (G:=Unit) (λ_=>True) (λ_=>env) (λ_=>(i,box b tb l'.toArray)::H):=λa w hs=>by
 have c:=Zyy hf.h;refine Zhu _ rfl rfl hx.e hy.e hB.h (Zbm hi.h) (hv.h a w hs) hk.h (Zf2 hl.h) (by simpa using c) hv.o ?_ h0.l hw.h e a w hs;unfold Gq;rw [<-hr.h,Zpe l j vs c]
variable {ops:Array Oper} {rest:List Oper} {op:Go.Op} {genv:G->Qj} {gH:G->Hp} {dd:Option Tmp}
def Zz(a:T P N sc (λ_=>True) ⟨dd,op,ty,pos,af,none⟩ env H φ genv gH)(h:∀g,φ g->L P N sc ops rest Q (genv g) (gH g)):L P N sc ops (⟨dd,op,ty,pos,af,none⟩::rest) Q env H:=tt a h
def gt' {c:List Oper} {e:Nat} {a:Bool} (m:T P N sc (λ_=>True) ⟨dd,op,ty,pos,af,some (j,a)⟩ env H φ genv gH) [hj:Som (dsto c j) e] [he:Som (lk2 env e) (.bool a)] [hN:TB (ltb e N)]
  (h:∀g,φ g->L P N sc c.toArray rest Q (genv g) (gH g)):L P N sc c.toArray (⟨dd,op,ty,pos,af,some (j,a)⟩::rest) Q env H:=gtt m rfl (Dr hj) he.l (Oo hN.h) h
instance {n:Nat} {q:Prop} [hx:Som (ev2 env x) (.pointer (some ⟨b,j,none⟩))] [hy:Som (ev2 env y) v] [hB:BxI H b i tb l] [hi:TB (neb i 0)] [hv:CeI P N sc env H v vs] [hk:Siz P t k] [hl:TB (lenq vs k)] [hf:TB (fits l j vs)] [hr:LEv (lay2 l j vs) l']
  [h0:Som (lk2 H 0) (Zt w0 M0)] [hw:Hw w0 sc] [h:Adv n (L P N sc ops rest Q env ((i,box b tb l'.toArray)::H)) q]:Adv (n+1) (L P N sc ops (⟨none,.store t x y,ty,pos,af,none⟩::rest) Q env H) q:=
 ⟨λq=>Zz (Ycu aA) λ_ _=>h.h q⟩
end
end Go.Sky
namespace Go.Sky
variable {P:Program} {N:Nat} {sc:Nat->Prop} {env env':Qj} {H H' H0:Hp} {Q Q':Exit->Act->World->Prop} {M:Nat->Prop}
@[reducible] def drp2:Nat->Hp->Hp
 | _,[]=>[]
 | k,(i,p)::r=>match Nat.beq i k with
  | true=>drp2 k r
  | false=>(i,p)::drp2 k r
theorem Zy9:∀(k:Nat) (H:Hp),drp2 k H=drp k H
 | _,[]=>rfl
 | k,(i,p)::r=>by unfold drp2 drp;cases Nat.beq i k<;>simp [Zy9 k r]
@[reducible] def anyb:List Nat->Nat->Bool
 | [],_=>false
 | k::r,i=>match Nat.beq i k with
  | true=>true
  | false=>anyb r i
theorem Zqo:∀(a:List Nat) (i:Nat),anyb a i=a.any (Nat.beq i)
 | [],_=>rfl
 | k::r,i=>by unfold anyb;rw [List.any_cons,<-Zqo r i];cases Nat.beq i k<;>rfl
@[reducible] def rst2 (a:List Nat):Hp->Hp
 | []=>[]
 | (i,p)::r=>match anyb a i with
  | true=>(i,p)::rst2 a r
  | false=>rst2 a r
theorem Zxo(a:List Nat):∀H:Hp,rst2 a H=rst a H
 | []=>rfl
 | (i,p)::r=>by unfold rst2 rst;rw [<-Zqo];cases anyb a i<;>simp [Zxo a r]
class AgI (H0 H:Hp) (ks:List Nat):Prop where h:Agr H0 H ks
instance:AgI H0 H []:=⟨aA⟩
instance {k:Nat} {ks:List Nat} {p:Pc} [h1:Som (lk2 H k) p] [h2:Som (lk2 H0 k) p] [h:AgI H0 H ks]:AgI H0 H (k::ks):=⟨⟨h1.l.trans h2.l.symm,h.h⟩⟩
class StI (P:Program) (N:Nat) (sc:Nat->Prop) (M:Nat->Prop) (op:Go.Op) (env:Qj) (H:Hp) (v:outParam Value) (s:outParam Prop):Prop where
 h:s->∀{d:Option Tmp} {ty:TypeId} {pos:String} {af:Array Edge} {g:Option (Nat×Bool)},Stb P N sc M ⟨d,op,ty,pos,af,g⟩ env H v
section
variable {op:Go.Op} {v:Value} {s:Prop} {k b:Nat} {t:TypeId} {l:List Value} {ks:List Nat}
instance [h:DI P N sc op env H v s]:StI P N sc (λ_=>False) op env H v s:=⟨λhs=>Pq (h.h hs)⟩
instance [hb:BxI H b k t l] [h:DI P N sc op env (drp2 k H) v s]:StI P N sc (λx=>x=b) op env H v s:=⟨λhs=>st1 k hb.h (by rw [<-Zy9];exact h.h hs)⟩
instance [ha:AgI H0 H ks] [h:DI P N sc op env (rst2 ks H) v s]:StI P N sc (Off H0 ks) op env H v s:=⟨λhs=>Ft (by rw [<-Zxo];exact h.h hs) ha.h⟩
end
class MI (M:Nat->Prop) (b:Nat):Prop where h:M b
class MS (N:Nat) (sc:Nat->Prop) (M:Nat->Prop) (env:Qj) (H:Hp) (b:Nat):Prop where h:∀a w,Sat N sc env H a w->M b
instance {b:Nat} : MS N sc (λ_=>True) env H b:=⟨λ_ _ _=>trivial⟩
instance {b:Nat} : MS N sc (λx=>x=b) env H b:=⟨λ_ _ _=>rfl⟩
instance {b:Nat} [h:MI M b]:MS N sc M env H b:=⟨λ_ _ _=>h.h⟩
@[reducible] def nin (ks:List Nat) (i:Nat):Bool:=match anyb ks i with
 | true=>false
 | false=>true
instance (priority:=low) {b i:Nat} {t:TypeId} {l:List Value} {ks:List Nat} [hb:BxI H b i t l] [hn:TB (nin ks i)] [ha:AgI H0 H ks]:MS N sc (Off H0 ks) env H b:=⟨λa w hs=>λk hk p hp hf=>by
 rw [<-ha.h.mem k hk]at hp;have hne:i≠k:=λe=>by
  subst e;have h1:=hn.h;unfold nin at h1;rw [Zqo]at h1;cases h2:ks.any (Nat.beq i)with
  | true=>rw [h2]at h1;cases h1
  | false=>
   have:=oF.1 h2 i hk;simp at this
 exact hs.sep i k _ p hne hb.h hp rfl b rfl hf⟩
section
variable {d i j k b e n:Nat} {vs ws l l':List Value} {w0:World} {M0:Nat->Prop} {ty t tb:TypeId} {pos:String} {af:Array Edge} {g:Option (Nat×Bool)} {x y:Operand} {v z:Value} {bb:Bool}
variable {ll:List Oper} {F:Qj->Hp->Prop} {rest:List (Nat×Nat)} {op:Go.Op} {G:Type} {φ:G->Prop} {genv:G->Qj} {gH:G->Hp} {dd:Option Tmp} {q r s:Prop}
def t_stm [hx:Som (ev2 env x) (.pointer (some ⟨b,j,none⟩))] [hy:Som (ev2 env y) v] [hB:BxI H b i tb l] [hi:TB (neb i 0)] [hv:CeI P N sc env H v vs] [hk:Siz P t k] [hl:TB (lenq vs k)] [hf:TB (fits l j vs)] [hr:LEv (lay2 l j vs) l']
  [h0:Som (lk2 H 0) (Zt w0 M0)] [hw:Hw w0 sc] [hM:MS N sc M env H b]:T P N sc M ⟨none,.store t x y,ty,pos,af,g⟩ env H (G:=Unit) (λ_=>True) (λ_=>env) (λ_=>(i,box b tb l'.toArray)::H):=λa w hs=>Ycu (hM.h a w hs) a w hs
def Nx(n:Nat){ks:List Nat}[hz:Zer P t z][hc:ClI z l][h0:Som (lk2 H 0) (Zt w0 M0)][hN:TB (ltb d N)][hw:Hw w0 sc][ha:AgI H0 H ks] :
  T P N sc (Off H0 ks) ⟨some d,.alloc t,ty,pos,af,g⟩ env H (G:=Nat) (λb=>MI (Off H0 ks) b) (λb=>(d,.pointer (some ⟨b,0,none⟩))::env) (λb=>(n,box b t l.toArray)::H):=λa w hs K Q f=>
 Ycx (i:=n) rfl rfl (Oo hN.h) hz.h hc.h h0.l hw.h ha.h a w hs K Q λg c m h=>f g c m ⟨h⟩
def Qk(a:T P N sc M ⟨dd,op,ty,pos,af,none⟩ env H φ genv gH)[ho:Som (nth ll i) ⟨dd,op,ty,pos,af,none⟩](h:∀g,φ g->LD P N sc M ll.toArray F rest (genv g) (gH g)):LD P N sc M ll.toArray F ((i,1)::rest) env H:=Bm ho.n a h
def Iy{ts:List Nat}{a:Array Bool}(c:T P N sc M ⟨dd,op,ty,pos,af,none⟩ env H φ genv gH)[ho:Som (nth ll i) ⟨dd,op,ty,pos,af,none⟩](h:∀g,φ g->A P N sc M ll.toArray ts Q n (a.setIfInBounds i true) (genv g) (gH g)):Ze6 P N sc M ll.toArray ts Q n a env H i:=Zaf ho.n rfl c h
instance [ho:Som (nth ll i) ⟨some d,op,ty,pos,af,none⟩] [h1:StI P N sc M op env H v s] [h2:TB (ltb d N)] [h:Adv n (LD P N sc M ll.toArray F rest ((d,v)::env) H) q] [h3:AndO s q r]:Adv (n+1) (LD P N sc M ll.toArray F ((i,0)::rest) env H) r:=
 ⟨λk=>Qb ho.n rfl (h1.h (h3.h k).1) (h.h (h3.h k).2) rfl (Oo h2.h)⟩
instance [ho:Som (nth ll i) ⟨some d,op,ty,pos,af,some (j,bb)⟩] [hj:Som (dsto ll j) e] [he:Som (lk2 env e) (.bool bb)] [hN:TB (ltb e N)] [h1:StI P N sc M op env H v s] [h2:TB (ltb d N)] [h:Adv n (LD P N sc M ll.toArray F rest ((d,v)::env) H) q] [h3:AndO s q r]:Adv (n+1) (LD P N sc M ll.toArray F ((i,0)::rest) env H) r:=
 ⟨λk=>r0g (h1.h (h3.h k).1) ho.n rfl (Dr hj) he.l rfl (h.h (h3.h k).2) (Oo hN.h) (Oo h2.h)⟩
instance [ho:Som (nth ll i) ⟨some d,op,ty,pos,af,some (j,true)⟩] [hj:Som (dsto ll j) e] [he:Som (lk2 env e) (.bool false)] [hN:TB (ltb e N)] [h2:TB (ltb d N)] [h:Adv n (LD P N sc M ll.toArray F rest ((d,undef)::env) H) q]:Adv (n+1) (LD P N sc M ll.toArray F ((i,2)::rest) env H) q:=
 ⟨λk=>r2 ho.n rfl (Dr hj) he.l rfl (Oo hN.h) rfl (Oo h2.h) (h.h k)⟩
instance [ho:Som (nth ll i) ⟨some d,op,ty,pos,af,some (j,false)⟩] [hj:Som (dsto ll j) e] [he:Som (lk2 env e) (.bool true)] [hN:TB (ltb e N)] [h2:TB (ltb d N)] [h:Adv n (LD P N sc M ll.toArray F rest ((d,undef)::env) H) q]:Adv (n+1) (LD P N sc M ll.toArray F ((i,2)::rest) env H) q:=
 ⟨λk=>r2 ho.n rfl (Dr hj) he.l rfl (Oo hN.h) rfl (Oo h2.h) (h.h k)⟩
instance [ho:Som (nth ll i) ⟨none,.store t x y,ty,pos,af,none⟩] [hx:Som (ev2 env x) (.pointer (some ⟨b,j,none⟩))] [hy:Som (ev2 env y) v] [hB:BxI H b k tb l] [hi:TB (neb k 0)] [hv:CeI P N sc env H v vs] [hk:Siz P t e] [hl:TB (lenq vs e)] [hf:TB (fits l j vs)] [hr:LEv (lay2 l j vs) l']
  [h0:Som (lk2 H 0) (Zt w0 M0)] [hw:Hw w0 sc] [h:Adv n (LD P N sc M ll.toArray F rest env ((k,box b tb l'.toArray)::H)) q]:Adv (n+1) (LD P N sc M ll.toArray F ((i,3)::rest) env H) q:=
 ⟨λq=>r3' ho.n (Ycu aA) λ_ _=>h.h q⟩
instance [ho:Som (nth ll i) ⟨none,.store t x y,ty,pos,af,none⟩] [hx:Som (ev2 env x) (.pointer (some ⟨b,j,none⟩))] [hy:Som (ev2 env y) v] [hB:BxI H b k tb l] [hi:TB (neb k 0)] [hM:MS N sc M env H b] [hv:CeI P N sc env H v vs] [hk:Siz P t e] [hl:TB (lenq vs e)] [hf:TB (fits l j vs)] [hr:LEv (lay2 l j vs) l']
  [h0:Som (lk2 H 0) (Zt w0 M0)] [hw:Hw w0 sc] [h:Adv n (LD P N sc M ll.toArray F rest env ((k,box b tb l'.toArray)::H)) q]:Adv (n+1) (LD P N sc M ll.toArray F ((i,1)::rest) env H) q:=
 ⟨λq=>Bm ho.n t_stm λ_ _=>h.h q⟩
instance [ho:Som (nth ll i) ⟨some d,op,ty,pos,af,none⟩] [h1:DI P N sc op env H v s] [h2:TB (ltb d N)] [h:Adv n (LD P N sc M ll.toArray F rest ((d,v)::env) H) q] [h3:AndO s q r]:Adv (n+1) (LD P N sc M ll.toArray F ((i,1)::rest) env H) r:=
 ⟨λk=>Bm ho.n (Ak (h1.h (h3.h k).1) rfl (Oo h2.h)) λ_ _=>h.h (h3.h k).2⟩
instance [ho:Som (nth ll i) ⟨some d,op,ty,pos,af,none⟩] [h1:DI P N sc op env H v s] [h2:TB (ltb d N)] [h:Adv n (LD P N sc M ll.toArray F rest ((d,v)::env) H) q] [h3:AndO s q r]:Adv (n+1) (LD P N sc M ll.toArray F ((i,3)::rest) env H) r:=
 ⟨λk=>r3' ho.n (Ak (h1.h (h3.h k).1) rfl (Oo h2.h)) λ_ _=>h.h (h3.h k).2⟩
instance [h:Adv n (F env H) q] {ops:Array Oper} : Adv (n+1) (LD P N sc M ops F [] env H) q:=⟨λk=>r_fin (h.h k)⟩
theorem Pd {id:Nat} {l:List Oper} (M:Nat->Prop) (a:List (Nat×Nat)) (h:LD P N sc M l.toArray (X N sc .normal Q) a env H) (c:P.follows .mixedOrders=true:=by kernel_rfl)
  (f:(Region.noSelect l.toArray && Nat.beq a.length l.length && Fe l.toArray (Bo a) a (Array.replicate l.length false) && (Region.ready .any l.toArray (Fx a (Array.replicate l.length false))).isEmpty)=true:=by kernel_rfl) :
  E P N sc (.region id l.toArray true) Q env H:=e_dreg M a c f h
end
end Go.Sky

