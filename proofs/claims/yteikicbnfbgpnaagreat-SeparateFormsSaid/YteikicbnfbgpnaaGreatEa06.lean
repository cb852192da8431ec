/- Rules, arithmetic and contracts: part 7. No conditions but those that each theorem names. -/
import Derived.Test.YteikicbnfbgpnaaGreatEa05
set_option linter.all false
namespace Go.Sky
variable{F K:Nat}{xs a p t u b q:List Int}{z:R2}{k:Int}
def vch(F:Nat)(xs:List Int)(x:Rat):Int:=vat ((chn F xs).map Zb) x
def cvc_v(h:0<z.2):cvc F xs z=vch F xs (qv z):=Ymf h
def Sqn(P:R2->R2->Prop)(hi:Rat):Rat->List (R2×R2)->Prop
 | d,[]=>d<=hi
 | d,c::r=>d<=qv c.1/\qv c.1<qv c.2/\P c.1 c.2/\Sqn P hi (qv c.2) r
theorem Sqn.le{P:R2->R2->Prop}{hi:Rat} : ∀{lo:Rat} {l:List (R2×R2)},Sqn P hi lo l->lo<=hi
 | lo,[],h=>h
 | lo,c::r,h=>by have:=Sqn.le h.2.2.2;have:=h.1;have:=h.2.1;grind
theorem Sqn.low{P:R2->R2->Prop}{hi:Rat}{lo d:Rat}(e:d<=lo):∀{l:List (R2×R2)},Sqn P hi lo l->Sqn P hi d l
 | [],h=>by have h:lo<=hi:=h;show d<=hi;grind
 | c::r,h=>⟨by have:=h.1;grind,h.2⟩
def Sqn.app{P:R2->R2->Prop}{d hi:Rat}{g:List (R2×R2)}(e:Sqn P hi d g):∀{lo:Rat} {f:List (R2×R2)},Sqn P d lo f->Sqn P hi lo (f ++ g)
 | lo,[],h=>e.low h
 | lo,c::r,h=>⟨h.1,h.2.1,h.2.2.1,Sqn.app e h.2.2.2⟩
theorem Zny{a:R2}(j:0<a.2)(h:a.1.natAbs<=K):-(K:Rat)<=qv a/\qv a<=(K:Rat):=by
 obtain⟨g,i⟩:=Yhy h;have l:(1:Rat)<=(a.2:Rat):=by exact_mod_cast (show 1<=a.2 by omega)
 have c:(0:Rat)<=(K:Rat):=Gn (Nat.zero_le _);have hi:=Rat.inv_pos.2 (show 0<(a.2:Rat) by grind);have d:(a.2:Rat)*(a.2:Rat)⁻¹=1:=O4;unfold qv;rw [Rat.div_def];have t1:=Rat.mul_nonneg (a:=(a.2:Rat)⁻¹) (b:=(K:Rat)*a.2-a.1) O4 (by have:=Rat.mul_nonneg (a:=(K:Rat)) (b:=(a.2:Rat)-1) c O4;grind);have t2:=Rat.mul_nonneg (a:=(a.2:Rat)⁻¹) (b:=(K:Rat)*a.2+a.1) O4 (by have:=Rat.mul_nonneg (a:=(K:Rat)) (b:=(a.2:Rat)-1) c O4;grind);have e:(a.2:Rat)⁻¹*((K:Rat)*a.2-a.1)=(K:Rat)*(a.2*(a.2:Rat)⁻¹)-a.1*(a.2:Rat)⁻¹:=O4;have f:(a.2:Rat)⁻¹*((K:Rat)*a.2+a.1)=(K:Rat)*(a.2*(a.2:Rat)⁻¹)+a.1*(a.2:Rat)⁻¹:=O4;rw [e,d]at t1;rw [f,d]at t2;constructor<;>grind
theorem Zbt{a:R2}{n:Nat}(c:0<a.2)(h:bl a.1.natAbs<=n)(i:bl a.2.natAbs<=n)(l:n<=65536) :
  ¬La a.1 a.2/\0<(slow a).2/\bl (slow a).1.natAbs<=n/\bl (slow a).2.natAbs<=n/\qv (slow a)=qv a:=by
 obtain⟨f1,f2,f3,f4,f5,f6⟩:=Zol (x:=a.1) (y:=a.2) (X:=a.1) (Y:=a.2) c c rfl h i l;refine⟨f1,f3,f4,f5,?_⟩;have r1:=Hx c;have r2:=Hx f3;have j:((Gt a.1 a.2:Int):Rat)*(a.2:Rat)=(a.1:Rat)*((Hu a.1 a.2:Int):Rat):=by exact_mod_cast f6
 show((Gt a.1 a.2:Int):Rat)/((Hu a.1 a.2:Int):Rat)=(a.1:Rat)/(a.2:Rat);generalize ((Gt a.1 a.2:Int):Rat)=N at *;generalize ((Hu a.1 a.2:Int):Rat)=D at *;generalize (a.1:Rat)=x at *;generalize (a.2:Rat)=y at *;have:N/D*(D*y)=x/y*(D*y):=by have d:N/D*(D*y)=N*y:=O4;have e:x/y*(D*y)=x*D:=O4;rw [d,e,j]
 have m:=Rat.mul_pos r2 r1;have f:N/D=N/D*(D*y)*(D*y)⁻¹:=O4;have g:x/y=x/y*(D*y)*(D*y)⁻¹:=O4;rw [f,this,<-g]
theorem sep_of  {A e:Nat} (x:Tr xs) (f:xs≠[]) (n:Bs F xs) (o:0<K) (m:0<A) (y:∀i,(cf (sqf F xs) i).natAbs<=A) (B:∀i,(cf (Xe (sqf F xs)) i).natAbs<=A)
  (hs:2<=(sqf F xs).length->Zw9 K A (sqf F xs).length e=true) (u v:Rat) (j:-(K:Rat)<=u) (c:u<=v) (l:v<=(K:Rat)) (w:v-u<=1/((2^e:Nat):Rat)):vch F xs u-vch F xs v<=1:=by
 by_cases d:2<=(sqf F xs).length
 .have h:=Ymr x f n o m rfl d y B (hs d) j c l w;show vat _ u-vat _ v<=1;rw [h];unfold crs;split<;>decide
 .have D:=Nn (sqf F xs);have s:Xe (sqf F xs)=[]:=List.eq_nil_of_length_eq_zero O;have r:chn F xs=[sqf F xs]:=by unfold chn;rw [s,Yap,Bf]
  unfold vch vat;rw [r];have r1:=Zgu (([Zb (sqf F xs)]).map λg=>Eb (g u));have r2:=Zgu (([Zb (sqf F xs)]).map λg=>Eb (g v));simp only [List.map_cons,List.map_nil,List.length_cons,List.length_nil]at r1 r2 ⊢;omega
theorem Sqn.mem{P:R2->R2->Prop}{hi:Rat} : ∀{lo:Rat} {l:List (R2×R2)},Sqn P hi lo l->∀c∈l,P c.1 c.2
 | _,[],_,c,e=>by cases e
 | lo,d::r,h,c,e=>by
  rcases List.mem_cons.1 e with rfl|e
  .exact h.2.2.1
  .exact Sqn.mem h.2.2.2 c e
theorem en_bl{Q d B:Nat}(h:En K Q d z)(g:0<Q)(s:Q*2^d<2^B)(v:K*(Q*2^d)<2^B):bl z.1.natAbs<=B/\bl z.2.natAbs<=B:=by
 obtain⟨j,i,w,y⟩:=h;have c:0<Q*2^d:=Nat.mul_pos g (Nat.pow_pos O3);have f:z.2.natAbs<=Q*2^d:=by have:=Int.natAbs_dvd_natAbs.2 i;rw [Int.natAbs_natCast]at this;exact Nat.le_of_dvd c this
 have l:z.1.natAbs<=K*z.2.natAbs:=by
  have r:=Hx j;have e:(z.1:Rat)=qv z*z.2:=by unfold qv;grind
  have t1:=Rat.mul_nonneg (a:=(K:Rat)-qv z) (b:=(z.2:Rat)) O4 O4;have t2:=Rat.mul_nonneg (a:=(K:Rat)+qv z) (b:=(z.2:Rat)) O4 O4;have x:((K*z.2.natAbs:Nat):Int)=(K:Int)*z.2:=by push_cast;rw [Int.natAbs_of_nonneg O]
  have n:((z.1:Int):Rat)<=(((K:Int)*z.2:Int):Rat):=by push_cast;grind
  have o:((-((K:Int)*z.2):Int):Rat)<=((z.1:Int):Rat):=by push_cast;grind
  have D:z.1<=(K:Int)*z.2:=by exact_mod_cast n
  have G:-((K:Int)*z.2)<=z.1:=by exact_mod_cast o
  omega
 have m:K*z.2.natAbs<=K*(Q*2^d):=Nat.mul_le_mul_left _ f;exact⟨Zcf O,Zcf O⟩
theorem Ygu{n e w Q B:Nat}(h:En (2^n) Q (e+w) z)(o:0<Q)(g:Q<2^(2*n))(r:3*n+1+(e+w)<=B):bl z.1.natAbs<=B/\bl z.2.natAbs<=B:=by
 have c:∀m,m<=B->2^m<=2^B:=λm h=>Nat.pow_le_pow_right O3 h;have f:0<2^(e+w):=Nat.pow_pos O3;have d:Q*2^(e+w)<2^(2*n)*2^(e+w):=Nat.mul_lt_mul_of_pos_right g f;have j:2^n*(Q*2^(e+w))<2^n*(2^(2*n)*2^(e+w)):=Nat.mul_lt_mul_of_pos_left d (Nat.pow_pos O3);have i:2^(2*n)*2^(e+w)=2^(2*n+(e+w)):=(Nat.pow_add _ _ _).symm;have l:2^n*(2^(2*n)*2^(e+w))=2^(n+(2*n+(e+w))):=by rw [i,<-Nat.pow_add]
 rw [i]at d;rw [l]at j;exact en_bl h o (Nat.lt_of_lt_of_le d (c _ O)) (Nat.lt_of_lt_of_le j (c _ O))
theorem Ed.const{g:List Int}(h:Ed g a)(o:Tr g)(m:Tr a)(l:a≠[])(w:g.length=a.length):∃k c:Int,k≠0/\c≠0/\∀x:Rat,(k:Rat)*Zb a x=(c:Rat)*Zb g x:=by
 obtain⟨k,s,i,h⟩:=h;obtain⟨v,f,j⟩:=Zvn i o m l h;have e:=List.length_pos_iff.2 f
 match hs:tzl s,e,j with
 | [c],_,_=>
  have n:c≠0:=by have:=(Xx s).mem f;rw [hs]at this;exact this
  refine⟨k,c,i,n,λx=>?_⟩;rw [h x,<-Nr s,hs,Pf]
 | c::d::r,_,h9=>simp at h9;omega
theorem Gu(p:List Int)(c:Int)(x:Rat):Zb (Zq p c) x=(c:Rat)*Zb p x:=by rw [<-Zl];exact Oi x _ _ λi=>by rw [Yx,Xz,Int.mul_comm]
theorem Zmi{c:Int}(h:Tr p)(f:p≠[])(g:c≠0):Zq p c≠[]:=λe=>by have d:=Yx p c (p.length-1);rw [e,Zbg]at d;exact Int.mul_ne_zero (h.mem f) g d.symm
theorem Ed.dv{g:List Int}(h:Ed g a):Dv g a:=by obtain⟨k,s,d,h⟩:=h;refine⟨k,s,d,λt=>?_⟩;have:=Ou (p:=a.map λc=>k*c) (q:=Qf s g) (λx=>by rw [Zl,Yg];exact h x) t;rw [Xz,Ix]at this;exact this
theorem ed_cop{w s:List Int}(G:k≠0)(m:Tr t)(I:Tr w)(t0:t≠[])(D:∀d,Tr d->Ed d t->Ed d w->d.length<=1)(h:∀x:Rat,(k:Rat)*(Zb u x*Zb w x)=Zb s x*Zb t x):Ed t u:=by
 obtain⟨g,A,B,f,j,n,y⟩:=Zlb w.length t w m I (Nat.le_refl _);have H:=D g f j n;have i:=(j.len f m t0).1
 match hgg:g,H,i with
 | [c],_,_=>
  have e:c≠0:=by have:=f.mem O7;exact this
  refine⟨k*c,Nt ((Qf A u).map λa=>k*a) (Qf B s),Int.mul_ne_zero G e,λx=>?_⟩;rw [Xh,Zl,Yg,Yg];have l:=y x;rw [Pf]at l;have o:=h x;push_cast;rw [show(k:Rat)*c*Zb u x=k*(Zb u x*(c:Rat)) by grind,l];have v:(k:Rat)*(Zb u x*(Zb A x*Zb t x+Zb B x*Zb w x))=k*Zb A x*Zb u x*Zb t x+Zb B x*(k*(Zb u x*Zb w x)):=O4;rw [v,o];grind
 | c::d::r,h9,_=>simp at h9
def Pp(F:Nat)(p:List Int):List Int:=Mb F (Xg p) (Xe (Xg p))
def Fu(F:Nat)(p:List Int):Prop:=eok F (gA (Xg p) (Xe (Xg p))) (gB (Xg p) (Xe (Xg p)))
theorem Qu(h:Tr p)(i:p≠[])(g:Fu F p):Tr (Pp F p)/\Pp F p≠[]/\Xg (Pp F p)=Pp F p/\Xg p=Qf (sqf F p) (Pp F p)/\(sqf F p).length+(Pp F p).length=p.length+1:=by obtain⟨f1,f2,f3,f4,f5,f6⟩:=Oh (F:=F) h i g;have c:Tr (Xg p):=Ot (Xc h);have d:Tr (Xe (Xg p)):=Mj c;have f:=Zem (F:=F) c d;have j:=Ol f2 f f3 f5;rw [<-f4,Pi h]at j;have l:=List.length_pos_iff.2 f3;have m:=List.length_pos_iff.2 f5;refine⟨f,f5,Zu3 f (Zjt c d f5) (Bm (Zsx F (Ziy c d) (Zix c d)) (λe=>f5 (by unfold Mb;rw [e];rfl))),f4,?_⟩;unfold Pp;omega
theorem Ykc{h:List Int}(i:Tr h)(g:h≠[]){m:Int}(e:∀x:Rat,(k:Rat)*(Zb a x*Zb h x)=(m:Rat)*(Zb b x*Zb h x))(x:Rat):(k:Rat)*Zb a x=(m:Rat)*Zb b x:=by
 have d:=Fq (v:=h) (f:=Nt (a.map λc=>k*c) (b.map λc=>(-m)*c)) (by rw [Ao i];exact g) (λx=>by rw [Xh,Zl,Zl];have:=e x;push_cast;grind) x
 rw [Xh,Zl,Zl]at d;push_cast at d;grind
theorem Zxy(R:Tr p)(h0:p≠[])(l:Fu F p)(e:Fu F (Pp F p)):Ed (sqf F (Pp F p)) (sqf F p):=by
 obtain⟨n,Y,f,a4,a5⟩:=Qu R h0 l;obtain⟨D,B,b3,Z,b5⟩:=Qu n Y e;obtain⟨-,u2,u3,-,-,-⟩:=Oh (F:=F) R h0 l;obtain⟨-,t2,t3,-,-,-⟩:=Oh (F:=F) n Y e;have ht:Tr (Xg p):=Ot (Xc R);have o:Ed (Pp F p) (Xe (Xg p)):=(Zcs ht (Mj ht) l).2.ed;have e2:Ed (Pp F (Pp F p)) (Xe (Pp F p)):=by have:=(Zcs (F:=F) (p:=Xg (Pp F p)) (q:=Xe (Xg (Pp F p))) (by rw [f];exact n) (Mj (by rw [f];exact n)) e).2.ed;have h9:Pp F (Pp F p)=Mb F (Xg (Pp F p)) (Xe (Xg (Pp F p))):=rfl;rw [<-h9,f]at this;exact this
 have N:∀d,Tr d->Ed d (Pp F p)->Ed d (Xe (Pp F p))->Ed d (Pp F (Pp F p)):=λd H i r=>by unfold Pp at *;have:=Zjr (F:=F) (d:=d) (p:=Xg (Mb F (Xg p) (Xe (Xg p)))) (q:=Xe (Xg (Mb F (Xg p) (Xe (Xg p))))) (by rw [f];exact n) (Mj (by rw [f];exact n)) (by rw [f];exact i) (by rw [f];exact r);exact this
 rw [f]at Z;generalize hg:Pp F p=g at *;generalize hh:Pp F g=h at *;generalize hu:sqf F p=u at *;generalize a0:sqf F g=t at *;obtain⟨k,s,hk,P⟩:=o;obtain⟨m,w,hm,Q⟩:=e2;have hP:∀x:Rat,Zb (Xg p) x=Zb (lmul u g) x:=λx=>by rw [a4,Yg,Zt]
 have hG:∀x:Rat,Zb g x=Zb (lmul t h) x:=λx=>by
  have:Zb g x=Zb (Qf t h) x:=by rw [<-Z]
  rw [this,Yg,Zt]
 have I:∀x:Rat,Zb (Xe (Xg p)) x=Zb (ld u) x*Zb g x+Zb u x*Zb (ld g) x:=λx=>by rw [Kn,Dj hP,Ci]
 have v:∀x:Rat,(m:Rat)*Zb (ld g) x=Zb w x*Zb h x:=λx=>by rw [<-Kn];exact Q x
 have V:∀x:Rat,(k:Rat)*(Zb (Qf u w) x*Zb h x)=(m:Rat)*(Zb (Qf (Nt s ((ld u).map λc=>(-k)*c)) t) x*Zb h x):=λx=>by rw [Yg,Yg,Xh,Zl];have i:=P x;have r:=I x;have h3:=v x;have h4:=hG x;rw [Zt]at h4;rw [r]at i;have:(k:Rat)*(Zb u x*Zb w x*Zb h x)=Zb u x*k*(Zb w x*Zb h x):=O4;rw [this,<-h3];push_cast;have:Zb u x*(k:Rat)*(m*Zb (ld g) x)=m*(k*(Zb (ld u) x*Zb g x+Zb u x*Zb (ld g) x)-k*Zb (ld u) x*Zb g x):=O4;rw [this,i,h4];grind
 have y:=Ykc D B V;refine ed_cop (s:=(Qf (Nt s ((ld u).map λc=>(-k)*c)) [m])) hk t2 (w:=tzl w) (Xx w) t3 (λd H i r=>?_) (λx=>?_)
 .have G:Ed d w:=r.congr λx=>Nr w x;have M:Ed (Qf d h) h:=N _ (Xv _ _) (by
   obtain⟨S,W,j,o⟩:=i;exact⟨S,W,j,λx=>by rw [hG x,Zt,Yg];have:=o x;grind⟩) (by
   obtain⟨S,W,j,o⟩:=G;exact⟨S*m,W,Int.mul_ne_zero j hm,λx=>by rw [Kn,Yg];have:=o x;have:=v x;push_cast;grind⟩)
  have d0:=(i.len H t2 t3).1;have hl:=Ol H D d0 B;have:=(M.len (Xv _ _) D B).2;have l2:=List.length_pos_iff.2 B;omega
 .rw [Nr,Yg,Pf];have:=y x;rw [Yg,Yg]at this;rw [this];grind
theorem Yan(o:Tr u)(r:u≠[])(d:Tr t)(t0:t≠[])(m:Xg t=t)(h:Ed t u):pdv u t/\u=Qf (Kr u t) t/\Tr (Kr u t)/\Kr u t≠[]:=by
 have j:Yo t=1:=by have:=Zaj d t0;rwa [m]at this
 obtain⟨k,s,l,h⟩:=h.dv;obtain⟨q,n⟩:=gauss j _ k s rfl l h;have c:u=Qf (tzl q) t:=o.ext (Xv _ _) λi=>by rw [Ix,n,Yeg]
 obtain⟨f,g⟩:=Zn7 (Xx q) d t0;rw [<-c]at f g;rw [g];exact⟨f,c,Xx q,λe=>r (by rw [c,e,Gx])⟩
theorem Zkg(d:Tr p)(j:p≠[])(c:Fu F p)(m:2<=p.length):(Pp F p).length<p.length:=by obtain⟨h,l,-⟩:=Qu d j c;have f:Tr (Xg p):=Ot (Xc d);have i:Ed (Pp F p) (Xe (Xg p)):=(Zcs f (Mj f) c).2.ed;have g:=Nn (Xg p);have n:=Pi d;have:=(i.len h (Mj f) (λe=>by rw [e]at g;simp at g;omega)).2;omega
theorem Ykx(l:Tr p)(n:Xg p=p)(d:p.length=1):p=[1]:=by
 have f:p≠[]:=λe=>by rw [e]at d;simp at d
 have h:=Zaj l f;have j:0<cf (Xg p) ((Xg p).length-1):=Bm (Xc l) (λe=>f (List.eq_nil_of_length_eq_zero (by rw [<-Zw,e];rfl)));rw [n]at h j
 match p,d with
 | [c],_=>
  have m:0<c:=j;have g:c∣Yo [c]:=Fe λi=>by
   match i with
   | 0=>exact Int.dvd_refl c
   | i+1=>rw [Yq O7];exact Int.dvd_zero c
  rw [h]at g;have:=Int.le_of_dvd O3 g;rw [show c=1 by omega]
def Dp(p q:List Int):Prop:=Tr q/\q≠[]/\Xg q=q/\∃a,Tr a/\Xg p=Qf a q
theorem Dp.start(c:Tr p)(d:p≠[]):Dp p (Xg p):=
 ⟨Ot (Xc c),Zjv c d,Zu3 (Ot (Xc c)) (Zaj c d) (Bm (Xc c) (λe=>d (List.eq_nil_of_length_eq_zero (by rw [<-Zw,e];rfl)))),[1],.inr (show cf [1] 0≠0 by decide),by refine(Ot (Xc c)).ext (Xv _ _) λi=>?_;rw [Ix,Zr0];rfl⟩
theorem Dp.sz{n:Nat}(g:Tr p)(o:p≠[])(hs:Sz n p)(x:p.length<=13)(h:Dp p q):Sz (n+15) q/\q.length<=p.length:=by obtain⟨j,r,w,a,l,e⟩:=h;have s:fcs 0 13<=2^15*2^15:=O6;have d:=Pi g;have c:=Zjv g o;have v:Tr (Xg p):=Ot (Xc g);have i:a≠[]:=λm=>c (by rw [e,m,Gx]);refine⟨Er (L:=13) (R:=24) j l (Zuc hs) c v O O3 s (by rw [Cw];exact e),?_⟩;have f:=Ol l j i r;rw [<-e,d]at f;have:=List.length_pos_iff.2 i;omega
theorem Dp.ok{n:Nat}(d:Tr p)(c:p≠[])(hs:Sz n p)(i:n<=220)(g:p.length<=11)(f:p.length<=F+1)(h:Dp p q):Bs F q/\Fu F q:=by obtain⟨e,j⟩:=h.sz d c hs O;have:=(chG F h.1 h.2.1 e O O O).1;exact⟨this,this.1.2.2.1⟩
theorem Dp.next(h:Dp p q)(c:Fu F q):Dp p (Pp F q):=by obtain⟨l,m,n,a,r,e⟩:=h;obtain⟨f,g,j,d,o⟩:=Qu l m c;refine⟨f,g,j,Qf a (sqf F q),Xv _ _,?_⟩;rw [n]at d;refine e.trans ((congrArg (Qf a) d).trans ?_);refine(Xv _ _).ext (Xv _ _) λi=>Ou (λx=>?_) i;rw [Yg,Yg,Yg,Yg];grind
def Dy(F:Nat):Nat->List Int->List Int
 | 0,p=>sqf F p
 | f+1,p=>if(sqf F p).length=1 then sqf F p else Qf (Kr (sqf F p) (sqf F (Pp F p))) (Dy F f (Pp F (Pp F p)))
def Zr3(F:Nat):Nat->List Int->List Int->List Int
 | 0,c,_=>c
 | f+1,c,q=>if(sqf F q).length=1 then c else if(sqf F (Pp F q)).length=1 then Qf c (Kr (sqf F q) (sqf F (Pp F q)))else Zr3 F f (Qf c (Kr (sqf F q) (sqf F (Pp F q)))) (Pp F (Pp F q))
theorem Zep(e:Tr q)(d:q≠[])(c:Fu F q)(h:(sqf F q).length=1):sqf F q=[1]/\q.length=1/\(Pp F q).length=1:=by
 obtain⟨f1,f2,f3,f4,f5,f6⟩:=Oh (F:=F) e d c;obtain⟨i,j,l,m,n⟩:=Qu e d c;have o:=List.length_pos_iff.2 d;have g:q.length=1:=by
  rcases Nat.lt_or_ge q.length 2 with f|f
  .omega
  .have:=Zkg e d c f;omega
 exact⟨Ykx f2 f6 h,g,O⟩
theorem Zn5(c:Tr p):Qf p [1]=p:=by refine(Xv _ _).ext c λi=>Ou (λx=>?_) i;rw [Yg,Pf];push_cast;grind
theorem Yer(e:Tr q)(d:q≠[])(c:Fu F q)(h:q.length=1):∀f,Dy F f q=[1]:=λf=>by
 obtain⟨f1,f2,f3,f4,f5,f6⟩:=Oh (F:=F) e d c;obtain⟨i,g,j,l,m⟩:=Qu e d c;have n:=List.length_pos_iff.2 f3;have o:=List.length_pos_iff.2 g;have hs:(sqf F q).length=1:=O;have:=(Zep e d c hs).1;cases f with
 | zero=>exact this
 | succ f=>unfold Dy;rw [if_pos hs];exact this
theorem Zn4{p:List Int}{f:Nat}(e:Tr q)(d:q≠[])(c:Fu F q):Tr (Dy F f q):=by
 obtain⟨f1,f2,f3,f4,f5,f6⟩:=Oh (F:=F) e d c;cases f with
 | zero=>exact f2
 | succ f=>unfold Dy;split;exact f2;exact Xv _ _
theorem Ykw{n:Nat}(B:Tr p)(r:p≠[])(hs:Sz n p)(y:n<=220)(v:p.length<=11)(s:p.length<=F+1):∀(f:Nat) (g q:List Int),Tr g->Dp p q->q.length<=f->Zr3 F f g q=Qf g (Dy F f q):=by
 intro f
 induction f with
 | zero=>intro g q _ d w;have:=List.length_pos_iff.2 d.2.1;omega
 | succ f I=>
  intro g q H d w;have e:=(d.ok B r hs y v s).2;have j:=d.next e;have c:=(j.ok B r hs y v s).2;have h:=j.next c;have m:=(h.ok B r hs y v s).2;unfold Zr3 Dy;by_cases l:(sqf F q).length=1
  .rw [if_pos l,if_pos l,(Zep d.1 d.2.1 e l).1,Zn5 H]
  .rw [if_neg l,if_neg l];have M:2<=q.length:=by obtain⟨f1,f2,f3,f4,f5,f6⟩:=Oh (F:=F) d.1 d.2.1 e;obtain⟨Q,D,R,S,V⟩:=Qu d.1 d.2.1 e;have Z:=List.length_pos_iff.2 f3;have l2:=List.length_pos_iff.2 D;omega
   have N:=Zkg d.1 d.2.1 e M;obtain⟨-,-,-,-,Y⟩:=Qu j.1 j.2.1 c;obtain⟨-,W,G,-,-,-⟩:=Oh (F:=F) j.1 j.2.1 c;have lb:=List.length_pos_iff.2 G;by_cases o:(sqf F (Pp F q)).length=1
   .obtain⟨s1,s2,P⟩:=Zep j.1 j.2.1 c o;rw [if_pos o,Yer h.1 h.2.1 m P];refine(Xv _ _).ext (Xv _ _) λi=>Ou (λx=>?_) i;rw [Yg,Yg,Yg,Pf];push_cast;grind
   .rw [if_neg o,I _ _ (Xv _ _) h O];refine(Xv _ _).ext (Xv _ _) λi=>Ou (λx=>?_) i;rw [Yg,Yg,Yg,Yg];grind
theorem Zux{e:Int}(f:e=1\/e=-1)(h:Yo q=1):Yo (Zq q e)=1:=by
 have c:Yo (Zq q e)∣Yo q:=Fe λi=>by
  have:=Ld (Zq q e) i;rw [Yx]at this;rcases f with rfl|rfl
  .rwa [Int.mul_one]at this
  .rw [Int.mul_neg_one]at this;exact(Int.dvd_neg.1 this)
 rw [h]at c;have g:=Ov (Zq q e);have j:=Int.le_of_dvd O3 c;rcases(show Yo (Zq q e)=0\/Yo (Zq q e)=1 by omega)with d|d
 .rw [d]at c;exact absurd (Int.zero_dvd.1 c) O3
 .exact d
theorem Yen(h:Yo q=1):Zu q=q:=by unfold Zu;rw [h];simp
theorem Zq5{e:Int}(d:Tr q)(f:q≠[])(g:Xg q=q)(c:Fu F q)(l:e=1\/e=-1) :
  Tr (Zq q e)/\Zq q e≠[]/\Xg (Zq q e)=q/\Zu (Zq q e)=Zq q e/\pdv (Zq q e) (sqf F q)/\Kr (Zq q e) (sqf F q)=Zq (Pp F q) e:=by
 have j:e≠0:=by rcases l with rfl|rfl<;>decide
 obtain⟨f1,f2,f3,f4,f5,f6⟩:=Oh (F:=F) d f c;obtain⟨s,v,w,h,y⟩:=Qu d f c;have o:Yo q=1:=by have:=Zaj d f;rwa [g]at this
 rw [g]at h;have r:Zq q e=Qf (Zq (Pp F q) e) (sqf F q):=by
  refine(Qb _ _).ext (Xv _ _) λi=>Ou (λx=>?_) i;have:Zb q x=Zb (Qf (sqf F q) (Pp F q)) x:=by rw [<-h]
  rw [Gu,Yg,Gu,this,Yg];grind
 obtain⟨m,n⟩:=Zn7 (Qb (Pp F q) e) f2 f3;rw [<-r]at m n;exact⟨Qb _ _,Zmi d f j,by rw [Zxz (Qb _ _) d (Zdt q j).symm,g],Yen (Zux l o),m,n⟩
theorem Yem(c:Tr p)(d:p≠[]):∃e:Int,(e=1\/e=-1)/\Zu p=Zq (Xg p) e:=by
 by_cases h:cf (Zu p) ((Zu p).length-1)<0
 .refine⟨-1,.inr rfl,?_⟩;rw [Zod (λe=>d (List.eq_nil_of_length_eq_zero (by rw [<-Zw,e]))) h];refine(Xc c).ext (Qb _ _) λi=>?_;rw [Yx,Yx];omega
 .refine⟨1,.inl rfl,?_⟩;rw [Zoc h];refine(Xc c).ext (Qb _ _) λi=>?_;rw [Yx];omega
def Mn(F:Nat)(p:List Int):List Int:=Kr (Zq (Zu p) 1) (sqf F p)
def Zbi(F:Nat)(p:List Int):List Int:=Kr (Zu (Mn F p)) (sqf F (Mn F p))
def Zup(F:Nat):Nat->List Int->List Int
 | 0,p=>sqf F p
 | f+1,p=>if(sqf F p).length=1 then sqf F p else Qf (Kr (sqf F p) (sqf F (Mn F p))) (Zup F f (Zbi F p))
theorem Ey(h:Xg p=Xg q):sqf F p=sqf F q:=by unfold sqf;rw [h]
theorem Zie(h:Xg p=Xg q):Pp F p=Pp F q:=by unfold Pp;rw [h]
theorem Zrx(h:Xg p=Xg q):∀f,Dy F f p=Dy F f q
 | 0=>Ey h
 | f+1=>by unfold Dy;rw [Ey h,Zie h]
theorem Zji(v:Tr p)(r:p≠[])(d:Fu F p)(c:Fu F (Pp F p)) :
  (∃e:Int,(e=1\/e=-1)/\Zq (Zu p) 1=Zq (Xg p) e/\pdv (Zq (Xg p) e) (sqf F p)/\Mn F p=Zq (Pp F p) e/\Zu (Mn F p)=Mn F p/\pdv (Mn F p) (sqf F (Pp F p))/\Zbi F p=Zq (Pp F (Pp F p)) e)/\
  Xg (Mn F p)=Pp F p/\Xg (Zbi F p)=Pp F (Pp F p)/\Tr (Mn F p)/\Mn F p≠[]/\Tr (Zbi F p)/\Zbi F p≠[]:=by
 obtain⟨V,W,j,-⟩:=Dp.start v r;have f:Fu F (Xg p):=by unfold Fu;rw [j];exact d
 have s:Pp F (Xg p)=Pp F p:=Zie j;have h:sqf F (Xg p)=sqf F p:=Ey j;obtain⟨e,l,w⟩:=Yem v r;have g:Zq (Zu p) 1=Zq (Xg p) e:=by rw [w];refine(Qb _ _).ext (Qb _ _) λi=>?_;rw [Yx,Int.mul_one]
 obtain⟨-,-,-,-,G,H⟩:=Zq5 V W j f l;rw [s,h]at H;rw [h]at G;have S:Mn F p=Zq (Pp F p) e:=by unfold Mn;rw [g,H]
 obtain⟨y,B,D,-,-⟩:=Qu v r d;obtain⟨I,M,n,o,N,P⟩:=Zq5 y B D c l;rw [<-S]at I M n o N P;have x:sqf F (Mn F p)=sqf F (Pp F p):=Ey (by rw [n,D]);have m:Zbi F p=Zq (Pp F (Pp F p)) e:=by unfold Zbi;rw [o,x,P]
 obtain⟨R,Y,Z,-,-⟩:=Qu y B c;have Q:e≠0:=by rcases l with rfl|rfl<;>decide
 refine⟨⟨e,l,g,G,S,o,N,m⟩,n,?_,I,M,?_,?_⟩
 .rw [m,Zxz (Qb _ _) R (Zdt _ Q).symm,Z]
 .rw [m];exact Qb _ _
 .rw [m];exact Zmi R Y Q
theorem Yj8{n:Nat}(r:Tr p)(j:p≠[])(hs:Sz n p)(o:n<=220)(m:p.length<=11)(l:p.length<=F+1):∀(f:Nat) (q:List Int),Tr q->q≠[]->Dp p (Xg q)->Zup F f q=Dy F f q:=by
 intro f
 induction f with
 | zero=>intro q _ _ _;rfl
 | succ f w=>
  intro q v x h;have d:=(h.ok r j hs o m l).2;have g:Fu F q:=by unfold Fu at d ⊢;rwa [h.2.2.1]at d
  have i:=h.next d;rw [Zie h.2.2.1]at i;have c:=(i.ok r j hs o m l).2;have e:=i.next c;obtain⟨-,r1,r2,r3,D,y,B⟩:=Zji v x g c;unfold Zup Dy;have s:=i.2.2.1;rw [Ey (show Xg (Mn F q)=Xg (Pp F q) by rw [r1,s]),w _ y B (by rw [r2];exact e),Zrx (show Xg (Zbi F q)=Xg (Pp F (Pp F q)) by rw [r2,e.2.2.1])]
def Cb(F:Nat)(q:List Int):List Int:=Kr (sqf F q) (sqf F (Pp F q))
theorem Dk(e:Tr q)(f:q≠[])(d:Fu F q)(c:Fu F (Pp F q)):pdv (sqf F q) (sqf F (Pp F q))/\sqf F q=Qf (Cb F q) (sqf F (Pp F q))/\Tr (Cb F q)/\Cb F q≠[]:=by obtain⟨f1,f2,f3,f4,f5,f6⟩:=Oh (F:=F) e f d;obtain⟨g,h,i,j,l⟩:=Qu e f d;obtain⟨-,t2,t3,-,-,t6⟩:=Oh (F:=F) g h c;exact Yan f2 f3 t2 t3 t6 (Zxy e f d c)
theorem Zvh{n:Nat}(h:Tr p)(o:p≠[])(hs:Sz n p)(v:p.length<=13)(l:Tr a)(m:Tr b)(e:Xg p=Qf a b):Sz (n+15) b/\b.length<=p.length/\b≠[]:=by have r:fcs 0 13<=2^15*2^15:=O6;have f:=Pi h;have c:=Zjv h o;have s:Tr (Xg p):=Ot (Xc h);have i:a≠[]:=λd=>c (by rw [e,d,Gx]);have j:b≠[]:=λd=>c (by rw [e,d,Za9]);refine⟨Er (L:=13) (R:=24) m l (Zuc hs) c s O O3 r (by rw [Cw];exact e),?_,j⟩;have g:=Ol l m i j;rw [<-e,f]at g;have:=List.length_pos_iff.2 i;omega
def Op(p c q:List Int):Prop:=∃a,Tr a/\Xg p=Qf a (Qf c q)
theorem Op.start(c:Tr p):Op p [1] (Xg p):=⟨[1],.inr (show cf [1] 0≠0 by decide),by refine(Ot (Xc c)).ext (Xv _ _) λi=>Ou (λx=>?_) i;rw [Yg,Yg,Pf];push_cast;show Zb (Xg p) x=_;grind⟩
theorem Op.next{f:List Int}(l:Tr q)(m:q≠[])(y:Xg q=q)(d:Fu F q)(c:Fu F (Pp F q))(h:Op p f q):Op p (Qf f (Cb F q)) (Pp F (Pp F q)):=by
 obtain⟨a,H,e⟩:=h;obtain⟨-,D,I,M⟩:=Dk l m d c;obtain⟨n,o,r,g,G⟩:=Qu l m d;obtain⟨-,-,-,j,-⟩:=Qu n o c;rw [y]at g;rw [r]at j;refine⟨Qf a (Qf (sqf F (Pp F q)) (sqf F (Pp F q))),Xv _ _,e.trans ?_⟩;refine(Xv _ _).ext (Xv _ _) λi=>Ou (λx=>?_) i;have s:Zb q x=Zb (sqf F q) x*Zb (Pp F q) x:=by rw [<-Yg,<-g]
 have v:Zb (sqf F q) x=Zb (Cb F q) x*Zb (sqf F (Pp F q)) x:=by rw [<-Yg,<-D]
 have w:Zb (Pp F q) x=Zb (sqf F (Pp F q)) x*Zb (Pp F (Pp F q)) x:=by rw [<-Yg,<-j]
 simp only [Yg];rw [s,v];rw [w];generalize Zb (sqf F (Pp F q)) x=A;generalize Zb (Pp F (Pp F q)) x=B;grind
theorem Op.sz{c:List Int}{n:Nat}(j:Tr p)(d:p≠[])(hs:Sz n p)(f:p.length<=13)(g:Tr c)(m:Tr q)(h:Op p c q):Sz (n+15) c/\c.length<=p.length/\c≠[]:=by obtain⟨a,l,e⟩:=h;exact Zvh j d hs f (Xv a q) g (e.trans ((Xv _ _).ext (Xv _ _) λi=>Ou (λx=>by rw [Yg,Yg,Yg,Yg];grind) i))
theorem Ykp(c:Tr p):Qf [1] p=p:=by rw [Cw];exact Zn5 c
def Zit(f:Tr xs)(d:xs≠[])(e:Bs F xs){s t:Rat}(c:s<=t):vch F xs t<=vch F xs s:=Zk3 f d e c
def Sqn.imp{P c:R2->R2->Prop}{hi:Rat}(d:∀x y,P x y->c x y):∀{lo:Rat} {l:List (R2×R2)},Sqn P hi lo l->Sqn c hi lo l
 | _,[],h=>h
 | _,_::_,h=>⟨h.1,h.2.1,d _ _ h.2.2.1,Sqn.imp d h.2.2.2⟩
def oe(f:Nat->Int):Nat->Int
 | 0=>0
 | k+1=>err (oe f k) (f k)
def mon(d n:Nat):List Int:=mono d ((2:Int)^n)
variable {P:Program} {N:Nat} {sc:Nat->Prop} {env:Pd} {H:Hp}
end Go.Sky
namespace Go.Sky
variable{f:Rat->Rat}{u v s t x a b:Rat}{xs p o:List Int}{F:Nat}
def HD(xs ys:List Int):Prop:=Vp ys/\ys≠[]/\Zad ys/\Bs 13 ys/\chn 13 ys=chn 13 xs
def PH(xs:List Int)(x y:R2):Prop:=(0<x.2/\bl x.1.natAbs<=506/\bl x.2.natAbs<=506)/\(0<y.2/\bl y.1.natAbs<=506/\bl y.2.natAbs<=506)/\cvc 13 xs x-cvc 13 xs y=1
def DR:R2×R2:=((0,0),(0,0))
theorem Zfz(d:Rat){h:Rat}(c:0<h):∃n:Nat,d<=(n:Rat)*h:=by
 have i:0<h⁻¹:=Rat.inv_pos.2 c;refine⟨(d*h⁻¹).ceil.toNat,?_⟩;have e:=@Rat.le_ceil (d*h⁻¹);have g:(((d*h⁻¹).ceil:Int):Rat)<=(((d*h⁻¹).ceil.toNat:Nat):Rat):=by have:(d*h⁻¹).ceil<=(((d*h⁻¹).ceil.toNat:Nat):Int):=Int.self_le_toNat _;exact_mod_cast this
 have j:=Rat.mul_le_mul_of_nonneg_right (Rat.le_trans e g) (show 0<=h by grind);have k:d*h⁻¹*h=d:=O4;grind
theorem Zpo(h:crs f u v<=0)(d:f u≠0):0<f u*f v:=by
 unfold crs at h;by_cases c:f u≠0/\f u*f v<=0
 .rw [if_pos c]at h;exact absurd h O3
 .have:¬f u*f v<=0:=λe=>c ⟨d,e⟩;grind
theorem Zc3(l:Tr xs)(i:xs≠[])(j:Bs F xs)(G:s<=t)(D:vch F xs s<=vch F xs t)(hs:Zb (sqf F xs) s≠0):∀y,s<=y->y<=t->0<Zb (sqf F xs) s*Zb (sqf F xs) y:=by
 obtain⟨h,z,B⟩:=Zk2 l i j s t;have g:∀u v,s<=u->u<=v->v<=t->v-u<=h->crs (Zb (sqf F xs)) u v<=0:=λu v a b c d=>by have e:=B u v a b c d;have R:vat ((chn F xs).map Zb) u<=vat ((chn F xs).map Zb) s:=Zk3 l i j a;have S:vat ((chn F xs).map Zb) t<=vat ((chn F xs).map Zb) v:=Zk3 l i j c;have V:vat ((chn F xs).map Zb) s<=vat ((chn F xs).map Zb) t:=D;omega
 generalize Zb (sqf F xs)=f at *;have m:∀n:Nat,∀y,s<=y->y<=t->y-s<=(n:Rat)*h->0<f s*f y:=λn=>by
  induction n with
  | zero=>
   intro y a b c;have:y=s:=by push_cast at c;grind
   subst this;exact Zpo (g _ _ a O4 b O4) hs
  | succ n P=>
   intro y a b c;push_cast at c;by_cases H:y-s<=h
   .exact Zpo (g s y O4 a b H) hs
   .have r:=P (y-h) O4 O4 O4;have I:f (y-h)≠0:=λe=>by rw [e]at r;grind
    have M:=Zpo (g (y-h) y O4 O4 b O4) I;have N:=Rat.mul_pos r M;have w:f s*f (y-h)*(f (y-h)*f y)=(f (y-h)*f (y-h))*(f s*f y):=O4;rw [w]at N;have Q:0<f (y-h)*f (y-h):=by
     rcases(show 0<f (y-h)\/f (y-h)<0 by grind)with q|q
     .exact Rat.mul_pos q q
     .have:=Rat.mul_pos (a:=-f (y-h)) (b:=-f (y-h)) O4 O4;grind
    rcases(show 0<f s*f y\/f s*f y<=0 by grind)with q|q
    .exact q
    .have:=Rat.mul_nonneg (a:=f (y-h)*f (y-h)) (b:=-(f s*f y)) O4 O4;grind
 intro y a b;obtain⟨n,k⟩:∃n:Nat,y-s<=(n:Rat)*h:=by obtain⟨n,k⟩:=Zfz (y-s) z;exact⟨n,k⟩
 exact m n y a b k
theorem Zfe(D:s<=t)(w:∀u,s<=u->u<=t->0<=Zb (ld p) u):Zb p s<=Zb p t:=by
 rcases(show Zb p s<=Zb p t\/Zb p t<Zb p s by grind)with h|h
 .exact h
 .exfalso;obtain⟨M,Y,N⟩:=Zh7 s t p;have z:s<t:=by
   rcases(show s<t\/s=t by grind)with d|d
   .exact d
   .rw [d]at h;grind
  obtain⟨n,B⟩:=Zfz (M*(t-s)*(t-s)+1) (show 0<Zb p s-Zb p t by grind);have g:(0:Rat)<(n:Rat):=by
   rcases Nat.eq_zero_or_pos n with d|d
   .subst d;have:=Rat.mul_nonneg (a:=M*(t-s)) (b:=t-s) (Rat.mul_nonneg O4 O4) O4;push_cast at B;grind
   .exact_mod_cast d
  have m:(n:Rat)≠0:=λe=>by rw [e]at g;exact absurd g O3
  have c:(n:Rat)*((t-s)/n)=t-s:=by rw [Rat.div_def,<-Rat.mul_assoc,Rat.mul_comm (n:Rat),Rat.mul_assoc,Rat.mul_inv_cancel _ m,Rat.mul_one]
  have q:∀k:Nat,(k:Rat)<=(n:Rat)->-(M*((t-s)/n)*((t-s)/n))*k<=Zb p (s+k*((t-s)/n))-Zb p s:=λk=>by
   induction k with
   | zero=>intro _;push_cast;rw [show s+0*((t-s)/n)=s by grind];grind
   | succ k G=>
    intro y;push_cast at y ⊢;have S:=G O4;have l:0<=(t-s)/n:=by rw [Rat.div_def];exact Rat.mul_nonneg O4 (Rat.le_of_lt (Rat.inv_pos.2 g))
    have i:=c;generalize (t-s)/(n:Rat)=h at *;have H:(0:Rat)<=(k:Rat):=by exact_mod_cast Nat.zero_le k
    have P:=Rat.mul_nonneg (a:=(k:Rat)) (b:=h) H l;have Q:=Rat.mul_nonneg (a:=(n:Rat)-(k+1)) (b:=h) O4 l;have j:=(N (s+k*h) (s+(k+1)*h) O4 O4 O4).1;have e:=w (s+k*h) O4 O4;have R:=Rat.mul_nonneg l e;rw [show s+(k+1)*h-(s+k*h)=h by grind]at j;grind
  have r:=q n O4;have i:=c;rw [i,show s+(t-s)=t by grind]at r;have I:-(M*((t-s)/n)*((t-s)/n))*n=-(M*((t-s)/n)*(t-s)):=O4;rw [I]at r;have V:M*((t-s)/n)*(t-s)*n=M*(t-s)*(t-s):=O4;have W:=Rat.mul_nonneg (a:=Zb p t-Zb p s+M*((t-s)/n)*(t-s)) (b:=(n:Rat)) O4 O4;grind
theorem Zey(p:List Int)(x:Rat):Zb (p.map λa=>-1*a) x=-Zb p x:=by rw [Zl];push_cast;grind
theorem Zm2(k:s<t)(e:∀u,s<u->u<=t->0<Zb (ld p) u)(g:0<=Zb (ld p) s):Zb p s<Zb p t:=by
 have i:s<(s+t)/2/\(s+t)/2<t:=by constructor<;>grind
 generalize (s+t)/2=m at *;have r:=Zfe (p:=p) (s:=s) (t:=m) O4 (λu a b=>by
  rcases(show s<u\/u=s by grind)with h|h
  .exact Rat.le_of_lt (e u h O4)
  .rw [h];exact g)
 obtain⟨M,l,n⟩:=Zh7 m t p;have j:=e m i.1 O4;obtain⟨η,q,y,z⟩:=Ho (show 0<t-m by grind) l (show 0<Zb (ld p) m/2 by grind);have b:=(n m (m+η) O4 O4 O4).1;rw [show m+η-m=η by grind]at b;have w:=Zfe (p:=p) (s:=m+η) (t:=t) O4 (λu a b=>Rat.le_of_lt (e u O4 b));have c:=Rat.mul_nonneg (a:=η) (b:=Zb (ld p) m/2-η*M) O4 O4;have d:=Rat.mul_pos q j;grind
def Ea:Nat->List Int->Rat->Int
 | 0,_,_=>0
 | n+1,p,x=>if Zb p x≠0 then Eb (Zb p x)else Ea n (Xe p) x
def Zxg(h:0<x):Eb x=1:=Bu h
def Zmb(h:x<0):Eb x=-1:=Bv h
theorem Zrd(h:x=0):Eb x=0:=by subst h;rfl
theorem Pg(x:Rat):(0<x/\Eb x=1)\/(x<0/\Eb x=-1)\/(x=0/\Eb x=0):=by
 rcases(show 0<x\/x<0\/x=0 by grind)with h|h|h
 .exact .inl ⟨h,Zxg h⟩
 .exact .inr (.inl ⟨h,Zmb h⟩)
 .exact .inr (.inr ⟨h,Zrd h⟩)
theorem Zwi(n:Nat)(p:List Int)(x:Rat)(h:Zb p x≠0)(c:p.length<=n):Ea n p x=Eb (Zb p x):=by
 cases n with
 | zero=>have:p=[]:=List.eq_nil_of_length_eq_zero O;subst this;exact absurd rfl h
 | succ n=>unfold Ea;rw [if_pos h]
theorem Zmo(p:List Int)(x:Rat)(h:Zb p x≠0):∃δ:Rat,0<δ/\∀y,x<y->y<=x+δ->Eb (Zb p y)=Eb (Zb p x):=by
 obtain⟨L,r,k⟩:=Ch x (x+1) p;have i:0<(if 0<Zb p x then Zb p x else -Zb p x):=by split<;>grind
 obtain⟨δ,j,m,g⟩:=Ho (show(0:Rat)<1 by decide) (show 0<L+1 by grind) (show 0<(if 0<Zb p x then Zb p x else -Zb p x)/2 by grind);refine⟨δ,j,λy n q=>?_⟩;have l:=k x y O4 O4 O4;have b:=Rat.mul_nonneg (a:=L) (b:=δ-(y-x)) O4 O4;have c:L*(y-x)<=δ*(L+1):=O4;rcases Pg (Zb p x)with⟨d,e⟩|⟨d,e⟩|⟨d,e⟩
 .rw [if_pos d]at g i;rw [e];exact Zxg O4
 .rw [if_neg O4]at g i;rw [e];exact Zmb O4
 .exact absurd d h
theorem Bo:∀(n:Nat) (p:List Int) (x:Rat),p.length<=n->∃δ:Rat,0<δ/\∀y,x<y->y<=x+δ->Eb (Zb p y)=Ea n p x
 | 0,p,x,q=>⟨1,O3,λy _ _=>by have:p=[]:=List.eq_nil_of_length_eq_zero O;subst this;exact Zrd rfl⟩
 | n+1,p,x,q=>by
  by_cases h:Zb p x≠0
  .rw [Zwi (n+1) p x h q];exact Zmo p x h
  .have M:Zb p x=0:=Classical.not_not.1 h;have H:=Nn p;obtain⟨δ,B,D⟩:=Bo n (Xe p) x O;have G:Ea (n+1) p x=Ea n (Xe p) x:=by unfold Ea;rw [if_neg h];cases n<;>rfl
   have k:Zb (ld p) x≠0->Eb (Zb (ld p) x)=Ea n (Xe p) x:=λg=>by rw [<-Kn]at g ⊢;exact(Zwi n (Xe p) x g O).symm
   refine⟨δ,B,λy l N=>?_⟩;rw [G];have i:∀u,x<u->u<=y->Eb (Zb (ld p) u)=Ea n (Xe p) x:=λu a b=>by rw [<-Kn];exact D u a O4
   have e:=i y l O4;generalize Ea n (Xe p) x=σ at *;rcases Pg (Zb (ld p) y)with⟨m,j⟩|⟨m,j⟩|⟨m,j⟩
   .rw [j]at e;subst e;refine Zxg ?_;have:=Zm2 (p:=p) l (λu a b=>by
     rcases Pg (Zb (ld p) u)with⟨d,c⟩|⟨d,c⟩|⟨d,c⟩
     .exact d
     .have:=i u a b;rw [c]at this;exact absurd this O3
     .have:=i u a b;rw [c]at this;exact absurd this O3) (by
     rcases Pg (Zb (ld p) x)with⟨d,c⟩|⟨d,c⟩|⟨d,c⟩
     .exact Rat.le_of_lt d
     .have:=k O4;rw [c]at this;exact absurd this O3
     .grind)
    grind
   .rw [j]at e;subst e;refine Zmb ?_;have r:∀u,Zb (ld (p.map λa=>-1*a)) u=-Zb (ld p) u:=λu=>by rw [Bx];push_cast;grind
    have:=Zm2 (p:=p.map λa=>-1*a) l (λu a b=>by
     rw [r];rcases Pg (Zb (ld p) u)with⟨d,c⟩|⟨d,c⟩|⟨d,c⟩
     .have:=i u a b;rw [c]at this;exact absurd this O3
     .grind
     .have:=i u a b;rw [c]at this;exact absurd this O3) (by
     rw [r];rcases Pg (Zb (ld p) x)with⟨d,c⟩|⟨d,c⟩|⟨d,c⟩
     .have:=k O4;rw [c]at this;exact absurd this O3
     .grind
     .grind)
    rw [Zey,Zey]at this;grind
   .rw [j]at e;subst e;refine Zrd ?_;have w:∀u,x<=u->u<=y->Zb (ld p) u=0:=λu a b=>by
     rcases(show x<u\/u=x by grind)with g|g
     .rcases Pg (Zb (ld p) u)with⟨d,c⟩|⟨d,c⟩|⟨d,c⟩
      .have:=i u g b;rw [c]at this;exact absurd this O3
      .have:=i u g b;rw [c]at this;exact absurd this O3
      .exact d
     .subst g;rcases Pg (Zb (ld p) u)with⟨d,c⟩|⟨d,c⟩|⟨d,c⟩
      .have:=k O4;rw [c]at this;exact absurd this O3
      .have:=k O4;rw [c]at this;exact absurd this O3
      .exact d
    have I:=Zfe (p:=p) (s:=x) (t:=y) O4 (λu a b=>by rw [w u a b];grind);have z:=Zfe (p:=p.map λa=>-1*a) (s:=x) (t:=y) O4 (λu a b=>by rw [Bx,w u a b];push_cast;grind);rw [Zey,Zey]at z;grind
theorem Ed.mul_l{a b c:List Int}(h:Ed a b):Ed (Qf c a) (Qf c b):=by obtain⟨k,s,d,e⟩:=h;exact⟨k,s,d,λx=>by rw [Yg,Yg];have:=e x;grind⟩
theorem Fc{n:Nat}(D:Tr p)(m:p≠[])(hs:Sz n p)(z:n<=220)(w:p.length<=11)(r:p.length<=F+1):∀(f:Nat) (q:List Int),Dp p q->q.length<=f->
  (∃B:List Int,∀x:Rat,Zb q x=Zb (Dy F f q) x*(Zb B x*Zb B x))/\Ed (Dy F f q) (sqf F q):=by
 intro f
 induction f with
 | zero=>intro q d y;have:=List.length_pos_iff.2 d.2.1;omega
 | succ f ih=>
  intro q d y;have g:=(d.ok D m hs z w r).2;have h:=d.next g;have e:=(h.ok D m hs z w r).2;have i:=h.next e;unfold Dy;by_cases l:(sqf F q).length=1
  .rw [if_pos l];obtain⟨s1,s2,s3⟩:=Zep d.1 d.2.1 g l;refine⟨⟨[1],λx=>?_⟩,Ed.refl _⟩;rw [s1,Ykx d.1 d.2.2.1 s2,Pf];push_cast;grind
  .rw [if_neg l];have lq:2<=q.length:=by obtain⟨f1,f2,f3,f4,f5,f6⟩:=Oh (F:=F) d.1 d.2.1 g;obtain⟨P,G,H,k,Q⟩:=Qu d.1 d.2.1 g;have l1:=List.length_pos_iff.2 f3;have l2:=List.length_pos_iff.2 G;omega
   have a0:=Zkg d.1 d.2.1 g lq;obtain⟨P,G,H,k,Q⟩:=Qu d.1 d.2.1 g;obtain⟨b1,b2,b3,I,b5⟩:=Qu h.1 h.2.1 e;obtain⟨-,t2,t3,-,-,-⟩:=Oh (F:=F) h.1 h.2.1 e;have lb:=List.length_pos_iff.2 t3;obtain⟨⟨B,Z⟩,hE⟩:=ih _ i O;obtain⟨-,N,o3,o4⟩:=Dk d.1 d.2.1 g e;have j:=(i.ok D m hs z w r).2;rw [d.2.2.1]at k;rw [H]at I;have R:∀x,Zb q x=Zb (sqf F q) x*Zb (Pp F q) x:=λx=>by rw [<-Yg,<-k]
   have V:∀x,Zb (sqf F q) x=Zb (Cb F q) x*Zb (sqf F (Pp F q)) x:=λx=>by rw [<-Yg,<-N]
   have W:∀x,Zb (Pp F q) x=Zb (sqf F (Pp F q)) x*Zb (Pp F (Pp F q)) x:=λx=>by rw [<-Yg,<-I]
   refine⟨⟨Qf (sqf F (Pp F q)) B,λx=>?_⟩,?_⟩
   .rw [Yg,Yg,R x,V x,W x,Z x];show _=Zb (Cb F q) x*_*_;generalize Zb (sqf F (Pp F q)) x=S;generalize Zb B x=C;grind
   .have Y:Ed (Dy F f (Pp F (Pp F q))) (sqf F (Pp F q)):=hE.trans (Zxy h.1 h.2.1 e j);have M:=Y.mul_l (c:=Cb F q);rw [<-N]at M;exact M
theorem Zrw{n:Nat}(W:Tr p)(R:p≠[])(hs:Sz n p)(hn:n<=220)(hl:p.length<=11)(hF:p.length<=F+1)(H:Tr o)(Z:o≠[])(g:Fu F o)(B:Fu F p)(h:Ed o (sqf F p)):(Pp F o).length=1/\sqf F o=Xg o:=by
 obtain⟨N,a2,a3,P,a5⟩:=Qu H Z g;obtain⟨f1,f2,f3,f4,f5,f6⟩:=Oh (F:=F) W R B;obtain⟨-,s2,s3,s4,s5,s6⟩:=Oh (F:=F) H Z g;have Y:Tr (Xg o):=Ot (Xc H);have S:=Zcs Y (Mj Y) g;have Q:Ed (Pp F o) (Xg o):=S.1.ed;have e2:Ed (Pp F o) (ld (Xg o)):=(S.2.ed:Ed (Pp F o) (Xe (Xg o))).congr λx=>Kn _ x;have D:Sim (Xg o) o:=(Iu (Zu o)).trans (Qr H);obtain⟨k,w,G,l⟩:Ed (Xg o) (sqf F p):=by
  obtain⟨k,w,G,e⟩:=h;obtain⟨c,d,hc,M,I⟩:=D;have j:∀x:Rat,(c:Rat)*Zb (Xg o) x=(d:Rat)*Zb o x:=λx=>by rw [<-Zl,<-Zl];exact Oi x _ _ λi=>by rw [Xz,Xz];exact I i
  exact⟨d*k,w.map λa=>c*a,Int.mul_ne_zero M G,λx=>by rw [Zl];have a:=e x;have b:=j x;push_cast;grind⟩
 have V:(Pp F o).length<=1:=by
  refine Zeq W R B N (Q.trans ⟨k,w,G,l⟩) ?_;have h1:Ed (Pp F o) (lmul w (ld (Xg o))):=by obtain⟨m,z,hm,e⟩:=e2;exact⟨m,lmul w z,hm,λx=>by rw [Zt,Zt];have:=e x;grind⟩
  have h2:Ed (Pp F o) (ld (sqf F p)):=Ed.lin Q h1 (ld w) k G λx=>by have:=Dj (p:=(sqf F p).map λa=>k*a) (q:=lmul w (Xg o)) (λy=>by rw [Zl,Zt];exact l y) x;rw [Bx,Ci]at this;rw [Zt,this]
  exact h2.congr λx=>(Kn _ x).symm
 have r:(Pp F o).length=1:=by have:=List.length_pos_iff.2 a2;omega
 refine⟨r,?_⟩;rw [Ykx N a3 r,Zn5 s2]at P;exact P.symm
theorem Zes{a b:List Int}(h:Sim a b):∃c d:Int,c≠0/\d≠0/\∀x:Rat,(c:Rat)*Zb a x=(d:Rat)*Zb b x:=by obtain⟨c,d,g,j,e⟩:=h;exact⟨c,d,g,j,λx=>by rw [<-Zl,<-Zl];exact Oi x _ _ λi=>by rw [Xz,Xz];exact e i⟩
theorem Gl(h:x≠0):0<x*x:=by
 rcases(show 0<x\/x<0 by grind)with q|q
 .exact Rat.mul_pos q q
 .have:=Rat.mul_pos (a:=-x) (b:=-x) O4 O4;grind
theorem Pj{c:Int}(h:c≠0):(c:Rat)≠0:=λe=>h (by exact_mod_cast e)
theorem Ze9{e g c d:Rat}(j:c≠0)(k:d≠0)(l:c*e=d*a)(m:c*g=d*b)(h:a*b<0):e*g<0:=by
 have n:(c*c)*(e*g)=(d*d)*(a*b):=O4;have r:=Gl j;have i:=Gl k;rcases(show e*g<0\/0<=e*g by grind)with q|q
 .exact q
 .have w:=Rat.mul_nonneg (a:=c*c) (b:=e*g) O4 q;have y:=Rat.mul_pos (a:=d*d) (b:=-(a*b)) i O4;grind
theorem Ye2{e g c d:Rat}(h:e*(c*c)*(g*(d*d))<0):e*g<0:=by
 rcases(show e*g<0\/0<=e*g by grind)with q|q
 .exact q
 .have j:0<=c*d*(c*d):=by
   by_cases i:c*d=0
   .rw [i];grind
   .exact Rat.le_of_lt (Gl i)
  have k:=Rat.mul_nonneg q j;grind
theorem Zmn{n:Nat}(i:Tr p)(k:p≠[])(hs:Sz n p)(M:n<=220)(I:p.length<=11)(D:p.length<=F+1)(ho:o=Dy F p.length (Xg p))(g:Tr o)(Q:o≠[])(y:Bs F o)(a0:a<b)(h1:Ea p.length p a=1)(h2:Zb p b<0):vch F o b<vch F o a:=by
 have m:=Dp.start i k;have h:=(m.ok i k hs M I D).2;have j:Fu F p:=by unfold Fu at h ⊢;rwa [m.2.2.1]at h
 obtain⟨⟨B,w⟩,z⟩:=Fc i k hs M I D p.length (Xg p) m (by rw [Pi i];exact Nat.le_refl _);rw [<-ho]at w z;rw [Ey m.2.2.1]at z;obtain⟨-,P⟩:=Zrw i k hs M I D g Q y.1.2.2.1 j z;obtain⟨δ,d1,Z⟩:=Bo p.length p a (Nat.le_refl _);obtain⟨s,W,s2,Y⟩:∃s,a<s/\s<=a+δ/\s<b:=by
  rcases(show a+δ<b\/b<=a+δ by grind)with q|q
  .exact⟨a+δ,O4,O4,q⟩
  .exact⟨(a+b)/2,O4,O4,O4⟩
 have N:0<Zb p s:=by
  have:=Z s W s2;rw [h1]at this;rcases Pg (Zb p s)with⟨r,l⟩|⟨r,l⟩|⟨r,l⟩
  .exact r
  .rw [l]at this;exact absurd this O3
  .rw [l]at this;exact absurd this O3
 have k1:Zb p s*Zb p b<0:=by have:=Rat.mul_pos (a:=Zb p s) (b:=-Zb p b) N O4;grind
 obtain⟨c,d,hc,hd,e⟩:=Zes ((Iu (Zu p)).trans (Qr i):Sim (Xg p) p);have S:Zb (Xg p) s*Zb (Xg p) b<0:=Ze9 (Pj hc) (Pj hd) (e s) (e b) k1;rw [w s,w b]at S;have k3:=Ye2 S;obtain⟨c',d',G,H,R⟩:=Zes ((Iu (Zu o)).trans (Qr g):Sim (Xg o) o);have V:Zb (Xg o) s*Zb (Xg o) b<0:=Ze9 (Pj G) (Pj H) (R s) (R b) k3;rw [<-P]at V;have m1:=Zit g Q y (Rat.le_of_lt W);rcases Int.lt_or_le (vch F o b) (vch F o s)with q|q
 .exact Int.lt_of_lt_of_le q m1
 .exfalso;have hz:Zb (sqf F o) s≠0:=λe9=>by rw [e9]at V;grind
  have:=Zc3 g Q y (Rat.le_of_lt Y) q hz b (Rat.le_of_lt Y) O4;grind
theorem Zf0:∀(n:Nat) (p:List Int) (x:Rat),Tr p->p≠[]->p.length<=n->Ea n p x≠0
 | 0,p,x,_,i,r=>absurd (List.eq_nil_of_length_eq_zero O) i
 | n+1,p,x,l,i,r=>by
  unfold Ea;by_cases h:Zb p x≠0
  .rw [if_pos h];rcases Pg (Zb p x)with⟨j,g⟩|⟨j,g⟩|⟨j,g⟩
   .rw [g];decide
   .rw [g];decide
   .exact absurd j h
  .rw [if_neg h];have m:Zb p x=0:=Classical.not_not.1 h;have d:=Nn p;refine Zf0 n (Xe p) x (Mj l) (λe=>?_) O;rw [e]at d;have w:=List.length_pos_iff.2 i;have k:p.length=1:=by simp at d;omega
   match p,k with
   | [c],_=>
    have q:c≠0:=l.mem O7;rw [Pf]at m;exact Pj q m
theorem Zp8(n:Nat)(p:List Int)(x:Rat):-1<=Ea n p x/\Ea n p x<=1:=by
 induction n generalizing p with
 | zero=>show -1<=(0:Int)/\(0:Int)<=1;decide
 | succ n c=>unfold Ea;split;exact Ydu _;exact c _
def Am(F:Nat)(o:List Int)(a b:Rat):Prop:=0<vch F o a-vch F o b-(if Zb o b=0 then 1 else 0)
theorem Ye7{n:Nat}(g:Tr p)(i:p≠[])(hs:Sz n p)(G:n<=220)(D:p.length<=11)(z:p.length<=F+1)(H:o=Dy F p.length (Xg p))(m:Tr o)(S:o≠[])(P:Bs F o)(k:a<b) :
  (Zb p a<0\/Zb p b<0\/Ea p.length p a<0\/Am F o a b)↔(Ea p.length p a<0\/Am F o a b):=by
 constructor
 .rintro(h|h|h|h)
  .left;rw [Zwi p.length p a O4 (Nat.le_refl _),Zmb h];decide
  .have r:=Zp8 p.length p a;have r0:=Zf0 p.length p a g i (Nat.le_refl _);rcases(show Ea p.length p a<0\/Ea p.length p a=1 by omega)with j|j
   .exact .inl j
   .right;have W:=Zmn g i hs G D z H m S P k j h;have Q:=Dp.start g i;obtain⟨⟨B,y⟩,-⟩:=Fc g i hs G D z p.length (Xg p) Q (by rw [Pi g];exact Nat.le_refl _);rw [<-H]at y;obtain⟨c,d,V,R,e⟩:=Zes ((Iu (Zu p)).trans (Qr g):Sim (Xg p) p);have l:Zb o b≠0:=λI=>by
     have w:(c:Rat)*Zb (Xg p) b=(d:Rat)*Zb p b:=e b;rw [y b,I]at w;have M:=Pj R;have N:(d:Rat)*Zb p b=0:=by rw [<-w];grind
     rcases Rat.mul_eq_zero.1 N with q|q
     .exact M q
     .rw [q]at h;grind
    unfold Am;rw [if_neg l];omega
  .exact .inl h
  .exact .inr h
 .rintro(h|h)
  .exact .inr (.inr (.inl h))
  .exact .inr (.inr (.inr h))
theorem Ya5(p:List Int)(x:Rat)(h:Zb p x≠0):∃δ:Rat,0<δ/\∀y,x-δ<=y->y<=x->Eb (Zb p y)=Eb (Zb p x):=by
 obtain⟨L,r,k⟩:=Ch (x-1) x p;have i:0<(if 0<Zb p x then Zb p x else -Zb p x):=by split<;>grind
 obtain⟨δ,j,m,g⟩:=Ho (show(0:Rat)<1 by decide) (show 0<L+1 by grind) (show 0<(if 0<Zb p x then Zb p x else -Zb p x)/2 by grind);refine⟨δ,j,λy n q=>?_⟩;have l:=k y x O4 O4 O4;have b:=Rat.mul_nonneg (a:=L) (b:=δ-(x-y)) O4 O4;have c:L*(x-y)<=δ*(L+1):=O4;rcases Pg (Zb p x)with⟨d,e⟩|⟨d,e⟩|⟨d,e⟩
 .rw [if_pos d]at g i;rw [e];exact Zxg O4
 .rw [if_neg O4]at g i;rw [e];exact Zmb O4
 .exact absurd d h
theorem rsg_1(h:Eb x=1):0<x:=by
 rcases Pg x with⟨d,c⟩|⟨d,c⟩|⟨d,c⟩
 .exact d
 .rw [c]at h;exact absurd h O3
 .rw [c]at h;exact absurd h O3
theorem Zni(h:Eb x=-1):x<0:=by
 rcases Pg x with⟨d,c⟩|⟨d,c⟩|⟨d,c⟩
 .rw [c]at h;exact absurd h O3
 .exact d
 .rw [c]at h;exact absurd h O3
def Zwl(p:List Int)(a b:Rat):Prop:=∃x,a<=x/\x<=b/\Zb p x<0
theorem Ygm   (hx:Tr xs) (h0:xs≠[]) (hC:Bs F xs) {σ:Rat} (Y:σ≠0) (S:a<b)
  (c:∀x,a<=x->x<b->∃δ:Rat,0<δ/\∀y,x<y->y<=x+δ->y<=b->0<σ*Zb (sqf F xs) y) :
  vch F xs a-vch F xs b<=(if Zb (sqf F xs) b=0 then 1 else 0):=by
 obtain⟨h,h1,R⟩:=Zk2 hx h0 hC a b;have H:∀x,a<=x->x<b->0<=σ*Zb (sqf F xs) x:=λx ha hb=>by
  rcases(show 0<=σ*Zb (sqf F xs) x\/σ*Zb (sqf F xs) x<0 by grind)with q|q
  .exact q
  .exfalso;have g:Zb (sqf F xs) x≠0:=λe=>by rw [e]at q;grind
   obtain⟨δ,d1,D⟩:=c x ha hb;obtain⟨ε,e1,Q⟩:=Zmo (sqf F xs) x g;obtain⟨y,N,P,y3,y4⟩:∃y,x<y/\y<=x+δ/\y<=x+ε/\y<=b:=by
    rcases(show δ<=ε\/ε<=δ by grind)with w|w
    .rcases(show x+δ<=b\/b<=x+δ by grind)with v|v
     .exact⟨x+δ,O4,O4,O4,v⟩
     .exact⟨b,O4,O4,O4,O4⟩
    .rcases(show x+ε<=b\/b<=x+ε by grind)with v|v
     .exact⟨x+ε,O4,O4,O4,v⟩
     .exact⟨b,O4,O4,O4,O4⟩
   have Z:=D y N P y4;have k:=Q y N y3;rcases Pg (Zb (sqf F xs) x)with⟨i,j⟩|⟨i,j⟩|⟨i,j⟩
   .rw [j]at k;have I:=rsg_1 k;rcases(show σ<0\/0<σ by grind)with s|s
    .have:=Rat.mul_pos (a:=-σ) (b:=Zb (sqf F xs) y) O4 I;grind
    .have:=Rat.mul_pos s i;grind
   .rw [j]at k;have I:=Zni k;rcases(show σ<0\/0<σ by grind)with s|s
    .have:=Rat.mul_pos (a:=-σ) (b:=-Zb (sqf F xs) x) O4 O4;grind
    .have:=Rat.mul_pos (a:=σ) (b:=-Zb (sqf F xs) y) s O4;grind
   .exact g i
 have V:0<=σ*Zb (sqf F xs) b:=by
  rcases(show 0<=σ*Zb (sqf F xs) b\/σ*Zb (sqf F xs) b<0 by grind)with q|q
  .exact q
  .exfalso;have g:Zb (sqf F xs) b≠0:=λe=>by rw [e]at q;grind
   obtain⟨ε,e1,Q⟩:=Ya5 (sqf F xs) b g;obtain⟨y,N,P,y3⟩:∃y,a<=y/\y<b/\b-ε<=y:=by
    rcases(show a<=b-ε\/b-ε<=a by grind)with v|v
    .exact⟨b-ε,v,O4,O4⟩
    .exact⟨a,O4,S,v⟩
   obtain⟨δ,d1,D⟩:=c y N P;obtain⟨z,z1,z2,r⟩:∃z,y<z/\z<=y+δ/\z<=b:=by
    rcases(show y+δ<=b\/b<=y+δ by grind)with v|v
    .exact⟨y+δ,O4,O4,v⟩
    .exact⟨b,P,O4,O4⟩
   have Z:=D z z1 z2 r;have k:=Q z O4 r;rcases Pg (Zb (sqf F xs) b)with⟨i,j⟩|⟨i,j⟩|⟨i,j⟩
   .rw [j]at k;have I:=rsg_1 k;rcases(show σ<0\/0<σ by grind)with s|s
    .have:=Rat.mul_pos (a:=-σ) (b:=Zb (sqf F xs) z) O4 I;grind
    .have:=Rat.mul_pos s i;grind
   .rw [j]at k;have I:=Zni k;rcases(show σ<0\/0<σ by grind)with s|s
    .have:=Rat.mul_pos (a:=-σ) (b:=-Zb (sqf F xs) b) O4 O4;grind
    .have:=Rat.mul_pos (a:=σ) (b:=-Zb (sqf F xs) z) s O4;grind
   .exact g i
 have d:∀u v,a<=u->u<=v->v<=b->v-u<=h/2->vch F xs u-vch F xs v<=(if v=b/\Zb (sqf F xs) b=0 then 1 else 0):=λu v l M B c4=>by
  have e:=R u v l M B O4;have e':vch F xs u-vch F xs v=crs (Zb (sqf F xs)) u v:=e;rw [e'];unfold crs;by_cases G:Zb (sqf F xs) u≠0/\Zb (sqf F xs) u*Zb (sqf F xs) v<=0
  .rw [if_pos G];have W:u<b:=by
    rcases(show u<b\/u=b by grind)with q|q
    .exact q
    .exfalso;have:v=u:=O4;subst this;have:=Gl G.1;grind
   have g1:=H u l W;have g2:0<=σ*Zb (sqf F xs) v:=by
    rcases(show v<b\/v=b by grind)with q|q
    .exact H v O4 q
    .rw [q];exact V
   have m:Zb (sqf F xs) v=0:=by
    rcases(show Zb (sqf F xs) v=0\/Zb (sqf F xs) v≠0 by grind)with q|q
    .exact q
    .exfalso;have m1:=Rat.mul_nonneg g1 g2;have m2:=Gl Y;have m3:(σ*σ)*(Zb (sqf F xs) u*Zb (sqf F xs) v)>=0:=O4;rcases(show Zb (sqf F xs) u*Zb (sqf F xs) v<0\/Zb (sqf F xs) u*Zb (sqf F xs) v=0 by grind)with w|w
     .have:=Rat.mul_pos m2 (show 0 < -(Zb (sqf F xs) u*Zb (sqf F xs) v) by grind);grind
     .rcases Rat.mul_eq_zero.1 w with z|z
      .exact G.1 z
      .exact q z
   rcases(show v<b\/v=b by grind)with q|q
   .exfalso;obtain⟨δ,d1,D⟩:=c v O4 q;obtain⟨z,z1,z2,r,z4⟩:∃z,v<z/\z<=v+δ/\z<=b/\z-v<=h/2:=by
     rcases(show δ<=h/2\/h/2<=δ by grind)with w|w
     .rcases(show v+δ<=b\/b<=v+δ by grind)with t|t
      .exact⟨v+δ,O4,O4,t,O4⟩
      .exact⟨b,q,O4,O4,O4⟩
     .rcases(show v+h/2<=b\/b<=v+h/2 by grind)with t|t
      .exact⟨v+h/2,O4,O4,t,O4⟩
      .exact⟨b,q,O4,O4,O4⟩
    have Z:=D z z1 z2 r;have a1:=R u z l O4 r O4;have a2:=R v z O4 O4 r O4;have r1:crs (Zb (sqf F xs)) u z=0:=by
     unfold crs;rw [if_neg];rintro⟨w1,w2⟩;have g3:0<σ*Zb (sqf F xs) u:=by
      rcases(show σ*Zb (sqf F xs) u=0\/0<σ*Zb (sqf F xs) u by grind)with t|t
      .rcases Rat.mul_eq_zero.1 t with t|t
       .exact absurd t Y
       .exact absurd t w1
      .exact t
     have m1:=Rat.mul_pos g3 Z;have m2:=Gl Y;have m3:0<(σ*σ)*(Zb (sqf F xs) u*Zb (sqf F xs) z):=O4;have m4:=Rat.mul_nonneg (a:=σ*σ) (b:=-(Zb (sqf F xs) u*Zb (sqf F xs) z)) O4 O4;grind
    have r2:crs (Zb (sqf F xs)) v z=0:=by unfold crs;rw [if_neg];rintro⟨w1,w2⟩;exact w1 m
    have r3:crs (Zb (sqf F xs)) u v=1:=by unfold crs;rw [if_pos G]
    rw [r1]at a1;rw [r2]at a2;rw [r3]at e;omega
   .rw [q]at m;rw [if_pos ⟨q,m⟩];decide
  .rw [if_neg G];split<;>decide
 have a0:∀n:Nat,∀u,a<=u->u<=b->b-u<=(n:Rat)*(h/2)->vch F xs u-vch F xs b<=(if Zb (sqf F xs) b=0 then 1 else 0):=λn=>by
  induction n with
  | zero=>
   intro u l M B;have:u=b:=by push_cast at B;grind
   subst this;rw [Int.sub_self];split<;>decide
  | succ n ih=>
   intro u l M B;push_cast at B;by_cases hy:b-u<=h/2
   .have:=d u b l M O4 hy;by_cases g:Zb (sqf F xs) b=0
    .rw [if_pos ⟨rfl,g⟩]at this;rw [if_pos g];exact this
    .rw [if_neg (λe=>g e.2)]at this;rw [if_neg g];exact this
   .have i1:=ih (u+h/2) O4 O4 O4;have i2:=d u (u+h/2) l O4 O4 O4;rw [if_neg (λe=>by have:=e.1;grind)]at i2;generalize (if Zb (sqf F xs) b=0 then(1:Int)else 0)=t at *;omega
 obtain⟨n,hn⟩:=Zfz (b-a) (show 0<h/2 by grind);exact a0 n a O4 O4 hn
structure Odp (F n:Nat) (p o:List Int):Prop where
 tr:Tr p
 ne:p≠[]
 sz:Sz n p
 hn:n<=220
 hl:p.length<=11
 hF:p.length<=F+1
 eq:o=Dy F p.length (Xg p)
 otr:Tr o
 one:o≠[]
 ok:Bs F o
theorem Odp.sq{n:Nat}(h:Odp F n p o):∃(c d:Int) (B:List Int),c≠0/\d≠0/\∀x:Rat,(d:Rat)*Zb p x=(c:Rat)*(Zb o x*(Zb B x*Zb B x)):=by have i:=Dp.start h.tr h.ne;obtain⟨⟨B,g⟩,-⟩:=Fc h.tr h.ne h.sz h.hn h.hl h.hF p.length (Xg p) i (by rw [Pi h.tr];exact Nat.le_refl _);rw [<-h.eq]at g;obtain⟨c,d,j,k,e⟩:=Zes ((Iu (Zu p)).trans (Qr h.tr):Sim (Xg p) p);exact⟨c,d,B,j,k,λx=>by rw [<-g x];exact(e x).symm⟩
theorem Odp.sqf{n:Nat}(h:Odp F n p o):Go.Sky.sqf F o=Xg o:=by
 have e:=Dp.start h.tr h.ne;have c:=(e.ok h.tr h.ne h.sz h.hn h.hl h.hF).2;have d:Fu F p:=by unfold Fu at c ⊢;rwa [e.2.2.1]at c
 obtain⟨-,g⟩:=Fc h.tr h.ne h.sz h.hn h.hl h.hF p.length (Xg p) e (by rw [Pi h.tr];exact Nat.le_refl _);rw [<-h.eq]at g;rw [Ey e.2.2.1]at g;exact(Zrw h.tr h.ne h.sz h.hn h.hl h.hF h.otr h.one h.ok.1.2.2.1 d g).2
theorem Odp.srt{n:Nat}(h:Odp F n p o):∃c d:Int,c≠0/\d≠0/\∀x:Rat,(c:Rat)*Zb (Go.Sky.sqf F o) x=(d:Rat)*Zb o x:=by rw [h.sqf];exact Zes ((Iu (Zu o)).trans (Qr h.otr):Sim (Xg o) o)
theorem Odp.zero{n:Nat}(h:Odp F n p o)(x:Rat):Zb (Go.Sky.sqf F o) x=0↔Zb o x=0:=by
 obtain⟨c,d,i,j,e⟩:=h.srt;have g:=e x;constructor
 .intro z;rw [z]at g;rcases Rat.mul_eq_zero.1 (show(d:Rat)*Zb o x=0 by grind)with q|q
  .exact absurd q (Pj j)
  .exact q
 .intro z;rw [z]at g;rcases Rat.mul_eq_zero.1 (show(c:Rat)*Zb (Go.Sky.sqf F o) x=0 by grind)with q|q
  .exact absurd q (Pj i)
  .exact q
theorem Odp.nz{n:Nat}(h:Odp F n p o)(j:Zb p x≠0):Zb o x≠0:=λz=>by
 obtain⟨c,d,B,k,i,e⟩:=h.sq;have g:=e x;rw [z]at g;rcases Rat.mul_eq_zero.1 (show(d:Rat)*Zb p x=0 by grind)with q|q
 .exact Pj i q
 .exact j q
theorem Odp.opp{n:Nat}(h:Odp F n p o){y:Rat}(j:Zb p x*Zb p y<0):Zb o x*Zb o y<0/\Zb (Go.Sky.sqf F o) x*Zb (Go.Sky.sqf F o) y<0:=by obtain⟨c,d,B,m,q,e⟩:=h.sq;have r:(Zb o x*(Zb B x*Zb B x))*(Zb o y*(Zb B y*Zb B y))<0:=Ze9 (Pj m) (Pj q) (e x).symm (e y).symm j;have l:=Ye2 r;obtain⟨w,z,g,i,k⟩:=h.srt;exact⟨l,Ze9 (Pj g) (Pj i) (k x) (k y) l⟩
theorem Odp.sem{n:Nat}(h:Odp F n p o)(i:a<b):(Ea p.length p a<0\/Am F o a b)↔Zwl p a b:=by
 have j:=Ye7 h.tr h.ne h.sz h.hn h.hl h.hF h.eq h.otr h.one h.ok i;constructor
 .rintro(k|k)
  .obtain⟨δ,M,m⟩:=Bo p.length p a (Nat.le_refl _);have r:=Zp8 p.length p a;have hm:Ea p.length p a=-1:=O;rcases(show a+δ<=b\/b<=a+δ by grind)with q|q
   .exact⟨a+δ,O4,q,Zni (by rw [m (a+δ) O4 O4,hm])⟩
   .exact⟨b,O4,O4,Zni (by rw [m b i q,hm])⟩
  .rcases Classical.em (Zwl p a b)with q|q
   .exact q
   .exfalso;have S:∀x,a<=x->x<=b->0<=Zb p x:=λx u v=>by
     rcases(show 0<=Zb p x\/Zb p x<0 by grind)with w|w
     .exact w
     .exact absurd ⟨x,u,v,w⟩ q
    have l:∀x,a<=x->x<b->∃δ:Rat,0<δ/\∀y,x<y->y<=x+δ->y<=b->0<Zb p y:=λx u v=>by
     obtain⟨δ,M,m⟩:=Bo p.length p x (Nat.le_refl _);have r:=Zp8 p.length p x;have r0:=Zf0 p.length p x h.tr h.ne (Nat.le_refl _);refine⟨δ,M,λy G H I=>?_⟩;have s:=m y G H;rcases Pg (Zb p y)with⟨N,P⟩|⟨N,P⟩|⟨N,P⟩
     .exact N
     .have:=S y O4 I;grind
     .rw [P]at s;exact absurd s.symm r0
    obtain⟨δ,M,m⟩:=l a O4 i;obtain⟨z,z1,z2,z3⟩:∃z,a<z/\z<=a+δ/\z<=b:=by
     rcases(show a+δ<=b\/b<=a+δ by grind)with w|w
     .exact⟨a+δ,O4,O4,w⟩
     .exact⟨b,i,w,O4⟩
    have hz:=m z z1 z2 z3;have hσ:Zb (Go.Sky.sqf F o) z≠0:=λe=>h.nz (x:=z) O4 ((h.zero z).1 e);have Z:=Ygm h.otr h.one h.ok (σ:=Zb (Go.Sky.sqf F o) z) hσ i (λx u v=>by
     obtain⟨ε,e1,e2⟩:=l x u v;refine⟨ε,e1,λy G H I=>?_⟩;have hy:=e2 y G H I;have V:Zb (Go.Sky.sqf F o) y≠0:=λe=>h.nz (x:=y) O4 ((h.zero y).1 e);rcases(show 0<Zb (Go.Sky.sqf F o) z*Zb (Go.Sky.sqf F o) y\/Zb (Go.Sky.sqf F o) z*Zb (Go.Sky.sqf F o) y<0\/Zb (Go.Sky.sqf F o) z*Zb (Go.Sky.sqf F o) y=0 by grind)with w|w|w
     .exact w
     .exfalso;obtain⟨c,d,B,hc,hd,e⟩:=h.sq;obtain⟨c',d',Q,R,Y⟩:=h.srt;have w1:Zb o z*Zb o y<0:=Ze9 (Pj R) (Pj Q) (Y z).symm (Y y).symm w;have p1:=Rat.mul_pos hz hy;have q1:((d:Rat)*(d:Rat))*(Zb p z*Zb p y)=((c:Rat)*(c:Rat))*((Zb o z*Zb o y)*((Zb B z*Zb B y)*(Zb B z*Zb B y))):=by
       have a1:=e z;have a2:=e y;have:((d:Rat)*Zb p z)*((d:Rat)*Zb p y)=((c:Rat)*(Zb o z*(Zb B z*Zb B z)))*((c:Rat)*(Zb o y*(Zb B y*Zb B y))):=by rw [a1,a2]
       grind
      have D:=Rat.mul_pos (Gl (Pj hd)) p1;have q3:0<=(Zb B z*Zb B y)*(Zb B z*Zb B y):=by
       by_cases t:Zb B z*Zb B y=0
       .rw [t];grind
       .exact Rat.le_of_lt (Gl t)
      have q4:=Rat.mul_nonneg (Rat.le_of_lt (Gl (Pj hc))) (Rat.mul_nonneg (show 0<=-(Zb o z*Zb o y) by grind) q3);grind
     .rcases Rat.mul_eq_zero.1 w with t|t
      .exact absurd t hσ
      .exact absurd t V)
    unfold Am at k;by_cases g:Zb o b=0
    .rw [if_pos g]at k;rw [if_pos ((h.zero b).2 g)]at Z;omega
    .rw [if_neg g]at k;rw [if_neg (λe=>g ((h.zero b).1 e))]at Z;omega
 .rintro⟨x,x1,x2,W⟩;rcases(show x=a\/x=b\/(a<x/\x<b) by grind)with q|q|⟨q1,D⟩
  .subst q;exact j.1 (.inl W)
  .subst q;exact j.1 (.inr (.inl W))
  .have r:=Zp8 p.length p a;have r0:=Zf0 p.length p a h.tr h.ne (Nat.le_refl _);rcases(show Ea p.length p a<0\/Ea p.length p a=1 by omega)with k|k
   .exact .inl k
   .right;have hv:=Zmn h.tr h.ne h.sz h.hn h.hl h.hF h.eq h.otr h.one h.ok q1 k W;have m1:=Zit h.otr h.one h.ok (Rat.le_of_lt D);unfold Am;by_cases g:Zb o b=0
    .rw [if_pos g];have hx:Zb (Go.Sky.sqf F o) x≠0:=λe=>h.nz (x:=x) O4 ((h.zero x).1 e);rcases Int.lt_or_le (vch F o b) (vch F o x)with w|w
     .omega
     .exfalso;have:=Zc3 h.otr h.one h.ok (Rat.le_of_lt D) w hx b (Rat.le_of_lt D) O4;rw [(h.zero b).2 g]at this;grind
    .rw [if_neg g];omega
theorem Zsq(g:Rat->Rat){h:Rat}(j:0<h):∀(n:Nat) (u v:Rat),u<v->v-u<=(n:Rat)*h->g u*g v<0->∃x y,u<=x/\x<y/\y<=v/\y-x<=h/\g x≠0/\g x*g y<=0
 | 0,u,v,a,b,_=>by push_cast at b;grind
 | n+1,u,v,a,b,c=>by
  push_cast at b;have d:g u≠0:=λe=>by rw [e]at c;grind
  by_cases i:v-u<=h
  .exact⟨u,v,O4,a,O4,i,d,O4⟩
  .rcases(show g u*g (u+h)<=0\/0<g u*g (u+h) by grind)with q|q
   .exact⟨u,u+h,O4,O4,O4,O4,d,q⟩
   .have k:g (u+h)*g v<0:=by
     have D:=Gl d;rcases(show g (u+h)*g v<0\/0<=g (u+h)*g v by grind)with w|w
     .exact w
     .have H:=Rat.mul_pos q (show 0 < -(g u*g v) by grind);have I:=Rat.mul_nonneg (Rat.le_of_lt D) w;grind
    obtain⟨x,y,G,l,m,r,z,B⟩:=Zsq g j n (u+h) v O4 O4 k;exact⟨x,y,O4,l,m,r,z,B⟩
theorem Zmm{c:Rat}(h:a*b<0)(d:a-b<=c)(e:b-a<=c):-c<=a/\a<=c:=by
 rcases(show 0<a\/a<0\/a=0 by grind)with q|q|q
 .have:b<0:=by
   rcases(show b<0\/0<=b by grind)with w|w
   .exact w
   .have:=Rat.mul_nonneg (Rat.le_of_lt q) w;grind
  grind
 .have:0<b:=by
   rcases(show 0<b\/b<=0 by grind)with w|w
   .exact w
   .have:=Rat.mul_nonneg (show 0<=-a by grind) (show 0<=-b by grind);grind
  grind
 .rw [q]at h;grind
theorem Zs2(hx:Tr xs)(h0:xs≠[])(hC:Bs F xs)(ho:Tr o)(o0:o≠[])(hE:Ed o (sqf F xs))(r:u<v)(hu:Zb (sqf F xs) u≠0)(h:Zb o u*Zb o v<0):vch F xs v<vch F xs u:=by
 rcases Int.lt_or_le (vch F xs v) (vch F xs u)with q|q
 .exact q
 .exfalso;have hk:=Zc3 hx h0 hC (Rat.le_of_lt r) q hu;obtain⟨k,w,R,B⟩:=hE;have m:=Pj R;have l:∀d,Tr d->Ed d o->Ed d (tzl w)->d.length<=1:=λd hd e1 M=>by
   obtain⟨g,s1,I,r1⟩:=e1;obtain⟨i,s2,c2,r2⟩:=M;refine Zeq hx h0 hC.1.2.2.1 hd ⟨k*g,lmul w s1,Int.mul_ne_zero R I,λx=>?_⟩ ⟨k*g*i,Nt ((lmul (ld w) s1).map λa=>i*a) ((lmul s2 (ld o)).map λa=>g*a),Int.mul_ne_zero (Int.mul_ne_zero R I) c2,λx=>?_⟩
   .rw [Zt];have Y:=B x;have j:=r1 x;push_cast;grind
   .rw [Xh,Zl,Zl,Zt,Zt,Kn];have W:=Dj (p:=(sqf F xs).map λa=>k*a) (q:=lmul w o) (λy=>by rw [Zl,Zt];exact B y) x;rw [Bx,Ci]at W;have j:=r1 x;have Z:=r2 x;rw [Nr]at Z;push_cast;have b1:(k:Rat)*g*i*Zb (ld (sqf F xs)) x=(g:Rat)*i*(Zb (ld w) x*Zb o x+Zb w x*Zb (ld o) x):=by rw [<-W];grind
    rw [b1];have b2:(g:Rat)*i*(Zb (ld w) x*Zb o x+Zb w x*Zb (ld o) x)=(i:Rat)*(Zb (ld w) x*((g:Rat)*Zb o x))+(g:Rat)*(((i:Rat)*Zb w x)*Zb (ld o) x):=O4;rw [b2,j,Z];grind
  obtain⟨ε,e1,M⟩:=Zy4 ho (Xx w) o0 l u v;obtain⟨G,l1,l2⟩:=Ch u v o;obtain⟨H,m1,m2⟩:=Ch u v w;obtain⟨z,d1,-,d3⟩:=Ho (show(0:Rat)<1 by decide) (show 0<G+H by grind) (show 0<ε/2 by grind);obtain⟨n,hn⟩:=Zfz (v-u) d1;obtain⟨x,y,D,x2,V,x4,x5,x6⟩:=Zsq (Zb o) d1 n u v r hn h;have sx:=hk x D O4;have sy:=hk y O4 V;have ox:=B x;have oy:=B y;have Q:Zb o y≠0:=λe=>by
   rw [e]at oy;rcases Rat.mul_eq_zero.1 (show(k:Rat)*Zb (sqf F xs) y=0 by grind)with t|t
   .exact m t
   .rw [t]at sy;grind
  have N:Zb o x*Zb o y<0:=by
   rcases(show Zb o x*Zb o y<0\/Zb o x*Zb o y=0 by grind)with t|t
   .exact t
   .rcases Rat.mul_eq_zero.1 t with t|t
    .exact absurd t x5
    .exact absurd t Q
  have S:0<Zb (sqf F xs) x*Zb (sqf F xs) y:=by
   have Y:=Rat.mul_pos sx sy;have j:=Gl hu;rcases(show 0<Zb (sqf F xs) x*Zb (sqf F xs) y\/Zb (sqf F xs) x*Zb (sqf F xs) y<=0 by grind)with t|t
   .exact t
   .have:=Rat.mul_nonneg (Rat.le_of_lt j) (show 0<=-(Zb (sqf F xs) x*Zb (sqf F xs) y) by grind);grind
  have P:Zb w x*Zb w y<0:=by
   have Y:(k:Rat)*k*(Zb (sqf F xs) x*Zb (sqf F xs) y)=(Zb w x*Zb w y)*(Zb o x*Zb o y):=by
    have:((k:Rat)*Zb (sqf F xs) x)*((k:Rat)*Zb (sqf F xs) y)=(Zb w x*Zb o x)*(Zb w y*Zb o y):=by rw [ox,oy]
    grind
   have j:=Rat.mul_pos (Gl m) S;rcases(show Zb w x*Zb w y<0\/0<=Zb w x*Zb w y by grind)with t|t
   .exact t
   .have:=Rat.mul_nonneg t (show 0<=-(Zb o x*Zb o y) by grind);grind
  have I:=l2 x y D O4 V;have c2:=m2 x y D O4 V;have n1:=Rat.mul_nonneg (a:=G) (b:=z-(y-x)) O4 O4;have n2:=Rat.mul_nonneg (a:=H) (b:=z-(y-x)) O4 O4;have n3:=Rat.mul_nonneg (a:=G) (b:=z) O4 O4;have n4:=Rat.mul_nonneg (a:=H) (b:=z) O4 O4;obtain⟨b1,b2⟩:=Zmm (c:=ε/2) N O4 O4;obtain⟨b3,b4⟩:=Zmm (c:=ε/2) P O4 O4;rcases M x D O4 with t|t
  .unfold Big at t;grind
  .unfold Big at t;rw [Nr]at t;grind
theorem Zmd(i:Tr xs)(d:xs≠[])(e:Bs F xs)(c:u<v)(g:Zb (sqf F xs) u≠0)(h:Zb (sqf F xs) v=0):vch F xs v<vch F xs u:=by
 rcases Int.lt_or_le (vch F xs v) (vch F xs u)with q|q
 .exact q
 .exfalso;have:=Zc3 i d e (Rat.le_of_lt c) q g v (Rat.le_of_lt c) O4;rw [h]at this;grind
theorem Odp.ed{n:Nat}(h:Odp F n p o):Ed o (Go.Sky.sqf F p):=by have c:=Dp.start h.tr h.ne;obtain⟨-,d⟩:=Fc h.tr h.ne h.sz h.hn h.hl h.hF p.length (Xg p) c (by rw [Pi h.tr];exact Nat.le_refl _);rw [<-h.eq]at d;rwa [Ey c.2.2.1]at d
theorem Ycw(i:Tr xs)(c:xs≠[])(d:Bs F xs)(x:Rat):Zb xs x=0↔Zb (sqf F xs) x=0:=by
 constructor
 .intro h;have j:(x.den:Int)≠0:=by exact_mod_cast x.den_nz
  have e:((x.num:Int):Rat)/((x.den:Int):Rat)=x:=by rw [<-Rat.divInt_eq_div];exact Rat.num_divInt_den x
  have:=Ycy i c d.1.2.2.1 j (r:=x.num) (by rw [e];exact h);rwa [e]at this
 .intro h;obtain⟨g,k⟩:=Yka i c d.1.2.2.1;rw [k x,h];grind
theorem Yk2 {n:Nat}  (h:Odp F n p o) (d:Bs F p) {K:Nat} {e:Nat} (j:∀u v:Rat,-(K:Rat)<=u->u<=v->v<=(K:Rat)->v-u<=1/((2^e:Nat):Rat)->vch F p u-vch F p v<=1)
   (h1:-(K:Rat)+1<=s) (H:t<=(K:Rat)) (hs:0<=Zb p s) (ht:0<=Zb p t) (N:Zwl p s t):1/((2^(e+1):Nat):Rat)<t-s:=by
 obtain⟨x,x1,x2,x3⟩:=N;have l:s<x:=by rcases(show s<x\/s=x by grind)with q|q;exact q;subst q;grind
 have m:x<t:=by rcases(show x<t\/x=t by grind)with q|q;exact q;subst q;grind
 obtain⟨f1,f2,f3,f4,f5,f6⟩:=Oh (F:=F) h.tr h.ne d.1.2.2.1;have i:Zb (Go.Sky.sqf F p) x≠0:=λz=>by have:=(Ycw h.tr h.ne d x).2 z;grind
 rcases(show 1/((2^(e+1):Nat):Rat)<t-s\/t-s<=1/((2^(e+1):Nat):Rat) by grind)with q|q
 .exact q
 .exfalso;have P:=two_pow_pos e;have Q:=two_pow_pos (e+1);have D:((2^(e+1):Nat):Rat)=2*((2^e:Nat):Rat):=by rw [Nat.pow_succ];push_cast;grind
  have hi:0<((2^e:Nat):Rat)⁻¹:=Rat.inv_pos.2 P;have I:1/((2^(e+1):Nat):Rat)=((2^e:Nat):Rat)⁻¹/2:=by rw [D];grind
  have G:1/((2^e:Nat):Rat)=((2^e:Nat):Rat)⁻¹:=O4;have M:((2^e:Nat):Rat)⁻¹<=1:=by
   have Z:(1:Rat)<=((2^e:Nat):Rat):=by have:1<=2^e:=Nat.two_pow_pos e;exact_mod_cast this
   have g2:=Rat.mul_nonneg (a:=((2^e:Nat):Rat)-1) (b:=((2^e:Nat):Rat)⁻¹) O4 O4;have g3:((2^e:Nat):Rat)*((2^e:Nat):Rat)⁻¹=1:=Rat.mul_inv_cancel _ O4;grind
  obtain⟨u,u1,u2,u3⟩:∃u,s-((2^e:Nat):Rat)⁻¹/2<=u/\u<=s/\vch F p x<vch F p u:=by
   by_cases z:Zb (Go.Sky.sqf F p) s=0
   .obtain⟨δ,Y,B⟩:=Bo (Go.Sky.sqf F p).length (Go.Sky.sqf F p) (s-((2^e:Nat):Rat)⁻¹/2) (Nat.le_refl _);have r:=Zf0 (Go.Sky.sqf F p).length (Go.Sky.sqf F p) (s-((2^e:Nat):Rat)⁻¹/2) f2 f3 (Nat.le_refl _);obtain⟨u,S,V,W⟩:∃u,s-((2^e:Nat):Rat)⁻¹/2<u/\u<=s-((2^e:Nat):Rat)⁻¹/2+δ/\u<s:=by
     rcases(show s-((2^e:Nat):Rat)⁻¹/2+δ<s\/s<=s-((2^e:Nat):Rat)⁻¹/2+δ by grind)with w|w
     .exact⟨_,O4,Rat.le_refl,w⟩
     .exact⟨s-((2^e:Nat):Rat)⁻¹/4,O4,O4,O4⟩
    have R:Zb (Go.Sky.sqf F p) u≠0:=λc=>by have:=B u S V;rw [c]at this;exact r this.symm
    have m1:=Zmd h.tr h.ne d W R z;have m2:=Zit h.tr h.ne d (Rat.le_of_lt l);exact⟨u,O4,O4,O⟩
   .have g:0<Zb p s:=by have:Zb p s≠0:=λc=>z ((Ycw h.tr h.ne d s).1 c);grind
    have k:=h.opp (x:=s) (y:=x) (by have:=Rat.mul_pos g (show 0 < -Zb p x by grind);grind);exact⟨s,O4,O4,Zs2 h.tr h.ne d h.otr h.one h.ed l z k.1⟩
  have u4:vch F p t<vch F p x:=by
   by_cases z:Zb (Go.Sky.sqf F p) t=0
   .exact Zmd h.tr h.ne d m i z
   .have g:0<Zb p t:=by have:Zb p t≠0:=λc=>z ((Ycw h.tr h.ne d t).1 c);grind
    have k:=h.opp (x:=x) (y:=t) (by have:=Rat.mul_pos g (show 0 < -Zb p x by grind);grind);exact Zs2 h.tr h.ne d h.otr h.one h.ed m i k.1
  have:=j u t O4 O4 H O4;omega
end Go.Sky

