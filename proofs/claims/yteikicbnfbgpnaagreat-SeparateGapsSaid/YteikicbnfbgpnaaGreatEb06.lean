/- Rules, arithmetic and contracts: part 7. No conditions but those that each theorem names. -/
import Derived.Test.YteikicbnfbgpnaaGreatEb05
set_option linter.all false
namespace Go.Sky
variable{F K:Nat}{xs a p t u b q:List Int}{z:R2}{k:Int}
def vch(F:Nat)(xs:List Int)(x:Rat):Int:=vat ((chn F xs).map Zd) x
def cvc_v(h:0<z.2):cvc F xs z=vch F xs (qv z):=Yo1 h
def Sqn(P:R2->R2->Prop)(hi:Rat):Rat->List (R2×R2)->Prop
 | d,[]=>d<=hi
 | d,c::r=>d<=qv c.1/\qv c.1<qv c.2/\P c.1 c.2/\Sqn P hi (qv c.2) r
theorem Sqn.le{P:R2->R2->Prop}{hi:Rat} : ∀{lo:Rat} {l:List (R2×R2)},Sqn P hi lo l->lo<=hi
 | lo,[],h=>h
 | lo,c::r,h=>by have:=Sqn.le h.2.2.2;have:=h.1;have:=h.2.1;grind
theorem Sqn.low{P:R2->R2->Prop}{hi:Rat}{lo d:Rat}(e:d<=lo):∀{l:List (R2×R2)},Sqn P hi lo l->Sqn P hi d l
 | [],h=>by have h:lo<=hi:=h;show d<=hi;grind
 | c::r,h=>⟨by have:=h.1;grind,h.2⟩
def Sqn.app{P:R2->R2->Prop}{d hi:Rat}{g:List (R2×R2)}(e:Sqn P hi d g):∀{lo:Rat} {f:List (R2×R2)},Sqn P d lo f->Sqn P hi lo (f ++ g)
 | lo,[],h=>e.low h
 | lo,c::r,h=>⟨h.1,h.2.1,h.2.2.1,Sqn.app e h.2.2.2⟩
theorem Zpf{a:R2}(j:0<a.2)(h:a.1.natAbs<=K):-(K:Rat)<=qv a/\qv a<=(K:Rat):=by
 obtain⟨g,i⟩:=Ykd h;have l:(1:Rat)<=(a.2:Rat):=by exact_mod_cast (show 1<=a.2 by omega)
 have c:(0:Rat)<=(K:Rat):=Gw (Nat.zero_le _);have hi:=Rat.inv_pos.2 (show 0<(a.2:Rat) by grind);have d:(a.2:Rat)*(a.2:Rat)⁻¹=1:=O4;unfold qv;rw [Rat.div_def];have t1:=Rat.mul_nonneg (a:=(a.2:Rat)⁻¹) (b:=(K:Rat)*a.2-a.1) O4 (by have:=Rat.mul_nonneg (a:=(K:Rat)) (b:=(a.2:Rat)-1) c O4;grind);have t2:=Rat.mul_nonneg (a:=(a.2:Rat)⁻¹) (b:=(K:Rat)*a.2+a.1) O4 (by have:=Rat.mul_nonneg (a:=(K:Rat)) (b:=(a.2:Rat)-1) c O4;grind);have e:(a.2:Rat)⁻¹*((K:Rat)*a.2-a.1)=(K:Rat)*(a.2*(a.2:Rat)⁻¹)-a.1*(a.2:Rat)⁻¹:=O4;have f:(a.2:Rat)⁻¹*((K:Rat)*a.2+a.1)=(K:Rat)*(a.2*(a.2:Rat)⁻¹)+a.1*(a.2:Rat)⁻¹:=O4;rw [e,d]at t1;rw [f,d]at t2;constructor<;>grind
theorem Zcg{a:R2}{n:Nat}(c:0<a.2)(h:bl a.1.natAbs<=n)(i:bl a.2.natAbs<=n)(l:n<=65536) :
  ¬Ll a.1 a.2/\0<(slow a).2/\bl (slow a).1.natAbs<=n/\bl (slow a).2.natAbs<=n/\qv (slow a)=qv a:=by
 obtain⟨f1,f2,f3,f4,f5,f6⟩:=Zp4 (x:=a.1) (y:=a.2) (X:=a.1) (Y:=a.2) c c rfl h i l;refine⟨f1,f3,f4,f5,?_⟩;have r1:=Gf c;have r2:=Gf f3;have j:((Gy a.1 a.2:Int):Rat)*(a.2:Rat)=(a.1:Rat)*((Ge a.1 a.2:Int):Rat):=by exact_mod_cast f6
 show((Gy a.1 a.2:Int):Rat)/((Ge a.1 a.2:Int):Rat)=(a.1:Rat)/(a.2:Rat);generalize ((Gy a.1 a.2:Int):Rat)=N at *;generalize ((Ge a.1 a.2:Int):Rat)=D at *;generalize (a.1:Rat)=x at *;generalize (a.2:Rat)=y at *;have:N/D*(D*y)=x/y*(D*y):=by have d:N/D*(D*y)=N*y:=O4;have e:x/y*(D*y)=x*D:=O4;rw [d,e,j]
 have m:=Rat.mul_pos r2 r1;have f:N/D=N/D*(D*y)*(D*y)⁻¹:=O4;have g:x/y=x/y*(D*y)*(D*y)⁻¹:=O4;rw [f,this,<-g]
theorem sep_of  {A e:Nat} (x:Tr xs) (f:xs≠[]) (n:Ae F xs) (o:0<K) (m:0<A) (y:∀i,(cf (sqf F xs) i).natAbs<=A) (B:∀i,(cf (Xd (sqf F xs)) i).natAbs<=A)
  (hs:2<=(sqf F xs).length->Zyv K A (sqf F xs).length e=true) (u v:Rat) (j:-(K:Rat)<=u) (c:u<=v) (l:v<=(K:Rat)) (w:v-u<=1/((2^e:Nat):Rat)):vch F xs u-vch F xs v<=1:=by
 by_cases d:2<=(sqf F xs).length
 .have h:=Ypd x f n o m rfl d y B (hs d) j c l w;show vat _ u-vat _ v<=1;rw [h];unfold crs;split<;>decide
 .have D:=Nv (sqf F xs);have s:Xd (sqf F xs)=[]:=List.eq_nil_of_length_eq_zero O;have r:chn F xs=[sqf F xs]:=by unfold chn;rw [s,Ycl,Bo]
  unfold vch vat;rw [r];have r1:=Zhx (([Zd (sqf F xs)]).map λg=>Er (g u));have r2:=Zhx (([Zd (sqf F xs)]).map λg=>Er (g v));simp only [List.map_cons,List.map_nil,List.length_cons,List.length_nil]at r1 r2 ⊢;omega
theorem Sqn.mem{P:R2->R2->Prop}{hi:Rat} : ∀{lo:Rat} {l:List (R2×R2)},Sqn P hi lo l->∀c∈l,P c.1 c.2
 | _,[],_,c,e=>by cases e
 | lo,d::r,h,c,e=>by
  rcases List.mem_cons.1 e with rfl|e
  .exact h.2.2.1
  .exact Sqn.mem h.2.2.2 c e
theorem en_bl{Q d B:Nat}(h:En K Q d z)(g:0<Q)(s:Q*2^d<2^B)(v:K*(Q*2^d)<2^B):bl z.1.natAbs<=B/\bl z.2.natAbs<=B:=by
 obtain⟨j,i,w,y⟩:=h;have c:0<Q*2^d:=Nat.mul_pos g (Nat.pow_pos O2);have f:z.2.natAbs<=Q*2^d:=by have:=Int.natAbs_dvd_natAbs.2 i;rw [Int.natAbs_natCast]at this;exact Nat.le_of_dvd c this
 have l:z.1.natAbs<=K*z.2.natAbs:=by
  have r:=Gf j;have e:(z.1:Rat)=qv z*z.2:=by unfold qv;grind
  have t1:=Rat.mul_nonneg (a:=(K:Rat)-qv z) (b:=(z.2:Rat)) O4 O4;have t2:=Rat.mul_nonneg (a:=(K:Rat)+qv z) (b:=(z.2:Rat)) O4 O4;have x:((K*z.2.natAbs:Nat):Int)=(K:Int)*z.2:=by push_cast;rw [Int.natAbs_of_nonneg O]
  have n:((z.1:Int):Rat)<=(((K:Int)*z.2:Int):Rat):=by push_cast;grind
  have o:((-((K:Int)*z.2):Int):Rat)<=((z.1:Int):Rat):=by push_cast;grind
  have D:z.1<=(K:Int)*z.2:=by exact_mod_cast n
  have G:-((K:Int)*z.2)<=z.1:=by exact_mod_cast o
  omega
 have m:K*z.2.natAbs<=K*(Q*2^d):=Nat.mul_le_mul_left _ f;exact⟨Zc7 O,Zc7 O⟩
theorem Yi6{n e w Q B:Nat}(h:En (2^n) Q (e+w) z)(o:0<Q)(g:Q<2^(2*n))(r:3*n+1+(e+w)<=B):bl z.1.natAbs<=B/\bl z.2.natAbs<=B:=by
 have c:∀m,m<=B->2^m<=2^B:=λm h=>Nat.pow_le_pow_right O2 h;have f:0<2^(e+w):=Nat.pow_pos O2;have d:Q*2^(e+w)<2^(2*n)*2^(e+w):=Nat.mul_lt_mul_of_pos_right g f;have j:2^n*(Q*2^(e+w))<2^n*(2^(2*n)*2^(e+w)):=Nat.mul_lt_mul_of_pos_left d (Nat.pow_pos O2);have i:2^(2*n)*2^(e+w)=2^(2*n+(e+w)):=(Nat.pow_add _ _ _).symm;have l:2^n*(2^(2*n)*2^(e+w))=2^(n+(2*n+(e+w))):=by rw [i,<-Nat.pow_add]
 rw [i]at d;rw [l]at j;exact en_bl h o (Nat.lt_of_lt_of_le d (c _ O)) (Nat.lt_of_lt_of_le j (c _ O))
theorem Ed.const{g:List Int}(h:Ed g a)(o:Tr g)(m:Tr a)(l:a≠[])(w:g.length=a.length):∃k c:Int,k≠0/\c≠0/\∀x:Rat,(k:Rat)*Zd a x=(c:Rat)*Zd g x:=by
 obtain⟨k,s,i,h⟩:=h;obtain⟨v,f,j⟩:=Zxf i o m l h;have e:=List.length_pos_iff.2 f
 match hs:tzl s,e,j with
 | [c],_,_=>
  have n:c≠0:=by have:=(Qc s).mem f;rw [hs]at this;exact this
  refine⟨k,c,i,n,λx=>?_⟩;rw [h x,<-Ny s,hs,Pj]
 | c::d::r,_,h9=>simp at h9;omega
theorem Gz(p:List Int)(c:Int)(x:Rat):Zd (Zm p c) x=(c:Rat)*Zd p x:=by rw [<-Zk];exact Om x _ _ λi=>by rw [Yu,Qi,Int.mul_comm]
theorem Znv{c:Int}(h:Tr p)(f:p≠[])(g:c≠0):Zm p c≠[]:=λe=>by have d:=Yu p c (p.length-1);rw [e,Zbz]at d;exact Int.mul_ne_zero (h.mem f) g d.symm
theorem Ed.dv{g:List Int}(h:Ed g a):Dv g a:=by obtain⟨k,s,d,h⟩:=h;refine⟨k,s,d,λt=>?_⟩;have:=Oy (p:=a.map λc=>k*c) (q:=Qn s g) (λx=>by rw [Zk,Yi];exact h x) t;rw [Qi,Hg]at this;exact this
theorem ed_cop{w s:List Int}(G:k≠0)(m:Tr t)(I:Tr w)(t0:t≠[])(D:∀d,Tr d->Ed d t->Ed d w->d.length<=1)(h:∀x:Rat,(k:Rat)*(Zd u x*Zd w x)=Zd s x*Zd t x):Ed t u:=by
 obtain⟨g,A,B,f,j,n,y⟩:=Zmg w.length t w m I (Nat.le_refl _);have H:=D g f j n;have i:=(j.len f m t0).1
 match hgg:g,H,i with
 | [c],_,_=>
  have e:c≠0:=by have:=f.mem O7;exact this
  refine⟨k*c,Ma ((Qn A u).map λa=>k*a) (Qn B s),Int.mul_ne_zero G e,λx=>?_⟩;rw [Xh,Zk,Yi,Yi];have l:=y x;rw [Pj]at l;have o:=h x;push_cast;rw [show(k:Rat)*c*Zd u x=k*(Zd u x*(c:Rat)) by grind,l];have v:(k:Rat)*(Zd u x*(Zd A x*Zd t x+Zd B x*Zd w x))=k*Zd A x*Zd u x*Zd t x+Zd B x*(k*(Zd u x*Zd w x)):=O4;rw [v,o];grind
 | c::d::r,h9,_=>simp at h9
def Pu(F:Nat)(p:List Int):List Int:=Mh F (Xe p) (Xd (Xe p))
def Eh(F:Nat)(p:List Int):Prop:=eok F (gA (Xe p) (Xd (Xe p))) (gB (Xe p) (Xd (Xe p)))
theorem Qv(h:Tr p)(i:p≠[])(g:Eh F p):Tr (Pu F p)/\Pu F p≠[]/\Xe (Pu F p)=Pu F p/\Xe p=Qn (sqf F p) (Pu F p)/\(sqf F p).length+(Pu F p).length=p.length+1:=by obtain⟨f1,f2,f3,f4,f5,f6⟩:=Ol (F:=F) h i g;have c:Tr (Xe p):=Ov (Xb h);have d:Tr (Xd (Xe p)):=Mp c;have f:=Zff (F:=F) c d;have j:=Oo f2 f f3 f5;rw [<-f4,Pm h]at j;have l:=List.length_pos_iff.2 f3;have m:=List.length_pos_iff.2 f5;refine⟨f,f5,Zwt f (Zkz c d f5) (Bu (Zus F (Zj4 c d) (Zj3 c d)) (λe=>f5 (by unfold Mh;rw [e];rfl))),f4,?_⟩;unfold Pu;omega
theorem Ymv{h:List Int}(i:Tr h)(g:h≠[]){m:Int}(e:∀x:Rat,(k:Rat)*(Zd a x*Zd h x)=(m:Rat)*(Zd b x*Zd h x))(x:Rat):(k:Rat)*Zd a x=(m:Rat)*Zd b x:=by
 have d:=Ea (v:=h) (f:=Ma (a.map λc=>k*c) (b.map λc=>(-m)*c)) (by rw [Zab i];exact g) (λx=>by rw [Xh,Zk,Zk];have:=e x;push_cast;grind) x
 rw [Xh,Zk,Zk]at d;push_cast at d;grind
theorem Zzo(R:Tr p)(h0:p≠[])(l:Eh F p)(e:Eh F (Pu F p)):Ed (sqf F (Pu F p)) (sqf F p):=by
 obtain⟨n,Y,f,a4,a5⟩:=Qv R h0 l;obtain⟨D,B,b3,Z,b5⟩:=Qv n Y e;obtain⟨-,u2,u3,-,-,-⟩:=Ol (F:=F) R h0 l;obtain⟨-,t2,t3,-,-,-⟩:=Ol (F:=F) n Y e;have ht:Tr (Xe p):=Ov (Xb R);have o:Ed (Pu F p) (Xd (Xe p)):=(Zdl ht (Mp ht) l).2.ed;have e2:Ed (Pu F (Pu F p)) (Xd (Pu F p)):=by have:=(Zdl (F:=F) (p:=Xe (Pu F p)) (q:=Xd (Xe (Pu F p))) (by rw [f];exact n) (Mp (by rw [f];exact n)) e).2.ed;have h9:Pu F (Pu F p)=Mh F (Xe (Pu F p)) (Xd (Xe (Pu F p))):=rfl;rw [<-h9,f]at this;exact this
 have N:∀d,Tr d->Ed d (Pu F p)->Ed d (Xd (Pu F p))->Ed d (Pu F (Pu F p)):=λd H i r=>by unfold Pu at *;have:=Zkx (F:=F) (d:=d) (p:=Xe (Mh F (Xe p) (Xd (Xe p)))) (q:=Xd (Xe (Mh F (Xe p) (Xd (Xe p))))) (by rw [f];exact n) (Mp (by rw [f];exact n)) (by rw [f];exact i) (by rw [f];exact r);exact this
 rw [f]at Z;generalize hg:Pu F p=g at *;generalize hh:Pu F g=h at *;generalize hu:sqf F p=u at *;generalize a0:sqf F g=t at *;obtain⟨k,s,hk,P⟩:=o;obtain⟨m,w,hm,Q⟩:=e2;have hP:∀x:Rat,Zd (Xe p) x=Zd (lmul u g) x:=λx=>by rw [a4,Yi,Zx]
 have hG:∀x:Rat,Zd g x=Zd (lmul t h) x:=λx=>by
  have:Zd g x=Zd (Qn t h) x:=by rw [<-Z]
  rw [this,Yi,Zx]
 have I:∀x:Rat,Zd (Xd (Xe p)) x=Zd (ld u) x*Zd g x+Zd u x*Zd (ld g) x:=λx=>by rw [Kw,Ca hP,Cr]
 have v:∀x:Rat,(m:Rat)*Zd (ld g) x=Zd w x*Zd h x:=λx=>by rw [<-Kw];exact Q x
 have V:∀x:Rat,(k:Rat)*(Zd (Qn u w) x*Zd h x)=(m:Rat)*(Zd (Qn (Ma s ((ld u).map λc=>(-k)*c)) t) x*Zd h x):=λx=>by rw [Yi,Yi,Xh,Zk];have i:=P x;have r:=I x;have h3:=v x;have h4:=hG x;rw [Zx]at h4;rw [r]at i;have:(k:Rat)*(Zd u x*Zd w x*Zd h x)=Zd u x*k*(Zd w x*Zd h x):=O4;rw [this,<-h3];push_cast;have:Zd u x*(k:Rat)*(m*Zd (ld g) x)=m*(k*(Zd (ld u) x*Zd g x+Zd u x*Zd (ld g) x)-k*Zd (ld u) x*Zd g x):=O4;rw [this,i,h4];grind
 have y:=Ymv D B V;refine ed_cop (s:=(Qn (Ma s ((ld u).map λc=>(-k)*c)) [m])) hk t2 (w:=tzl w) (Qc w) t3 (λd H i r=>?_) (λx=>?_)
 .have G:Ed d w:=r.congr λx=>Ny w x;have M:Ed (Qn d h) h:=N _ (Qa _ _) (by
   obtain⟨S,W,j,o⟩:=i;exact⟨S,W,j,λx=>by rw [hG x,Zx,Yi];have:=o x;grind⟩) (by
   obtain⟨S,W,j,o⟩:=G;exact⟨S*m,W,Int.mul_ne_zero j hm,λx=>by rw [Kw,Yi];have:=o x;have:=v x;push_cast;grind⟩)
  have d0:=(i.len H t2 t3).1;have hl:=Oo H D d0 B;have:=(M.len (Qa _ _) D B).2;have l2:=List.length_pos_iff.2 B;omega
 .rw [Ny,Yi,Pj];have:=y x;rw [Yi,Yi]at this;rw [this];grind
theorem Ycj(o:Tr u)(r:u≠[])(d:Tr t)(t0:t≠[])(m:Xe t=t)(h:Ed t u):pdv u t/\u=Qn (Kz u t) t/\Tr (Kz u t)/\Kz u t≠[]:=by
 have j:Ym t=1:=by have:=Zaw d t0;rwa [m]at this
 obtain⟨k,s,l,h⟩:=h.dv;obtain⟨q,n⟩:=gauss j _ k s rfl l h;have c:u=Qn (tzl q) t:=o.ext (Qa _ _) λi=>by rw [Hg,n,Zpg]
 obtain⟨f,g⟩:=Zpp (Qc q) d t0;rw [<-c]at f g;rw [g];exact⟨f,c,Qc q,λe=>r (by rw [c,e,Fc])⟩
theorem Zlp(d:Tr p)(j:p≠[])(c:Eh F p)(m:2<=p.length):(Pu F p).length<p.length:=by obtain⟨h,l,-⟩:=Qv d j c;have f:Tr (Xe p):=Ov (Xb d);have i:Ed (Pu F p) (Xd (Xe p)):=(Zdl f (Mp f) c).2.ed;have g:=Nv (Xe p);have n:=Pm d;have:=(i.len h (Mp f) (λe=>by rw [e]at g;simp at g;omega)).2;omega
theorem Ynh(l:Tr p)(n:Xe p=p)(d:p.length=1):p=[1]:=by
 have f:p≠[]:=λe=>by rw [e]at d;simp at d
 have h:=Zaw l f;have j:0<cf (Xe p) ((Xe p).length-1):=Bu (Xb l) (λe=>f (List.eq_nil_of_length_eq_zero (by rw [<-Ya,e];rfl)));rw [n]at h j
 match p,d with
 | [c],_=>
  have m:0<c:=j;have g:c∣Ym [c]:=Fn λi=>by
   match i with
   | 0=>exact Int.dvd_refl c
   | i+1=>rw [Yl O7];exact Int.dvd_zero c
  rw [h]at g;have:=Int.le_of_dvd O2 g;rw [show c=1 by omega]
def Dp(p q:List Int):Prop:=Tr q/\q≠[]/\Xe q=q/\∃a,Tr a/\Xe p=Qn a q
theorem Dp.start(c:Tr p)(d:p≠[]):Dp p (Xe p):=
 ⟨Ov (Xb c),Zk2 c d,Zwt (Ov (Xb c)) (Zaw c d) (Bu (Xb c) (λe=>d (List.eq_nil_of_length_eq_zero (by rw [<-Ya,e];rfl)))),[1],.inr (show cf [1] 0≠0 by decide),by refine(Ov (Xb c)).ext (Qa _ _) λi=>?_;rw [Hg,Ztu];rfl⟩
theorem Dp.sz{n:Nat}(g:Tr p)(o:p≠[])(hs:Sz n p)(x:p.length<=13)(h:Dp p q):Sz (n+15) q/\q.length<=p.length:=by obtain⟨j,r,w,a,l,e⟩:=h;have s:fcs 0 13<=2^15*2^15:=O6;have d:=Pm g;have c:=Zk2 g o;have v:Tr (Xe p):=Ov (Xb g);have i:a≠[]:=λm=>c (by rw [e,m,Fc]);refine⟨De (L:=13) (R:=24) j l (Zv4 hs) c v O O2 s (by rw [Be];exact e),?_⟩;have f:=Oo l j i r;rw [<-e,d]at f;have:=List.length_pos_iff.2 i;omega
theorem Dp.ok{n:Nat}(d:Tr p)(c:p≠[])(hs:Sz n p)(i:n<=220)(g:p.length<=11)(f:p.length<=F+1)(h:Dp p q):Ae F q/\Eh F q:=by obtain⟨e,j⟩:=h.sz d c hs O;have:=(chG F h.1 h.2.1 e O O O).1;exact⟨this,this.1.2.2.1⟩
theorem Dp.next(h:Dp p q)(c:Eh F q):Dp p (Pu F q):=by obtain⟨l,m,n,a,r,e⟩:=h;obtain⟨f,g,j,d,o⟩:=Qv l m c;refine⟨f,g,j,Qn a (sqf F q),Qa _ _,?_⟩;rw [n]at d;refine e.trans ((congrArg (Qn a) d).trans ?_);refine(Qa _ _).ext (Qa _ _) λi=>Oy (λx=>?_) i;rw [Yi,Yi,Yi,Yi];grind
def Cj(F:Nat):Nat->List Int->List Int
 | 0,p=>sqf F p
 | f+1,p=>if(sqf F p).length=1 then sqf F p else Qn (Kz (sqf F p) (sqf F (Pu F p))) (Cj F f (Pu F (Pu F p)))
def Ztx(F:Nat):Nat->List Int->List Int->List Int
 | 0,c,_=>c
 | f+1,c,q=>if(sqf F q).length=1 then c else if(sqf F (Pu F q)).length=1 then Qn c (Kz (sqf F q) (sqf F (Pu F q)))else Ztx F f (Qn c (Kz (sqf F q) (sqf F (Pu F q)))) (Pu F (Pu F q))
theorem Zfi(e:Tr q)(d:q≠[])(c:Eh F q)(h:(sqf F q).length=1):sqf F q=[1]/\q.length=1/\(Pu F q).length=1:=by
 obtain⟨f1,f2,f3,f4,f5,f6⟩:=Ol (F:=F) e d c;obtain⟨i,j,l,m,n⟩:=Qv e d c;have o:=List.length_pos_iff.2 d;have g:q.length=1:=by
  rcases Nat.lt_or_ge q.length 2 with f|f
  .omega
  .have:=Zlp e d c f;omega
 exact⟨Ynh f2 f6 h,g,O⟩
theorem Zpn(c:Tr p):Qn p [1]=p:=by refine(Qa _ _).ext c λi=>Oy (λx=>?_) i;rw [Yi,Pj];push_cast;grind
theorem Ygs(e:Tr q)(d:q≠[])(c:Eh F q)(h:q.length=1):∀f,Cj F f q=[1]:=λf=>by
 obtain⟨f1,f2,f3,f4,f5,f6⟩:=Ol (F:=F) e d c;obtain⟨i,g,j,l,m⟩:=Qv e d c;have n:=List.length_pos_iff.2 f3;have o:=List.length_pos_iff.2 g;have hs:(sqf F q).length=1:=O;have:=(Zfi e d c hs).1;cases f with
 | zero=>exact this
 | succ f=>unfold Cj;rw [if_pos hs];exact this
theorem Zpm{p:List Int}{f:Nat}(e:Tr q)(d:q≠[])(c:Eh F q):Tr (Cj F f q):=by
 obtain⟨f1,f2,f3,f4,f5,f6⟩:=Ol (F:=F) e d c;cases f with
 | zero=>exact f2
 | succ f=>unfold Cj;split;exact f2;exact Qa _ _
theorem Yng{n:Nat}(B:Tr p)(r:p≠[])(hs:Sz n p)(y:n<=220)(v:p.length<=11)(s:p.length<=F+1):∀(f:Nat) (g q:List Int),Tr g->Dp p q->q.length<=f->Ztx F f g q=Qn g (Cj F f q):=by
 intro f
 induction f with
 | zero=>intro g q _ d w;have:=List.length_pos_iff.2 d.2.1;omega
 | succ f I=>
  intro g q H d w;have e:=(d.ok B r hs y v s).2;have j:=d.next e;have c:=(j.ok B r hs y v s).2;have h:=j.next c;have m:=(h.ok B r hs y v s).2;unfold Ztx Cj;by_cases l:(sqf F q).length=1
  .rw [if_pos l,if_pos l,(Zfi d.1 d.2.1 e l).1,Zpn H]
  .rw [if_neg l,if_neg l];have M:2<=q.length:=by obtain⟨f1,f2,f3,f4,f5,f6⟩:=Ol (F:=F) d.1 d.2.1 e;obtain⟨Q,D,R,S,V⟩:=Qv d.1 d.2.1 e;have Z:=List.length_pos_iff.2 f3;have l2:=List.length_pos_iff.2 D;omega
   have N:=Zlp d.1 d.2.1 e M;obtain⟨-,-,-,-,Y⟩:=Qv j.1 j.2.1 c;obtain⟨-,W,G,-,-,-⟩:=Ol (F:=F) j.1 j.2.1 c;have lb:=List.length_pos_iff.2 G;by_cases o:(sqf F (Pu F q)).length=1
   .obtain⟨s1,s2,P⟩:=Zfi j.1 j.2.1 c o;rw [if_pos o,Ygs h.1 h.2.1 m P];refine(Qa _ _).ext (Qa _ _) λi=>Oy (λx=>?_) i;rw [Yi,Yi,Yi,Pj];push_cast;grind
   .rw [if_neg o,I _ _ (Qa _ _) h O];refine(Qa _ _).ext (Qa _ _) λi=>Oy (λx=>?_) i;rw [Yi,Yi,Yi,Yi];grind
theorem Zwq{e:Int}(f:e=1\/e=-1)(h:Ym q=1):Ym (Zm q e)=1:=by
 have c:Ym (Zm q e)∣Ym q:=Fn λi=>by
  have:=Lo (Zm q e) i;rw [Yu]at this;rcases f with rfl|rfl
  .rwa [Int.mul_one]at this
  .rw [Int.mul_neg_one]at this;exact(Int.dvd_neg.1 this)
 rw [h]at c;have g:=Nb (Zm q e);have j:=Int.le_of_dvd O2 c;rcases(show Ym (Zm q e)=0\/Ym (Zm q e)=1 by omega)with d|d
 .rw [d]at c;exact absurd (Int.zero_dvd.1 c) O2
 .exact d
theorem Ygo(h:Ym q=1):Zz q=q:=by unfold Zz;rw [h];simp
theorem Zsv{e:Int}(d:Tr q)(f:q≠[])(g:Xe q=q)(c:Eh F q)(l:e=1\/e=-1) :
  Tr (Zm q e)/\Zm q e≠[]/\Xe (Zm q e)=q/\Zz (Zm q e)=Zm q e/\pdv (Zm q e) (sqf F q)/\Kz (Zm q e) (sqf F q)=Zm (Pu F q) e:=by
 have j:e≠0:=by rcases l with rfl|rfl<;>decide
 obtain⟨f1,f2,f3,f4,f5,f6⟩:=Ol (F:=F) d f c;obtain⟨s,v,w,h,y⟩:=Qv d f c;have o:Ym q=1:=by have:=Zaw d f;rwa [g]at this
 rw [g]at h;have r:Zm q e=Qn (Zm (Pu F q) e) (sqf F q):=by
  refine(Qk _ _).ext (Qa _ _) λi=>Oy (λx=>?_) i;have:Zd q x=Zd (Qn (sqf F q) (Pu F q)) x:=by rw [<-h]
  rw [Gz,Yi,Gz,this,Yi];grind
 obtain⟨m,n⟩:=Zpp (Qk (Pu F q) e) f2 f3;rw [<-r]at m n;exact⟨Qk _ _,Znv d f j,by rw [Zzp (Qk _ _) d (Zem q j).symm,g],Ygo (Zwq l o),m,n⟩
theorem Ygn(c:Tr p)(d:p≠[]):∃e:Int,(e=1\/e=-1)/\Zz p=Zm (Xe p) e:=by
 by_cases h:cf (Zz p) ((Zz p).length-1)<0
 .refine⟨-1,.inr rfl,?_⟩;rw [Zpw (λe=>d (List.eq_nil_of_length_eq_zero (by rw [<-Ya,e]))) h];refine(Xb c).ext (Qk _ _) λi=>?_;rw [Yu,Yu];omega
 .refine⟨1,.inl rfl,?_⟩;rw [Zpv h];refine(Xb c).ext (Qk _ _) λi=>?_;rw [Yu];omega
def Ms(F:Nat)(p:List Int):List Int:=Kz (Zm (Zz p) 1) (sqf F p)
def Zb2(F:Nat)(p:List Int):List Int:=Kz (Zz (Ms F p)) (sqf F (Ms F p))
def Zwg(F:Nat):Nat->List Int->List Int
 | 0,p=>sqf F p
 | f+1,p=>if(sqf F p).length=1 then sqf F p else Qn (Kz (sqf F p) (sqf F (Ms F p))) (Zwg F f (Zb2 F p))
theorem Dl(h:Xe p=Xe q):sqf F p=sqf F q:=by unfold sqf;rw [h]
theorem Zjj(h:Xe p=Xe q):Pu F p=Pu F q:=by unfold Pu;rw [h]
theorem Zts(h:Xe p=Xe q):∀f,Cj F f p=Cj F f q
 | 0=>Dl h
 | f+1=>by unfold Cj;rw [Dl h,Zjj h]
theorem Zko(v:Tr p)(r:p≠[])(d:Eh F p)(c:Eh F (Pu F p)) :
  (∃e:Int,(e=1\/e=-1)/\Zm (Zz p) 1=Zm (Xe p) e/\pdv (Zm (Xe p) e) (sqf F p)/\Ms F p=Zm (Pu F p) e/\Zz (Ms F p)=Ms F p/\pdv (Ms F p) (sqf F (Pu F p))/\Zb2 F p=Zm (Pu F (Pu F p)) e)/\
  Xe (Ms F p)=Pu F p/\Xe (Zb2 F p)=Pu F (Pu F p)/\Tr (Ms F p)/\Ms F p≠[]/\Tr (Zb2 F p)/\Zb2 F p≠[]:=by
 obtain⟨V,W,j,-⟩:=Dp.start v r;have f:Eh F (Xe p):=by unfold Eh;rw [j];exact d
 have s:Pu F (Xe p)=Pu F p:=Zjj j;have h:sqf F (Xe p)=sqf F p:=Dl j;obtain⟨e,l,w⟩:=Ygn v r;have g:Zm (Zz p) 1=Zm (Xe p) e:=by rw [w];refine(Qk _ _).ext (Qk _ _) λi=>?_;rw [Yu,Int.mul_one]
 obtain⟨-,-,-,-,G,H⟩:=Zsv V W j f l;rw [s,h]at H;rw [h]at G;have S:Ms F p=Zm (Pu F p) e:=by unfold Ms;rw [g,H]
 obtain⟨y,B,D,-,-⟩:=Qv v r d;obtain⟨I,M,n,o,N,P⟩:=Zsv y B D c l;rw [<-S]at I M n o N P;have x:sqf F (Ms F p)=sqf F (Pu F p):=Dl (by rw [n,D]);have m:Zb2 F p=Zm (Pu F (Pu F p)) e:=by unfold Zb2;rw [o,x,P]
 obtain⟨R,Y,Z,-,-⟩:=Qv y B c;have Q:e≠0:=by rcases l with rfl|rfl<;>decide
 refine⟨⟨e,l,g,G,S,o,N,m⟩,n,?_,I,M,?_,?_⟩
 .rw [m,Zzp (Qk _ _) R (Zem _ Q).symm,Z]
 .rw [m];exact Qk _ _
 .rw [m];exact Znv R Y Q
theorem Ymr{n:Nat}(r:Tr p)(j:p≠[])(hs:Sz n p)(o:n<=220)(m:p.length<=11)(l:p.length<=F+1):∀(f:Nat) (q:List Int),Tr q->q≠[]->Dp p (Xe q)->Zwg F f q=Cj F f q:=by
 intro f
 induction f with
 | zero=>intro q _ _ _;rfl
 | succ f w=>
  intro q v x h;have d:=(h.ok r j hs o m l).2;have g:Eh F q:=by unfold Eh at d ⊢;rwa [h.2.2.1]at d
  have i:=h.next d;rw [Zjj h.2.2.1]at i;have c:=(i.ok r j hs o m l).2;have e:=i.next c;obtain⟨-,r1,r2,r3,D,y,B⟩:=Zko v x g c;unfold Zwg Cj;have s:=i.2.2.1;rw [Dl (show Xe (Ms F q)=Xe (Pu F q) by rw [r1,s]),w _ y B (by rw [r2];exact e),Zts (show Xe (Zb2 F q)=Xe (Pu F (Pu F q)) by rw [r2,e.2.2.1])]
def Cm(F:Nat)(q:List Int):List Int:=Kz (sqf F q) (sqf F (Pu F q))
theorem Cb(e:Tr q)(f:q≠[])(d:Eh F q)(c:Eh F (Pu F q)):pdv (sqf F q) (sqf F (Pu F q))/\sqf F q=Qn (Cm F q) (sqf F (Pu F q))/\Tr (Cm F q)/\Cm F q≠[]:=by obtain⟨f1,f2,f3,f4,f5,f6⟩:=Ol (F:=F) e f d;obtain⟨g,h,i,j,l⟩:=Qv e f d;obtain⟨-,t2,t3,-,-,t6⟩:=Ol (F:=F) g h c;exact Ycj f2 f3 t2 t3 t6 (Zzo e f d c)
theorem Zw9{n:Nat}(h:Tr p)(o:p≠[])(hs:Sz n p)(v:p.length<=13)(l:Tr a)(m:Tr b)(e:Xe p=Qn a b):Sz (n+15) b/\b.length<=p.length/\b≠[]:=by have r:fcs 0 13<=2^15*2^15:=O6;have f:=Pm h;have c:=Zk2 h o;have s:Tr (Xe p):=Ov (Xb h);have i:a≠[]:=λd=>c (by rw [e,d,Fc]);have j:b≠[]:=λd=>c (by rw [e,d,Zbs]);refine⟨De (L:=13) (R:=24) m l (Zv4 hs) c s O O2 r (by rw [Be];exact e),?_,j⟩;have g:=Oo l m i j;rw [<-e,f]at g;have:=List.length_pos_iff.2 i;omega
def Op(p c q:List Int):Prop:=∃a,Tr a/\Xe p=Qn a (Qn c q)
theorem Op.start(c:Tr p):Op p [1] (Xe p):=⟨[1],.inr (show cf [1] 0≠0 by decide),by refine(Ov (Xb c)).ext (Qa _ _) λi=>Oy (λx=>?_) i;rw [Yi,Yi,Pj];push_cast;show Zd (Xe p) x=_;grind⟩
theorem Op.next{f:List Int}(l:Tr q)(m:q≠[])(y:Xe q=q)(d:Eh F q)(c:Eh F (Pu F q))(h:Op p f q):Op p (Qn f (Cm F q)) (Pu F (Pu F q)):=by
 obtain⟨a,H,e⟩:=h;obtain⟨-,D,I,M⟩:=Cb l m d c;obtain⟨n,o,r,g,G⟩:=Qv l m d;obtain⟨-,-,-,j,-⟩:=Qv n o c;rw [y]at g;rw [r]at j;refine⟨Qn a (Qn (sqf F (Pu F q)) (sqf F (Pu F q))),Qa _ _,e.trans ?_⟩;refine(Qa _ _).ext (Qa _ _) λi=>Oy (λx=>?_) i;have s:Zd q x=Zd (sqf F q) x*Zd (Pu F q) x:=by rw [<-Yi,<-g]
 have v:Zd (sqf F q) x=Zd (Cm F q) x*Zd (sqf F (Pu F q)) x:=by rw [<-Yi,<-D]
 have w:Zd (Pu F q) x=Zd (sqf F (Pu F q)) x*Zd (Pu F (Pu F q)) x:=by rw [<-Yi,<-j]
 simp only [Yi];rw [s,v];rw [w];generalize Zd (sqf F (Pu F q)) x=A;generalize Zd (Pu F (Pu F q)) x=B;grind
theorem Op.sz{c:List Int}{n:Nat}(j:Tr p)(d:p≠[])(hs:Sz n p)(f:p.length<=13)(g:Tr c)(m:Tr q)(h:Op p c q):Sz (n+15) c/\c.length<=p.length/\c≠[]:=by obtain⟨a,l,e⟩:=h;exact Zw9 j d hs f (Qa a q) g (e.trans ((Qa _ _).ext (Qa _ _) λi=>Oy (λx=>by rw [Yi,Yi,Yi,Yi];grind) i))
theorem Ym9(c:Tr p):Qn [1] p=p:=by rw [Be];exact Zpn c
def Zjz(f:Tr xs)(d:xs≠[])(e:Ae F xs){s t:Rat}(c:s<=t):vch F xs t<=vch F xs s:=Zl9 f d e c
def Sqn.imp{P c:R2->R2->Prop}{hi:Rat}(d:∀x y,P x y->c x y):∀{lo:Rat} {l:List (R2×R2)},Sqn P hi lo l->Sqn c hi lo l
 | _,[],h=>h
 | _,_::_,h=>⟨h.1,h.2.1,d _ _ h.2.2.1,Sqn.imp d h.2.2.2⟩
def oe(f:Nat->Int):Nat->Int
 | 0=>0
 | k+1=>err (oe f k) (f k)
def mon(d n:Nat):List Int:=mono d ((2:Int)^n)
variable {P:Program} {N:Nat} {sc:Nat->Prop} {env:Ph} {H:Hp}
end Go.Sky
namespace Go.Sky
variable{f:Rat->Rat}{u v s t x a b:Rat}{xs p o:List Int}{F:Nat}
def HD(xs ys:List Int):Prop:=Vp ys/\ys≠[]/\Zap ys/\Ae 13 ys/\chn 13 ys=chn 13 xs
def PH(xs:List Int)(x y:R2):Prop:=(0<x.2/\bl x.1.natAbs<=506/\bl x.2.natAbs<=506)/\(0<y.2/\bl y.1.natAbs<=506/\bl y.2.natAbs<=506)/\cvc 13 xs x-cvc 13 xs y=1
def DR:R2×R2:=((0,0),(0,0))
theorem Zgv(d:Rat){h:Rat}(c:0<h):∃n:Nat,d<=(n:Rat)*h:=by
 have i:0<h⁻¹:=Rat.inv_pos.2 c;refine⟨(d*h⁻¹).ceil.toNat,?_⟩;have e:=@Rat.le_ceil (d*h⁻¹);have g:(((d*h⁻¹).ceil:Int):Rat)<=(((d*h⁻¹).ceil.toNat:Nat):Rat):=by have:(d*h⁻¹).ceil<=(((d*h⁻¹).ceil.toNat:Nat):Int):=Int.self_le_toNat _;exact_mod_cast this
 have j:=Rat.mul_le_mul_of_nonneg_right (Rat.le_trans e g) (show 0<=h by grind);have k:d*h⁻¹*h=d:=O4;grind
theorem Zra(h:crs f u v<=0)(d:f u≠0):0<f u*f v:=by
 unfold crs at h;by_cases c:f u≠0/\f u*f v<=0
 .rw [if_pos c]at h;exact absurd h O2
 .have:¬f u*f v<=0:=λe=>c ⟨d,e⟩;grind
theorem Zdu(l:Tr xs)(i:xs≠[])(j:Ae F xs)(G:s<=t)(D:vch F xs s<=vch F xs t)(hs:Zd (sqf F xs) s≠0):∀y,s<=y->y<=t->0<Zd (sqf F xs) s*Zd (sqf F xs) y:=by
 obtain⟨h,z,B⟩:=Zl8 l i j s t;have g:∀u v,s<=u->u<=v->v<=t->v-u<=h->crs (Zd (sqf F xs)) u v<=0:=λu v a b c d=>by have e:=B u v a b c d;have R:vat ((chn F xs).map Zd) u<=vat ((chn F xs).map Zd) s:=Zl9 l i j a;have S:vat ((chn F xs).map Zd) t<=vat ((chn F xs).map Zd) v:=Zl9 l i j c;have V:vat ((chn F xs).map Zd) s<=vat ((chn F xs).map Zd) t:=D;omega
 generalize Zd (sqf F xs)=f at *;have m:∀n:Nat,∀y,s<=y->y<=t->y-s<=(n:Rat)*h->0<f s*f y:=λn=>by
  induction n with
  | zero=>
   intro y a b c;have:y=s:=by push_cast at c;grind
   subst this;exact Zra (g _ _ a O4 b O4) hs
  | succ n P=>
   intro y a b c;push_cast at c;by_cases H:y-s<=h
   .exact Zra (g s y O4 a b H) hs
   .have r:=P (y-h) O4 O4 O4;have I:f (y-h)≠0:=λe=>by rw [e]at r;grind
    have M:=Zra (g (y-h) y O4 O4 b O4) I;have N:=Rat.mul_pos r M;have w:f s*f (y-h)*(f (y-h)*f y)=(f (y-h)*f (y-h))*(f s*f y):=O4;rw [w]at N;have Q:0<f (y-h)*f (y-h):=by
     rcases(show 0<f (y-h)\/f (y-h)<0 by grind)with q|q
     .exact Rat.mul_pos q q
     .have:=Rat.mul_pos (a:=-f (y-h)) (b:=-f (y-h)) O4 O4;grind
    rcases(show 0<f s*f y\/f s*f y<=0 by grind)with q|q
    .exact q
    .have:=Rat.mul_nonneg (a:=f (y-h)*f (y-h)) (b:=-(f s*f y)) O4 O4;grind
 intro y a b;obtain⟨n,k⟩:∃n:Nat,y-s<=(n:Rat)*h:=by obtain⟨n,k⟩:=Zgv (y-s) z;exact⟨n,k⟩
 exact m n y a b k
theorem Zf5(D:s<=t)(w:∀u,s<=u->u<=t->0<=Zd (ld p) u):Zd p s<=Zd p t:=by
 rcases(show Zd p s<=Zd p t\/Zd p t<Zd p s by grind)with h|h
 .exact h
 .exfalso;obtain⟨M,Y,N⟩:=Zjb s t p;have z:s<t:=by
   rcases(show s<t\/s=t by grind)with d|d
   .exact d
   .rw [d]at h;grind
  obtain⟨n,B⟩:=Zgv (M*(t-s)*(t-s)+1) (show 0<Zd p s-Zd p t by grind);have g:(0:Rat)<(n:Rat):=by
   rcases Nat.eq_zero_or_pos n with d|d
   .subst d;have:=Rat.mul_nonneg (a:=M*(t-s)) (b:=t-s) (Rat.mul_nonneg O4 O4) O4;push_cast at B;grind
   .exact_mod_cast d
  have m:(n:Rat)≠0:=λe=>by rw [e]at g;exact absurd g O2
  have c:(n:Rat)*((t-s)/n)=t-s:=by rw [Rat.div_def,<-Rat.mul_assoc,Rat.mul_comm (n:Rat),Rat.mul_assoc,Rat.mul_inv_cancel _ m,Rat.mul_one]
  have q:∀k:Nat,(k:Rat)<=(n:Rat)->-(M*((t-s)/n)*((t-s)/n))*k<=Zd p (s+k*((t-s)/n))-Zd p s:=λk=>by
   induction k with
   | zero=>intro _;push_cast;rw [show s+0*((t-s)/n)=s by grind];grind
   | succ k G=>
    intro y;push_cast at y ⊢;have S:=G O4;have l:0<=(t-s)/n:=by rw [Rat.div_def];exact Rat.mul_nonneg O4 (Rat.le_of_lt (Rat.inv_pos.2 g))
    have i:=c;generalize (t-s)/(n:Rat)=h at *;have H:(0:Rat)<=(k:Rat):=by exact_mod_cast Nat.zero_le k
    have P:=Rat.mul_nonneg (a:=(k:Rat)) (b:=h) H l;have Q:=Rat.mul_nonneg (a:=(n:Rat)-(k+1)) (b:=h) O4 l;have j:=(N (s+k*h) (s+(k+1)*h) O4 O4 O4).1;have e:=w (s+k*h) O4 O4;have R:=Rat.mul_nonneg l e;rw [show s+(k+1)*h-(s+k*h)=h by grind]at j;grind
  have r:=q n O4;have i:=c;rw [i,show s+(t-s)=t by grind]at r;have I:-(M*((t-s)/n)*((t-s)/n))*n=-(M*((t-s)/n)*(t-s)):=O4;rw [I]at r;have V:M*((t-s)/n)*(t-s)*n=M*(t-s)*(t-s):=O4;have W:=Rat.mul_nonneg (a:=Zd p t-Zd p s+M*((t-s)/n)*(t-s)) (b:=(n:Rat)) O4 O4;grind
theorem Zfq(p:List Int)(x:Rat):Zd (p.map λa=>-1*a) x=-Zd p x:=by rw [Zk];push_cast;grind
theorem Zoi(k:s<t)(e:∀u,s<u->u<=t->0<Zd (ld p) u)(g:0<=Zd (ld p) s):Zd p s<Zd p t:=by
 have i:s<(s+t)/2/\(s+t)/2<t:=by constructor<;>grind
 generalize (s+t)/2=m at *;have r:=Zf5 (p:=p) (s:=s) (t:=m) O4 (λu a b=>by
  rcases(show s<u\/u=s by grind)with h|h
  .exact Rat.le_of_lt (e u h O4)
  .rw [h];exact g)
 obtain⟨M,l,n⟩:=Zjb m t p;have j:=e m i.1 O4;obtain⟨η,q,y,z⟩:=Hz (show 0<t-m by grind) l (show 0<Zd (ld p) m/2 by grind);have b:=(n m (m+η) O4 O4 O4).1;rw [show m+η-m=η by grind]at b;have w:=Zf5 (p:=p) (s:=m+η) (t:=t) O4 (λu a b=>Rat.le_of_lt (e u O4 b));have c:=Rat.mul_nonneg (a:=η) (b:=Zd (ld p) m/2-η*M) O4 O4;have d:=Rat.mul_pos q j;grind
def Ep:Nat->List Int->Rat->Int
 | 0,_,_=>0
 | n+1,p,x=>if Zd p x≠0 then Er (Zd p x)else Ep n (Xd p) x
def Zy3(h:0<x):Er x=1:=Ah h
def Znl(h:x<0):Er x=-1:=Ai h
theorem Zs5(h:x=0):Er x=0:=by subst h;rfl
theorem Pk(x:Rat):(0<x/\Er x=1)\/(x<0/\Er x=-1)\/(x=0/\Er x=0):=by
 rcases(show 0<x\/x<0\/x=0 by grind)with h|h|h
 .exact .inl ⟨h,Zy3 h⟩
 .exact .inr (.inl ⟨h,Znl h⟩)
 .exact .inr (.inr ⟨h,Zs5 h⟩)
theorem Zx5(n:Nat)(p:List Int)(x:Rat)(h:Zd p x≠0)(c:p.length<=n):Ep n p x=Er (Zd p x):=by
 cases n with
 | zero=>have:p=[]:=List.eq_nil_of_length_eq_zero O;subst this;exact absurd rfl h
 | succ n=>unfold Ep;rw [if_pos h]
theorem Zn1(p:List Int)(x:Rat)(h:Zd p x≠0):∃δ:Rat,0<δ/\∀y,x<y->y<=x+δ->Er (Zd p y)=Er (Zd p x):=by
 obtain⟨L,r,k⟩:=Cq x (x+1) p;have i:0<(if 0<Zd p x then Zd p x else -Zd p x):=by split<;>grind
 obtain⟨δ,j,m,g⟩:=Hz (show(0:Rat)<1 by decide) (show 0<L+1 by grind) (show 0<(if 0<Zd p x then Zd p x else -Zd p x)/2 by grind);refine⟨δ,j,λy n q=>?_⟩;have l:=k x y O4 O4 O4;have b:=Rat.mul_nonneg (a:=L) (b:=δ-(y-x)) O4 O4;have c:L*(y-x)<=δ*(L+1):=O4;rcases Pk (Zd p x)with⟨d,e⟩|⟨d,e⟩|⟨d,e⟩
 .rw [if_pos d]at g i;rw [e];exact Zy3 O4
 .rw [if_neg O4]at g i;rw [e];exact Znl O4
 .exact absurd d h
theorem Bx:∀(n:Nat) (p:List Int) (x:Rat),p.length<=n->∃δ:Rat,0<δ/\∀y,x<y->y<=x+δ->Er (Zd p y)=Ep n p x
 | 0,p,x,q=>⟨1,O2,λy _ _=>by have:p=[]:=List.eq_nil_of_length_eq_zero O;subst this;exact Zs5 rfl⟩
 | n+1,p,x,q=>by
  by_cases h:Zd p x≠0
  .rw [Zx5 (n+1) p x h q];exact Zn1 p x h
  .have M:Zd p x=0:=Classical.not_not.1 h;have H:=Nv p;obtain⟨δ,B,D⟩:=Bx n (Xd p) x O;have G:Ep (n+1) p x=Ep n (Xd p) x:=by unfold Ep;rw [if_neg h];cases n<;>rfl
   have k:Zd (ld p) x≠0->Er (Zd (ld p) x)=Ep n (Xd p) x:=λg=>by rw [<-Kw]at g ⊢;exact(Zx5 n (Xd p) x g O).symm
   refine⟨δ,B,λy l N=>?_⟩;rw [G];have i:∀u,x<u->u<=y->Er (Zd (ld p) u)=Ep n (Xd p) x:=λu a b=>by rw [<-Kw];exact D u a O4
   have e:=i y l O4;generalize Ep n (Xd p) x=σ at *;rcases Pk (Zd (ld p) y)with⟨m,j⟩|⟨m,j⟩|⟨m,j⟩
   .rw [j]at e;subst e;refine Zy3 ?_;have:=Zoi (p:=p) l (λu a b=>by
     rcases Pk (Zd (ld p) u)with⟨d,c⟩|⟨d,c⟩|⟨d,c⟩
     .exact d
     .have:=i u a b;rw [c]at this;exact absurd this O2
     .have:=i u a b;rw [c]at this;exact absurd this O2) (by
     rcases Pk (Zd (ld p) x)with⟨d,c⟩|⟨d,c⟩|⟨d,c⟩
     .exact Rat.le_of_lt d
     .have:=k O4;rw [c]at this;exact absurd this O2
     .grind)
    grind
   .rw [j]at e;subst e;refine Znl ?_;have r:∀u,Zd (ld (p.map λa=>-1*a)) u=-Zd (ld p) u:=λu=>by rw [Ak];push_cast;grind
    have:=Zoi (p:=p.map λa=>-1*a) l (λu a b=>by
     rw [r];rcases Pk (Zd (ld p) u)with⟨d,c⟩|⟨d,c⟩|⟨d,c⟩
     .have:=i u a b;rw [c]at this;exact absurd this O2
     .grind
     .have:=i u a b;rw [c]at this;exact absurd this O2) (by
     rw [r];rcases Pk (Zd (ld p) x)with⟨d,c⟩|⟨d,c⟩|⟨d,c⟩
     .have:=k O4;rw [c]at this;exact absurd this O2
     .grind
     .grind)
    rw [Zfq,Zfq]at this;grind
   .rw [j]at e;subst e;refine Zs5 ?_;have w:∀u,x<=u->u<=y->Zd (ld p) u=0:=λu a b=>by
     rcases(show x<u\/u=x by grind)with g|g
     .rcases Pk (Zd (ld p) u)with⟨d,c⟩|⟨d,c⟩|⟨d,c⟩
      .have:=i u g b;rw [c]at this;exact absurd this O2
      .have:=i u g b;rw [c]at this;exact absurd this O2
      .exact d
     .subst g;rcases Pk (Zd (ld p) u)with⟨d,c⟩|⟨d,c⟩|⟨d,c⟩
      .have:=k O4;rw [c]at this;exact absurd this O2
      .have:=k O4;rw [c]at this;exact absurd this O2
      .exact d
    have I:=Zf5 (p:=p) (s:=x) (t:=y) O4 (λu a b=>by rw [w u a b];grind);have z:=Zf5 (p:=p.map λa=>-1*a) (s:=x) (t:=y) O4 (λu a b=>by rw [Ak,w u a b];push_cast;grind);rw [Zfq,Zfq]at z;grind
theorem Ed.mul_l{a b c:List Int}(h:Ed a b):Ed (Qn c a) (Qn c b):=by obtain⟨k,s,d,e⟩:=h;exact⟨k,s,d,λx=>by rw [Yi,Yi];have:=e x;grind⟩
theorem Fk{n:Nat}(D:Tr p)(m:p≠[])(hs:Sz n p)(z:n<=220)(w:p.length<=11)(r:p.length<=F+1):∀(f:Nat) (q:List Int),Dp p q->q.length<=f->
  (∃B:List Int,∀x:Rat,Zd q x=Zd (Cj F f q) x*(Zd B x*Zd B x))/\Ed (Cj F f q) (sqf F q):=by
 intro f
 induction f with
 | zero=>intro q d y;have:=List.length_pos_iff.2 d.2.1;omega
 | succ f ih=>
  intro q d y;have g:=(d.ok D m hs z w r).2;have h:=d.next g;have e:=(h.ok D m hs z w r).2;have i:=h.next e;unfold Cj;by_cases l:(sqf F q).length=1
  .rw [if_pos l];obtain⟨s1,s2,s3⟩:=Zfi d.1 d.2.1 g l;refine⟨⟨[1],λx=>?_⟩,Ed.refl _⟩;rw [s1,Ynh d.1 d.2.2.1 s2,Pj];push_cast;grind
  .rw [if_neg l];have lq:2<=q.length:=by obtain⟨f1,f2,f3,f4,f5,f6⟩:=Ol (F:=F) d.1 d.2.1 g;obtain⟨P,G,H,k,Q⟩:=Qv d.1 d.2.1 g;have l1:=List.length_pos_iff.2 f3;have l2:=List.length_pos_iff.2 G;omega
   have a0:=Zlp d.1 d.2.1 g lq;obtain⟨P,G,H,k,Q⟩:=Qv d.1 d.2.1 g;obtain⟨b1,b2,b3,I,b5⟩:=Qv h.1 h.2.1 e;obtain⟨-,t2,t3,-,-,-⟩:=Ol (F:=F) h.1 h.2.1 e;have lb:=List.length_pos_iff.2 t3;obtain⟨⟨B,Z⟩,hE⟩:=ih _ i O;obtain⟨-,N,o3,o4⟩:=Cb d.1 d.2.1 g e;have j:=(i.ok D m hs z w r).2;rw [d.2.2.1]at k;rw [H]at I;have R:∀x,Zd q x=Zd (sqf F q) x*Zd (Pu F q) x:=λx=>by rw [<-Yi,<-k]
   have V:∀x,Zd (sqf F q) x=Zd (Cm F q) x*Zd (sqf F (Pu F q)) x:=λx=>by rw [<-Yi,<-N]
   have W:∀x,Zd (Pu F q) x=Zd (sqf F (Pu F q)) x*Zd (Pu F (Pu F q)) x:=λx=>by rw [<-Yi,<-I]
   refine⟨⟨Qn (sqf F (Pu F q)) B,λx=>?_⟩,?_⟩
   .rw [Yi,Yi,R x,V x,W x,Z x];show _=Zd (Cm F q) x*_*_;generalize Zd (sqf F (Pu F q)) x=S;generalize Zd B x=C;grind
   .have Y:Ed (Cj F f (Pu F (Pu F q))) (sqf F (Pu F q)):=hE.trans (Zzo h.1 h.2.1 e j);have M:=Y.mul_l (c:=Cm F q);rw [<-N]at M;exact M
theorem Ztr{n:Nat}(W:Tr p)(R:p≠[])(hs:Sz n p)(hn:n<=220)(hl:p.length<=11)(hF:p.length<=F+1)(H:Tr o)(Z:o≠[])(g:Eh F o)(B:Eh F p)(h:Ed o (sqf F p)):(Pu F o).length=1/\sqf F o=Xe o:=by
 obtain⟨N,a2,a3,P,a5⟩:=Qv H Z g;obtain⟨f1,f2,f3,f4,f5,f6⟩:=Ol (F:=F) W R B;obtain⟨-,s2,s3,s4,s5,s6⟩:=Ol (F:=F) H Z g;have Y:Tr (Xe o):=Ov (Xb H);have S:=Zdl Y (Mp Y) g;have Q:Ed (Pu F o) (Xe o):=S.1.ed;have e2:Ed (Pu F o) (ld (Xe o)):=(S.2.ed:Ed (Pu F o) (Xd (Xe o))).congr λx=>Kw _ x;have D:Sim (Xe o) o:=(Hb (Zz o)).trans (Qu H);obtain⟨k,w,G,l⟩:Ed (Xe o) (sqf F p):=by
  obtain⟨k,w,G,e⟩:=h;obtain⟨c,d,hc,M,I⟩:=D;have j:∀x:Rat,(c:Rat)*Zd (Xe o) x=(d:Rat)*Zd o x:=λx=>by rw [<-Zk,<-Zk];exact Om x _ _ λi=>by rw [Qi,Qi];exact I i
  exact⟨d*k,w.map λa=>c*a,Int.mul_ne_zero M G,λx=>by rw [Zk];have a:=e x;have b:=j x;push_cast;grind⟩
 have V:(Pu F o).length<=1:=by
  refine Zfj W R B N (Q.trans ⟨k,w,G,l⟩) ?_;have h1:Ed (Pu F o) (lmul w (ld (Xe o))):=by obtain⟨m,z,hm,e⟩:=e2;exact⟨m,lmul w z,hm,λx=>by rw [Zx,Zx];have:=e x;grind⟩
  have h2:Ed (Pu F o) (ld (sqf F p)):=Ed.lin Q h1 (ld w) k G λx=>by have:=Ca (p:=(sqf F p).map λa=>k*a) (q:=lmul w (Xe o)) (λy=>by rw [Zk,Zx];exact l y) x;rw [Ak,Cr]at this;rw [Zx,this]
  exact h2.congr λx=>(Kw _ x).symm
 have r:(Pu F o).length=1:=by have:=List.length_pos_iff.2 a2;omega
 refine⟨r,?_⟩;rw [Ynh N a3 r,Zpn s2]at P;exact P.symm
theorem Zfk{a b:List Int}(h:Sim a b):∃c d:Int,c≠0/\d≠0/\∀x:Rat,(c:Rat)*Zd a x=(d:Rat)*Zd b x:=by obtain⟨c,d,g,j,e⟩:=h;exact⟨c,d,g,j,λx=>by rw [<-Zk,<-Zk];exact Om x _ _ λi=>by rw [Qi,Qi];exact e i⟩
theorem Gu(h:x≠0):0<x*x:=by
 rcases(show 0<x\/x<0 by grind)with q|q
 .exact Rat.mul_pos q q
 .have:=Rat.mul_pos (a:=-x) (b:=-x) O4 O4;grind
theorem Pn{c:Int}(h:c≠0):(c:Rat)≠0:=λe=>h (by exact_mod_cast e)
theorem Zf0{e g c d:Rat}(j:c≠0)(k:d≠0)(l:c*e=d*a)(m:c*g=d*b)(h:a*b<0):e*g<0:=by
 have n:(c*c)*(e*g)=(d*d)*(a*b):=O4;have r:=Gu j;have i:=Gu k;rcases(show e*g<0\/0<=e*g by grind)with q|q
 .exact q
 .have w:=Rat.mul_nonneg (a:=c*c) (b:=e*g) O4 q;have y:=Rat.mul_pos (a:=d*d) (b:=-(a*b)) i O4;grind
theorem Yg5{e g c d:Rat}(h:e*(c*c)*(g*(d*d))<0):e*g<0:=by
 rcases(show e*g<0\/0<=e*g by grind)with q|q
 .exact q
 .have j:0<=c*d*(c*d):=by
   by_cases i:c*d=0
   .rw [i];grind
   .exact Rat.le_of_lt (Gu i)
  have k:=Rat.mul_nonneg q j;grind
theorem Zn0{n:Nat}(i:Tr p)(k:p≠[])(hs:Sz n p)(M:n<=220)(I:p.length<=11)(D:p.length<=F+1)(ho:o=Cj F p.length (Xe p))(g:Tr o)(Q:o≠[])(y:Ae F o)(a0:a<b)(h1:Ep p.length p a=1)(h2:Zd p b<0):vch F o b<vch F o a:=by
 have m:=Dp.start i k;have h:=(m.ok i k hs M I D).2;have j:Eh F p:=by unfold Eh at h ⊢;rwa [m.2.2.1]at h
 obtain⟨⟨B,w⟩,z⟩:=Fk i k hs M I D p.length (Xe p) m (by rw [Pm i];exact Nat.le_refl _);rw [<-ho]at w z;rw [Dl m.2.2.1]at z;obtain⟨-,P⟩:=Ztr i k hs M I D g Q y.1.2.2.1 j z;obtain⟨δ,d1,Z⟩:=Bx p.length p a (Nat.le_refl _);obtain⟨s,W,s2,Y⟩:∃s,a<s/\s<=a+δ/\s<b:=by
  rcases(show a+δ<b\/b<=a+δ by grind)with q|q
  .exact⟨a+δ,O4,O4,q⟩
  .exact⟨(a+b)/2,O4,O4,O4⟩
 have N:0<Zd p s:=by
  have:=Z s W s2;rw [h1]at this;rcases Pk (Zd p s)with⟨r,l⟩|⟨r,l⟩|⟨r,l⟩
  .exact r
  .rw [l]at this;exact absurd this O2
  .rw [l]at this;exact absurd this O2
 have k1:Zd p s*Zd p b<0:=by have:=Rat.mul_pos (a:=Zd p s) (b:=-Zd p b) N O4;grind
 obtain⟨c,d,hc,hd,e⟩:=Zfk ((Hb (Zz p)).trans (Qu i):Sim (Xe p) p);have S:Zd (Xe p) s*Zd (Xe p) b<0:=Zf0 (Pn hc) (Pn hd) (e s) (e b) k1;rw [w s,w b]at S;have k3:=Yg5 S;obtain⟨c',d',G,H,R⟩:=Zfk ((Hb (Zz o)).trans (Qu g):Sim (Xe o) o);have V:Zd (Xe o) s*Zd (Xe o) b<0:=Zf0 (Pn G) (Pn H) (R s) (R b) k3;rw [<-P]at V;have m1:=Zjz g Q y (Rat.le_of_lt W);rcases Int.lt_or_le (vch F o b) (vch F o s)with q|q
 .exact Int.lt_of_lt_of_le q m1
 .exfalso;have hz:Zd (sqf F o) s≠0:=λe9=>by rw [e9]at V;grind
  have:=Zdu g Q y (Rat.le_of_lt Y) q hz b (Rat.le_of_lt Y) O4;grind
theorem Zgw:∀(n:Nat) (p:List Int) (x:Rat),Tr p->p≠[]->p.length<=n->Ep n p x≠0
 | 0,p,x,_,i,r=>absurd (List.eq_nil_of_length_eq_zero O) i
 | n+1,p,x,l,i,r=>by
  unfold Ep;by_cases h:Zd p x≠0
  .rw [if_pos h];rcases Pk (Zd p x)with⟨j,g⟩|⟨j,g⟩|⟨j,g⟩
   .rw [g];decide
   .rw [g];decide
   .exact absurd j h
  .rw [if_neg h];have m:Zd p x=0:=Classical.not_not.1 h;have d:=Nv p;refine Zgw n (Xd p) x (Mp l) (λe=>?_) O;rw [e]at d;have w:=List.length_pos_iff.2 i;have k:p.length=1:=by simp at d;omega
   match p,k with
   | [c],_=>
    have q:c≠0:=l.mem O7;rw [Pj]at m;exact Pn q m
theorem Zry(n:Nat)(p:List Int)(x:Rat):-1<=Ep n p x/\Ep n p x<=1:=by
 induction n generalizing p with
 | zero=>show -1<=(0:Int)/\(0:Int)<=1;decide
 | succ n c=>unfold Ep;split;exact Yfp _;exact c _
def Az(F:Nat)(o:List Int)(a b:Rat):Prop:=0<vch F o a-vch F o b-(if Zd o b=0 then 1 else 0)
theorem Yhf{n:Nat}(g:Tr p)(i:p≠[])(hs:Sz n p)(G:n<=220)(D:p.length<=11)(z:p.length<=F+1)(H:o=Cj F p.length (Xe p))(m:Tr o)(S:o≠[])(P:Ae F o)(k:a<b) :
  (Zd p a<0\/Zd p b<0\/Ep p.length p a<0\/Az F o a b)↔(Ep p.length p a<0\/Az F o a b):=by
 constructor
 .rintro(h|h|h|h)
  .left;rw [Zx5 p.length p a O4 (Nat.le_refl _),Znl h];decide
  .have r:=Zry p.length p a;have r0:=Zgw p.length p a g i (Nat.le_refl _);rcases(show Ep p.length p a<0\/Ep p.length p a=1 by omega)with j|j
   .exact .inl j
   .right;have W:=Zn0 g i hs G D z H m S P k j h;have Q:=Dp.start g i;obtain⟨⟨B,y⟩,-⟩:=Fk g i hs G D z p.length (Xe p) Q (by rw [Pm g];exact Nat.le_refl _);rw [<-H]at y;obtain⟨c,d,V,R,e⟩:=Zfk ((Hb (Zz p)).trans (Qu g):Sim (Xe p) p);have l:Zd o b≠0:=λI=>by
     have w:(c:Rat)*Zd (Xe p) b=(d:Rat)*Zd p b:=e b;rw [y b,I]at w;have M:=Pn R;have N:(d:Rat)*Zd p b=0:=by rw [<-w];grind
     rcases Rat.mul_eq_zero.1 N with q|q
     .exact M q
     .rw [q]at h;grind
    unfold Az;rw [if_neg l];omega
  .exact .inl h
  .exact .inr h
 .rintro(h|h)
  .exact .inr (.inr (.inl h))
  .exact .inr (.inr (.inr h))
theorem Yc1(p:List Int)(x:Rat)(h:Zd p x≠0):∃δ:Rat,0<δ/\∀y,x-δ<=y->y<=x->Er (Zd p y)=Er (Zd p x):=by
 obtain⟨L,r,k⟩:=Cq (x-1) x p;have i:0<(if 0<Zd p x then Zd p x else -Zd p x):=by split<;>grind
 obtain⟨δ,j,m,g⟩:=Hz (show(0:Rat)<1 by decide) (show 0<L+1 by grind) (show 0<(if 0<Zd p x then Zd p x else -Zd p x)/2 by grind);refine⟨δ,j,λy n q=>?_⟩;have l:=k y x O4 O4 O4;have b:=Rat.mul_nonneg (a:=L) (b:=δ-(x-y)) O4 O4;have c:L*(x-y)<=δ*(L+1):=O4;rcases Pk (Zd p x)with⟨d,e⟩|⟨d,e⟩|⟨d,e⟩
 .rw [if_pos d]at g i;rw [e];exact Zy3 O4
 .rw [if_neg O4]at g i;rw [e];exact Znl O4
 .exact absurd d h
theorem rsg_1(h:Er x=1):0<x:=by
 rcases Pk x with⟨d,c⟩|⟨d,c⟩|⟨d,c⟩
 .exact d
 .rw [c]at h;exact absurd h O2
 .rw [c]at h;exact absurd h O2
theorem Zoz(h:Er x=-1):x<0:=by
 rcases Pk x with⟨d,c⟩|⟨d,c⟩|⟨d,c⟩
 .rw [c]at h;exact absurd h O2
 .exact d
 .rw [c]at h;exact absurd h O2
def Zx7(p:List Int)(a b:Rat):Prop:=∃x,a<=x/\x<=b/\Zd p x<0
theorem Yix   (hx:Tr xs) (h0:xs≠[]) (hC:Ae F xs) {σ:Rat} (Y:σ≠0) (S:a<b)
  (c:∀x,a<=x->x<b->∃δ:Rat,0<δ/\∀y,x<y->y<=x+δ->y<=b->0<σ*Zd (sqf F xs) y) :
  vch F xs a-vch F xs b<=(if Zd (sqf F xs) b=0 then 1 else 0):=by
 obtain⟨h,h1,R⟩:=Zl8 hx h0 hC a b;have H:∀x,a<=x->x<b->0<=σ*Zd (sqf F xs) x:=λx ha hb=>by
  rcases(show 0<=σ*Zd (sqf F xs) x\/σ*Zd (sqf F xs) x<0 by grind)with q|q
  .exact q
  .exfalso;have g:Zd (sqf F xs) x≠0:=λe=>by rw [e]at q;grind
   obtain⟨δ,d1,D⟩:=c x ha hb;obtain⟨ε,e1,Q⟩:=Zn1 (sqf F xs) x g;obtain⟨y,N,P,y3,y4⟩:∃y,x<y/\y<=x+δ/\y<=x+ε/\y<=b:=by
    rcases(show δ<=ε\/ε<=δ by grind)with w|w
    .rcases(show x+δ<=b\/b<=x+δ by grind)with v|v
     .exact⟨x+δ,O4,O4,O4,v⟩
     .exact⟨b,O4,O4,O4,O4⟩
    .rcases(show x+ε<=b\/b<=x+ε by grind)with v|v
     .exact⟨x+ε,O4,O4,O4,v⟩
     .exact⟨b,O4,O4,O4,O4⟩
   have Z:=D y N P y4;have k:=Q y N y3;rcases Pk (Zd (sqf F xs) x)with⟨i,j⟩|⟨i,j⟩|⟨i,j⟩
   .rw [j]at k;have I:=rsg_1 k;rcases(show σ<0\/0<σ by grind)with s|s
    .have:=Rat.mul_pos (a:=-σ) (b:=Zd (sqf F xs) y) O4 I;grind
    .have:=Rat.mul_pos s i;grind
   .rw [j]at k;have I:=Zoz k;rcases(show σ<0\/0<σ by grind)with s|s
    .have:=Rat.mul_pos (a:=-σ) (b:=-Zd (sqf F xs) x) O4 O4;grind
    .have:=Rat.mul_pos (a:=σ) (b:=-Zd (sqf F xs) y) s O4;grind
   .exact g i
 have V:0<=σ*Zd (sqf F xs) b:=by
  rcases(show 0<=σ*Zd (sqf F xs) b\/σ*Zd (sqf F xs) b<0 by grind)with q|q
  .exact q
  .exfalso;have g:Zd (sqf F xs) b≠0:=λe=>by rw [e]at q;grind
   obtain⟨ε,e1,Q⟩:=Yc1 (sqf F xs) b g;obtain⟨y,N,P,y3⟩:∃y,a<=y/\y<b/\b-ε<=y:=by
    rcases(show a<=b-ε\/b-ε<=a by grind)with v|v
    .exact⟨b-ε,v,O4,O4⟩
    .exact⟨a,O4,S,v⟩
   obtain⟨δ,d1,D⟩:=c y N P;obtain⟨z,z1,z2,r⟩:∃z,y<z/\z<=y+δ/\z<=b:=by
    rcases(show y+δ<=b\/b<=y+δ by grind)with v|v
    .exact⟨y+δ,O4,O4,v⟩
    .exact⟨b,P,O4,O4⟩
   have Z:=D z z1 z2 r;have k:=Q z O4 r;rcases Pk (Zd (sqf F xs) b)with⟨i,j⟩|⟨i,j⟩|⟨i,j⟩
   .rw [j]at k;have I:=rsg_1 k;rcases(show σ<0\/0<σ by grind)with s|s
    .have:=Rat.mul_pos (a:=-σ) (b:=Zd (sqf F xs) z) O4 I;grind
    .have:=Rat.mul_pos s i;grind
   .rw [j]at k;have I:=Zoz k;rcases(show σ<0\/0<σ by grind)with s|s
    .have:=Rat.mul_pos (a:=-σ) (b:=-Zd (sqf F xs) b) O4 O4;grind
    .have:=Rat.mul_pos (a:=σ) (b:=-Zd (sqf F xs) z) s O4;grind
   .exact g i
 have d:∀u v,a<=u->u<=v->v<=b->v-u<=h/2->vch F xs u-vch F xs v<=(if v=b/\Zd (sqf F xs) b=0 then 1 else 0):=λu v l M B c4=>by
  have e:=R u v l M B O4;have e':vch F xs u-vch F xs v=crs (Zd (sqf F xs)) u v:=e;rw [e'];unfold crs;by_cases G:Zd (sqf F xs) u≠0/\Zd (sqf F xs) u*Zd (sqf F xs) v<=0
  .rw [if_pos G];have W:u<b:=by
    rcases(show u<b\/u=b by grind)with q|q
    .exact q
    .exfalso;have:v=u:=O4;subst this;have:=Gu G.1;grind
   have g1:=H u l W;have g2:0<=σ*Zd (sqf F xs) v:=by
    rcases(show v<b\/v=b by grind)with q|q
    .exact H v O4 q
    .rw [q];exact V
   have m:Zd (sqf F xs) v=0:=by
    rcases(show Zd (sqf F xs) v=0\/Zd (sqf F xs) v≠0 by grind)with q|q
    .exact q
    .exfalso;have m1:=Rat.mul_nonneg g1 g2;have m2:=Gu Y;have m3:(σ*σ)*(Zd (sqf F xs) u*Zd (sqf F xs) v)>=0:=O4;rcases(show Zd (sqf F xs) u*Zd (sqf F xs) v<0\/Zd (sqf F xs) u*Zd (sqf F xs) v=0 by grind)with w|w
     .have:=Rat.mul_pos m2 (show 0 < -(Zd (sqf F xs) u*Zd (sqf F xs) v) by grind);grind
     .rcases Rat.mul_eq_zero.1 w with z|z
      .exact G.1 z
      .exact q z
   rcases(show v<b\/v=b by grind)with q|q
   .exfalso;obtain⟨δ,d1,D⟩:=c v O4 q;obtain⟨z,z1,z2,r,z4⟩:∃z,v<z/\z<=v+δ/\z<=b/\z-v<=h/2:=by
     rcases(show δ<=h/2\/h/2<=δ by grind)with w|w
     .rcases(show v+δ<=b\/b<=v+δ by grind)with t|t
      .exact⟨v+δ,O4,O4,t,O4⟩
      .exact⟨b,q,O4,O4,O4⟩
     .rcases(show v+h/2<=b\/b<=v+h/2 by grind)with t|t
      .exact⟨v+h/2,O4,O4,t,O4⟩
      .exact⟨b,q,O4,O4,O4⟩
    have Z:=D z z1 z2 r;have a1:=R u z l O4 r O4;have a2:=R v z O4 O4 r O4;have r1:crs (Zd (sqf F xs)) u z=0:=by
     unfold crs;rw [if_neg];rintro⟨w1,w2⟩;have g3:0<σ*Zd (sqf F xs) u:=by
      rcases(show σ*Zd (sqf F xs) u=0\/0<σ*Zd (sqf F xs) u by grind)with t|t
      .rcases Rat.mul_eq_zero.1 t with t|t
       .exact absurd t Y
       .exact absurd t w1
      .exact t
     have m1:=Rat.mul_pos g3 Z;have m2:=Gu Y;have m3:0<(σ*σ)*(Zd (sqf F xs) u*Zd (sqf F xs) z):=O4;have m4:=Rat.mul_nonneg (a:=σ*σ) (b:=-(Zd (sqf F xs) u*Zd (sqf F xs) z)) O4 O4;grind
    have r2:crs (Zd (sqf F xs)) v z=0:=by unfold crs;rw [if_neg];rintro⟨w1,w2⟩;exact w1 m
    have r3:crs (Zd (sqf F xs)) u v=1:=by unfold crs;rw [if_pos G]
    rw [r1]at a1;rw [r2]at a2;rw [r3]at e;omega
   .rw [q]at m;rw [if_pos ⟨q,m⟩];decide
  .rw [if_neg G];split<;>decide
 have a0:∀n:Nat,∀u,a<=u->u<=b->b-u<=(n:Rat)*(h/2)->vch F xs u-vch F xs b<=(if Zd (sqf F xs) b=0 then 1 else 0):=λn=>by
  induction n with
  | zero=>
   intro u l M B;have:u=b:=by push_cast at B;grind
   subst this;rw [Int.sub_self];split<;>decide
  | succ n ih=>
   intro u l M B;push_cast at B;by_cases hy:b-u<=h/2
   .have:=d u b l M O4 hy;by_cases g:Zd (sqf F xs) b=0
    .rw [if_pos ⟨rfl,g⟩]at this;rw [if_pos g];exact this
    .rw [if_neg (λe=>g e.2)]at this;rw [if_neg g];exact this
   .have i1:=ih (u+h/2) O4 O4 O4;have i2:=d u (u+h/2) l O4 O4 O4;rw [if_neg (λe=>by have:=e.1;grind)]at i2;generalize (if Zd (sqf F xs) b=0 then(1:Int)else 0)=t at *;omega
 obtain⟨n,hn⟩:=Zgv (b-a) (show 0<h/2 by grind);exact a0 n a O4 O4 hn
structure Odp (F n:Nat) (p o:List Int):Prop where
 tr:Tr p
 ne:p≠[]
 sz:Sz n p
 hn:n<=220
 hl:p.length<=11
 hF:p.length<=F+1
 eq:o=Cj F p.length (Xe p)
 otr:Tr o
 one:o≠[]
 ok:Ae F o
theorem Odp.sq{n:Nat}(h:Odp F n p o):∃(c d:Int) (B:List Int),c≠0/\d≠0/\∀x:Rat,(d:Rat)*Zd p x=(c:Rat)*(Zd o x*(Zd B x*Zd B x)):=by have i:=Dp.start h.tr h.ne;obtain⟨⟨B,g⟩,-⟩:=Fk h.tr h.ne h.sz h.hn h.hl h.hF p.length (Xe p) i (by rw [Pm h.tr];exact Nat.le_refl _);rw [<-h.eq]at g;obtain⟨c,d,j,k,e⟩:=Zfk ((Hb (Zz p)).trans (Qu h.tr):Sim (Xe p) p);exact⟨c,d,B,j,k,λx=>by rw [<-g x];exact(e x).symm⟩
theorem Odp.sqf{n:Nat}(h:Odp F n p o):Go.Sky.sqf F o=Xe o:=by
 have e:=Dp.start h.tr h.ne;have c:=(e.ok h.tr h.ne h.sz h.hn h.hl h.hF).2;have d:Eh F p:=by unfold Eh at c ⊢;rwa [e.2.2.1]at c
 obtain⟨-,g⟩:=Fk h.tr h.ne h.sz h.hn h.hl h.hF p.length (Xe p) e (by rw [Pm h.tr];exact Nat.le_refl _);rw [<-h.eq]at g;rw [Dl e.2.2.1]at g;exact(Ztr h.tr h.ne h.sz h.hn h.hl h.hF h.otr h.one h.ok.1.2.2.1 d g).2
theorem Odp.srt{n:Nat}(h:Odp F n p o):∃c d:Int,c≠0/\d≠0/\∀x:Rat,(c:Rat)*Zd (Go.Sky.sqf F o) x=(d:Rat)*Zd o x:=by rw [h.sqf];exact Zfk ((Hb (Zz o)).trans (Qu h.otr):Sim (Xe o) o)
theorem Odp.zero{n:Nat}(h:Odp F n p o)(x:Rat):Zd (Go.Sky.sqf F o) x=0↔Zd o x=0:=by
 obtain⟨c,d,i,j,e⟩:=h.srt;have g:=e x;constructor
 .intro z;rw [z]at g;rcases Rat.mul_eq_zero.1 (show(d:Rat)*Zd o x=0 by grind)with q|q
  .exact absurd q (Pn j)
  .exact q
 .intro z;rw [z]at g;rcases Rat.mul_eq_zero.1 (show(c:Rat)*Zd (Go.Sky.sqf F o) x=0 by grind)with q|q
  .exact absurd q (Pn i)
  .exact q
theorem Odp.nz{n:Nat}(h:Odp F n p o)(j:Zd p x≠0):Zd o x≠0:=λz=>by
 obtain⟨c,d,B,k,i,e⟩:=h.sq;have g:=e x;rw [z]at g;rcases Rat.mul_eq_zero.1 (show(d:Rat)*Zd p x=0 by grind)with q|q
 .exact Pn i q
 .exact j q
theorem Odp.opp{n:Nat}(h:Odp F n p o){y:Rat}(j:Zd p x*Zd p y<0):Zd o x*Zd o y<0/\Zd (Go.Sky.sqf F o) x*Zd (Go.Sky.sqf F o) y<0:=by obtain⟨c,d,B,m,q,e⟩:=h.sq;have r:(Zd o x*(Zd B x*Zd B x))*(Zd o y*(Zd B y*Zd B y))<0:=Zf0 (Pn m) (Pn q) (e x).symm (e y).symm j;have l:=Yg5 r;obtain⟨w,z,g,i,k⟩:=h.srt;exact⟨l,Zf0 (Pn g) (Pn i) (k x) (k y) l⟩
theorem Odp.sem{n:Nat}(h:Odp F n p o)(i:a<b):(Ep p.length p a<0\/Az F o a b)↔Zx7 p a b:=by
 have j:=Yhf h.tr h.ne h.sz h.hn h.hl h.hF h.eq h.otr h.one h.ok i;constructor
 .rintro(k|k)
  .obtain⟨δ,M,m⟩:=Bx p.length p a (Nat.le_refl _);have r:=Zry p.length p a;have hm:Ep p.length p a=-1:=O;rcases(show a+δ<=b\/b<=a+δ by grind)with q|q
   .exact⟨a+δ,O4,q,Zoz (by rw [m (a+δ) O4 O4,hm])⟩
   .exact⟨b,O4,O4,Zoz (by rw [m b i q,hm])⟩
  .rcases Classical.em (Zx7 p a b)with q|q
   .exact q
   .exfalso;have S:∀x,a<=x->x<=b->0<=Zd p x:=λx u v=>by
     rcases(show 0<=Zd p x\/Zd p x<0 by grind)with w|w
     .exact w
     .exact absurd ⟨x,u,v,w⟩ q
    have l:∀x,a<=x->x<b->∃δ:Rat,0<δ/\∀y,x<y->y<=x+δ->y<=b->0<Zd p y:=λx u v=>by
     obtain⟨δ,M,m⟩:=Bx p.length p x (Nat.le_refl _);have r:=Zry p.length p x;have r0:=Zgw p.length p x h.tr h.ne (Nat.le_refl _);refine⟨δ,M,λy G H I=>?_⟩;have s:=m y G H;rcases Pk (Zd p y)with⟨N,P⟩|⟨N,P⟩|⟨N,P⟩
     .exact N
     .have:=S y O4 I;grind
     .rw [P]at s;exact absurd s.symm r0
    obtain⟨δ,M,m⟩:=l a O4 i;obtain⟨z,z1,z2,z3⟩:∃z,a<z/\z<=a+δ/\z<=b:=by
     rcases(show a+δ<=b\/b<=a+δ by grind)with w|w
     .exact⟨a+δ,O4,O4,w⟩
     .exact⟨b,i,w,O4⟩
    have hz:=m z z1 z2 z3;have hσ:Zd (Go.Sky.sqf F o) z≠0:=λe=>h.nz (x:=z) O4 ((h.zero z).1 e);have Z:=Yix h.otr h.one h.ok (σ:=Zd (Go.Sky.sqf F o) z) hσ i (λx u v=>by
     obtain⟨ε,e1,e2⟩:=l x u v;refine⟨ε,e1,λy G H I=>?_⟩;have hy:=e2 y G H I;have V:Zd (Go.Sky.sqf F o) y≠0:=λe=>h.nz (x:=y) O4 ((h.zero y).1 e);rcases(show 0<Zd (Go.Sky.sqf F o) z*Zd (Go.Sky.sqf F o) y\/Zd (Go.Sky.sqf F o) z*Zd (Go.Sky.sqf F o) y<0\/Zd (Go.Sky.sqf F o) z*Zd (Go.Sky.sqf F o) y=0 by grind)with w|w|w
     .exact w
     .exfalso;obtain⟨c,d,B,hc,hd,e⟩:=h.sq;obtain⟨c',d',Q,R,Y⟩:=h.srt;have w1:Zd o z*Zd o y<0:=Zf0 (Pn R) (Pn Q) (Y z).symm (Y y).symm w;have p1:=Rat.mul_pos hz hy;have q1:((d:Rat)*(d:Rat))*(Zd p z*Zd p y)=((c:Rat)*(c:Rat))*((Zd o z*Zd o y)*((Zd B z*Zd B y)*(Zd B z*Zd B y))):=by
       have a1:=e z;have a2:=e y;have:((d:Rat)*Zd p z)*((d:Rat)*Zd p y)=((c:Rat)*(Zd o z*(Zd B z*Zd B z)))*((c:Rat)*(Zd o y*(Zd B y*Zd B y))):=by rw [a1,a2]
       grind
      have D:=Rat.mul_pos (Gu (Pn hd)) p1;have q3:0<=(Zd B z*Zd B y)*(Zd B z*Zd B y):=by
       by_cases t:Zd B z*Zd B y=0
       .rw [t];grind
       .exact Rat.le_of_lt (Gu t)
      have q4:=Rat.mul_nonneg (Rat.le_of_lt (Gu (Pn hc))) (Rat.mul_nonneg (show 0<=-(Zd o z*Zd o y) by grind) q3);grind
     .rcases Rat.mul_eq_zero.1 w with t|t
      .exact absurd t hσ
      .exact absurd t V)
    unfold Az at k;by_cases g:Zd o b=0
    .rw [if_pos g]at k;rw [if_pos ((h.zero b).2 g)]at Z;omega
    .rw [if_neg g]at k;rw [if_neg (λe=>g ((h.zero b).1 e))]at Z;omega
 .rintro⟨x,x1,x2,W⟩;rcases(show x=a\/x=b\/(a<x/\x<b) by grind)with q|q|⟨q1,D⟩
  .subst q;exact j.1 (.inl W)
  .subst q;exact j.1 (.inr (.inl W))
  .have r:=Zry p.length p a;have r0:=Zgw p.length p a h.tr h.ne (Nat.le_refl _);rcases(show Ep p.length p a<0\/Ep p.length p a=1 by omega)with k|k
   .exact .inl k
   .right;have hv:=Zn0 h.tr h.ne h.sz h.hn h.hl h.hF h.eq h.otr h.one h.ok q1 k W;have m1:=Zjz h.otr h.one h.ok (Rat.le_of_lt D);unfold Az;by_cases g:Zd o b=0
    .rw [if_pos g];have hx:Zd (Go.Sky.sqf F o) x≠0:=λe=>h.nz (x:=x) O4 ((h.zero x).1 e);rcases Int.lt_or_le (vch F o b) (vch F o x)with w|w
     .omega
     .exfalso;have:=Zdu h.otr h.one h.ok (Rat.le_of_lt D) w hx b (Rat.le_of_lt D) O4;rw [(h.zero b).2 g]at this;grind
    .rw [if_neg g];omega
theorem Zuj(g:Rat->Rat){h:Rat}(j:0<h):∀(n:Nat) (u v:Rat),u<v->v-u<=(n:Rat)*h->g u*g v<0->∃x y,u<=x/\x<y/\y<=v/\y-x<=h/\g x≠0/\g x*g y<=0
 | 0,u,v,a,b,_=>by push_cast at b;grind
 | n+1,u,v,a,b,c=>by
  push_cast at b;have d:g u≠0:=λe=>by rw [e]at c;grind
  by_cases i:v-u<=h
  .exact⟨u,v,O4,a,O4,i,d,O4⟩
  .rcases(show g u*g (u+h)<=0\/0<g u*g (u+h) by grind)with q|q
   .exact⟨u,u+h,O4,O4,O4,O4,d,q⟩
   .have k:g (u+h)*g v<0:=by
     have D:=Gu d;rcases(show g (u+h)*g v<0\/0<=g (u+h)*g v by grind)with w|w
     .exact w
     .have H:=Rat.mul_pos q (show 0 < -(g u*g v) by grind);have I:=Rat.mul_nonneg (Rat.le_of_lt D) w;grind
    obtain⟨x,y,G,l,m,r,z,B⟩:=Zuj g j n (u+h) v O4 O4 k;exact⟨x,y,O4,l,m,r,z,B⟩
theorem Zny{c:Rat}(h:a*b<0)(d:a-b<=c)(e:b-a<=c):-c<=a/\a<=c:=by
 rcases(show 0<a\/a<0\/a=0 by grind)with q|q|q
 .have:b<0:=by
   rcases(show b<0\/0<=b by grind)with w|w
   .exact w
   .have:=Rat.mul_nonneg (Rat.le_of_lt q) w;grind
  grind
 .have:0<b:=by
   rcases(show 0<b\/b<=0 by grind)with w|w
   .exact w
   .have:=Rat.mul_nonneg (show 0<=-a by grind) (show 0<=-b by grind);grind
  grind
 .rw [q]at h;grind
theorem Zux(hx:Tr xs)(h0:xs≠[])(hC:Ae F xs)(ho:Tr o)(o0:o≠[])(hE:Ed o (sqf F xs))(r:u<v)(hu:Zd (sqf F xs) u≠0)(h:Zd o u*Zd o v<0):vch F xs v<vch F xs u:=by
 rcases Int.lt_or_le (vch F xs v) (vch F xs u)with q|q
 .exact q
 .exfalso;have hk:=Zdu hx h0 hC (Rat.le_of_lt r) q hu;obtain⟨k,w,R,B⟩:=hE;have m:=Pn R;have l:∀d,Tr d->Ed d o->Ed d (tzl w)->d.length<=1:=λd hd e1 M=>by
   obtain⟨g,s1,I,r1⟩:=e1;obtain⟨i,s2,c2,r2⟩:=M;refine Zfj hx h0 hC.1.2.2.1 hd ⟨k*g,lmul w s1,Int.mul_ne_zero R I,λx=>?_⟩ ⟨k*g*i,Ma ((lmul (ld w) s1).map λa=>i*a) ((lmul s2 (ld o)).map λa=>g*a),Int.mul_ne_zero (Int.mul_ne_zero R I) c2,λx=>?_⟩
   .rw [Zx];have Y:=B x;have j:=r1 x;push_cast;grind
   .rw [Xh,Zk,Zk,Zx,Zx,Kw];have W:=Ca (p:=(sqf F xs).map λa=>k*a) (q:=lmul w o) (λy=>by rw [Zk,Zx];exact B y) x;rw [Ak,Cr]at W;have j:=r1 x;have Z:=r2 x;rw [Ny]at Z;push_cast;have b1:(k:Rat)*g*i*Zd (ld (sqf F xs)) x=(g:Rat)*i*(Zd (ld w) x*Zd o x+Zd w x*Zd (ld o) x):=by rw [<-W];grind
    rw [b1];have b2:(g:Rat)*i*(Zd (ld w) x*Zd o x+Zd w x*Zd (ld o) x)=(i:Rat)*(Zd (ld w) x*((g:Rat)*Zd o x))+(g:Rat)*(((i:Rat)*Zd w x)*Zd (ld o) x):=O4;rw [b2,j,Z];grind
  obtain⟨ε,e1,M⟩:=Yay ho (Qc w) o0 l u v;obtain⟨G,l1,l2⟩:=Cq u v o;obtain⟨H,m1,m2⟩:=Cq u v w;obtain⟨z,d1,-,d3⟩:=Hz (show(0:Rat)<1 by decide) (show 0<G+H by grind) (show 0<ε/2 by grind);obtain⟨n,hn⟩:=Zgv (v-u) d1;obtain⟨x,y,D,x2,V,x4,x5,x6⟩:=Zuj (Zd o) d1 n u v r hn h;have sx:=hk x D O4;have sy:=hk y O4 V;have ox:=B x;have oy:=B y;have Q:Zd o y≠0:=λe=>by
   rw [e]at oy;rcases Rat.mul_eq_zero.1 (show(k:Rat)*Zd (sqf F xs) y=0 by grind)with t|t
   .exact m t
   .rw [t]at sy;grind
  have N:Zd o x*Zd o y<0:=by
   rcases(show Zd o x*Zd o y<0\/Zd o x*Zd o y=0 by grind)with t|t
   .exact t
   .rcases Rat.mul_eq_zero.1 t with t|t
    .exact absurd t x5
    .exact absurd t Q
  have S:0<Zd (sqf F xs) x*Zd (sqf F xs) y:=by
   have Y:=Rat.mul_pos sx sy;have j:=Gu hu;rcases(show 0<Zd (sqf F xs) x*Zd (sqf F xs) y\/Zd (sqf F xs) x*Zd (sqf F xs) y<=0 by grind)with t|t
   .exact t
   .have:=Rat.mul_nonneg (Rat.le_of_lt j) (show 0<=-(Zd (sqf F xs) x*Zd (sqf F xs) y) by grind);grind
  have P:Zd w x*Zd w y<0:=by
   have Y:(k:Rat)*k*(Zd (sqf F xs) x*Zd (sqf F xs) y)=(Zd w x*Zd w y)*(Zd o x*Zd o y):=by
    have:((k:Rat)*Zd (sqf F xs) x)*((k:Rat)*Zd (sqf F xs) y)=(Zd w x*Zd o x)*(Zd w y*Zd o y):=by rw [ox,oy]
    grind
   have j:=Rat.mul_pos (Gu m) S;rcases(show Zd w x*Zd w y<0\/0<=Zd w x*Zd w y by grind)with t|t
   .exact t
   .have:=Rat.mul_nonneg t (show 0<=-(Zd o x*Zd o y) by grind);grind
  have I:=l2 x y D O4 V;have c2:=m2 x y D O4 V;have n1:=Rat.mul_nonneg (a:=G) (b:=z-(y-x)) O4 O4;have n2:=Rat.mul_nonneg (a:=H) (b:=z-(y-x)) O4 O4;have n3:=Rat.mul_nonneg (a:=G) (b:=z) O4 O4;have n4:=Rat.mul_nonneg (a:=H) (b:=z) O4 O4;obtain⟨b1,b2⟩:=Zny (c:=ε/2) N O4 O4;obtain⟨b3,b4⟩:=Zny (c:=ε/2) P O4 O4;rcases M x D O4 with t|t
  .unfold Big at t;grind
  .unfold Big at t;rw [Ny]at t;grind
theorem Zno(i:Tr xs)(d:xs≠[])(e:Ae F xs)(c:u<v)(g:Zd (sqf F xs) u≠0)(h:Zd (sqf F xs) v=0):vch F xs v<vch F xs u:=by
 rcases Int.lt_or_le (vch F xs v) (vch F xs u)with q|q
 .exact q
 .exfalso;have:=Zdu i d e (Rat.le_of_lt c) q g v (Rat.le_of_lt c) O4;rw [h]at this;grind
theorem Odp.ed{n:Nat}(h:Odp F n p o):Ed o (Go.Sky.sqf F p):=by have c:=Dp.start h.tr h.ne;obtain⟨-,d⟩:=Fk h.tr h.ne h.sz h.hn h.hl h.hF p.length (Xe p) c (by rw [Pm h.tr];exact Nat.le_refl _);rw [<-h.eq]at d;rwa [Dl c.2.2.1]at d
theorem Yes(i:Tr xs)(c:xs≠[])(d:Ae F xs)(x:Rat):Zd xs x=0↔Zd (sqf F xs) x=0:=by
 constructor
 .intro h;have j:(x.den:Int)≠0:=by exact_mod_cast x.den_nz
  have e:((x.num:Int):Rat)/((x.den:Int):Rat)=x:=by rw [<-Rat.divInt_eq_div];exact Rat.num_divInt_den x
  have:=Yeu i c d.1.2.2.1 j (r:=x.num) (by rw [e];exact h);rwa [e]at this
 .intro h;obtain⟨g,k⟩:=Ymt i c d.1.2.2.1;rw [k x,h];grind
theorem Ynm {n:Nat}  (h:Odp F n p o) (d:Ae F p) {K:Nat} {e:Nat} (j:∀u v:Rat,-(K:Rat)<=u->u<=v->v<=(K:Rat)->v-u<=1/((2^e:Nat):Rat)->vch F p u-vch F p v<=1)
   (h1:-(K:Rat)+1<=s) (H:t<=(K:Rat)) (hs:0<=Zd p s) (ht:0<=Zd p t) (N:Zx7 p s t):1/((2^(e+1):Nat):Rat)<t-s:=by
 obtain⟨x,x1,x2,x3⟩:=N;have l:s<x:=by rcases(show s<x\/s=x by grind)with q|q;exact q;subst q;grind
 have m:x<t:=by rcases(show x<t\/x=t by grind)with q|q;exact q;subst q;grind
 obtain⟨f1,f2,f3,f4,f5,f6⟩:=Ol (F:=F) h.tr h.ne d.1.2.2.1;have i:Zd (Go.Sky.sqf F p) x≠0:=λz=>by have:=(Yes h.tr h.ne d x).2 z;grind
 rcases(show 1/((2^(e+1):Nat):Rat)<t-s\/t-s<=1/((2^(e+1):Nat):Rat) by grind)with q|q
 .exact q
 .exfalso;have P:=two_pow_pos e;have Q:=two_pow_pos (e+1);have D:((2^(e+1):Nat):Rat)=2*((2^e:Nat):Rat):=by rw [Nat.pow_succ];push_cast;grind
  have hi:0<((2^e:Nat):Rat)⁻¹:=Rat.inv_pos.2 P;have I:1/((2^(e+1):Nat):Rat)=((2^e:Nat):Rat)⁻¹/2:=by rw [D];grind
  have G:1/((2^e:Nat):Rat)=((2^e:Nat):Rat)⁻¹:=O4;have M:((2^e:Nat):Rat)⁻¹<=1:=by
   have Z:(1:Rat)<=((2^e:Nat):Rat):=by have:1<=2^e:=Nat.two_pow_pos e;exact_mod_cast this
   have g2:=Rat.mul_nonneg (a:=((2^e:Nat):Rat)-1) (b:=((2^e:Nat):Rat)⁻¹) O4 O4;have g3:((2^e:Nat):Rat)*((2^e:Nat):Rat)⁻¹=1:=Rat.mul_inv_cancel _ O4;grind
  obtain⟨u,u1,u2,u3⟩:∃u,s-((2^e:Nat):Rat)⁻¹/2<=u/\u<=s/\vch F p x<vch F p u:=by
   by_cases z:Zd (Go.Sky.sqf F p) s=0
   .obtain⟨δ,Y,B⟩:=Bx (Go.Sky.sqf F p).length (Go.Sky.sqf F p) (s-((2^e:Nat):Rat)⁻¹/2) (Nat.le_refl _);have r:=Zgw (Go.Sky.sqf F p).length (Go.Sky.sqf F p) (s-((2^e:Nat):Rat)⁻¹/2) f2 f3 (Nat.le_refl _);obtain⟨u,S,V,W⟩:∃u,s-((2^e:Nat):Rat)⁻¹/2<u/\u<=s-((2^e:Nat):Rat)⁻¹/2+δ/\u<s:=by
     rcases(show s-((2^e:Nat):Rat)⁻¹/2+δ<s\/s<=s-((2^e:Nat):Rat)⁻¹/2+δ by grind)with w|w
     .exact⟨_,O4,Rat.le_refl,w⟩
     .exact⟨s-((2^e:Nat):Rat)⁻¹/4,O4,O4,O4⟩
    have R:Zd (Go.Sky.sqf F p) u≠0:=λc=>by have:=B u S V;rw [c]at this;exact r this.symm
    have m1:=Zno h.tr h.ne d W R z;have m2:=Zjz h.tr h.ne d (Rat.le_of_lt l);exact⟨u,O4,O4,O⟩
   .have g:0<Zd p s:=by have:Zd p s≠0:=λc=>z ((Yes h.tr h.ne d s).1 c);grind
    have k:=h.opp (x:=s) (y:=x) (by have:=Rat.mul_pos g (show 0 < -Zd p x by grind);grind);exact⟨s,O4,O4,Zux h.tr h.ne d h.otr h.one h.ed l z k.1⟩
  have u4:vch F p t<vch F p x:=by
   by_cases z:Zd (Go.Sky.sqf F p) t=0
   .exact Zno h.tr h.ne d m i z
   .have g:0<Zd p t:=by have:Zd p t≠0:=λc=>z ((Yes h.tr h.ne d t).1 c);grind
    have k:=h.opp (x:=x) (y:=t) (by have:=Rat.mul_pos g (show 0 < -Zd p x by grind);grind);exact Zux h.tr h.ne d h.otr h.one h.ed m i k.1
  have:=j u t O4 O4 H O4;omega
end Go.Sky

