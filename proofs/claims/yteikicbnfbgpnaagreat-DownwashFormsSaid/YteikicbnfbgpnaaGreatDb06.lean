/- Rules, arithmetic and contracts: part 7. No conditions but those that each theorem names. -/
import Derived.Test.YteikicbnfbgpnaaGreatDb05
set_option linter.all false
namespace Go.Sky
def Be(F:Nat)(xs:List Int)(x:Rat):Int:=vat ((chn F xs).map Zb) x
theorem cvc_v{F:Nat}{xs:List Int}{z:R2}(h:0<z.2):cvc F xs z=Be F xs (qv z):=Yia h
def Sqn(P:R2→R2→Prop)(hi:Rat):Rat→List (R2×R2)→Prop
 | lo,[]=>lo≤hi
 | lo,c :: r=>lo≤qv c.1∧qv c.1<qv c.2∧P c.1 c.2∧Sqn P hi (qv c.2) r
theorem Sqn.le{P:R2→R2→Prop}{hi:Rat} : ∀{lo:Rat} {l:List (R2×R2)},Sqn P hi lo l→lo≤hi
 | lo,[],h=>h
 | lo,c :: r,h=>by have:=Sqn.le h.2.2.2;have:=h.1;have:=h.2.1;grind
theorem Sqn.low{P:R2→R2→Prop}{hi:Rat}{lo lo':Rat}(h1:lo'≤lo):∀{l:List (R2×R2)},Sqn P hi lo l→Sqn P hi lo' l
 | [],h=>by have h:lo≤hi:=h;show lo'≤hi;grind
 | c :: r,h=>⟨by have:=h.1;grind,h.2⟩
theorem Sqn.app{P:R2→R2→Prop}{mid hi:Rat}{l2:List (R2×R2)}(h2:Sqn P hi mid l2):∀{lo:Rat} {l1:List (R2×R2)},Sqn P mid lo l1→Sqn P hi lo (l1 ++ l2)
 | lo,[],h=>h2.low h
 | lo,c :: r,h=>⟨h.1,h.2.1,h.2.2.1,Sqn.app h2 h.2.2.2⟩
theorem Zl6{a:R2}{K:Nat}(ha:0<a.2)(h:a.1.natAbs≤K):-(K:Rat)≤qv a∧qv a≤(K:Rat):=by
 obtain⟨c1,c2⟩:=Yef h
 have ra:(1:Rat)≤(a.2:Rat):=by exact_mod_cast (show 1≤a.2 by omega)
 have hK:(0:Rat)≤(K:Rat):=Hd (Nat.zero_le _)
 have hi:=Rat.inv_pos.2 (show 0<(a.2:Rat) by grind)
 have hm:(a.2:Rat)*(a.2:Rat)⁻¹=1:=O4
 unfold qv;rw [Rat.div_def]
 have t1:=Rat.mul_nonneg (a:=(a.2:Rat)⁻¹) (b:=(K:Rat)*a.2-a.1) O4 (by have:=Rat.mul_nonneg (a:=(K:Rat)) (b:=(a.2:Rat)-1) hK O4;grind)
 have t2:=Rat.mul_nonneg (a:=(a.2:Rat)⁻¹) (b:=(K:Rat)*a.2+a.1) O4 (by have:=Rat.mul_nonneg (a:=(K:Rat)) (b:=(a.2:Rat)-1) hK O4;grind)
 have e1:(a.2:Rat)⁻¹*((K:Rat)*a.2-a.1)=(K:Rat)*(a.2*(a.2:Rat)⁻¹)-a.1*(a.2:Rat)⁻¹:=O4
 have e2:(a.2:Rat)⁻¹*((K:Rat)*a.2+a.1)=(K:Rat)*(a.2*(a.2:Rat)⁻¹)+a.1*(a.2:Rat)⁻¹:=O4
 rw [e1,hm]at t1
 rw [e2,hm]at t2
 constructor<;>grind
theorem Zal{a:R2}{n:Nat}(ha:0<a.2)(h1:bl a.1.natAbs≤n)(h2:bl a.2.natAbs≤n)(hn:n≤65536) :
  ¬Lq a.1 a.2∧0<(slow a).2∧bl (slow a).1.natAbs≤n∧bl (slow a).2.natAbs≤n∧qv (slow a)=qv a:=by
 obtain⟨f1,f2,f3,f4,f5,f6⟩:=Zmr (x:=a.1) (y:=a.2) (X:=a.1) (Y:=a.2) ha ha rfl h1 h2 hn
 refine⟨f1,f3,f4,f5,?_⟩
 have r1:=Il ha
 have r2:=Il f3
 have h6:((Eg a.1 a.2:Int):Rat)*(a.2:Rat)=(a.1:Rat)*((Ff a.1 a.2:Int):Rat):=by exact_mod_cast f6
 show((Eg a.1 a.2:Int):Rat)/((Ff a.1 a.2:Int):Rat)=(a.1:Rat)/(a.2:Rat)
 generalize ((Eg a.1 a.2:Int):Rat)=N at *
 generalize ((Ff a.1 a.2:Int):Rat)=D at *
 generalize (a.1:Rat)=x at *
 generalize (a.2:Rat)=y at *
 have:N/D*(D*y)=x/y*(D*y):=by
  have e1:N/D*(D*y)=N*y:=O4
  have e2:x/y*(D*y)=x*D:=O4
  rw [e1,e2,h6]
 have hp:=Rat.mul_pos r2 r1
 have e3:N/D=N/D*(D*y)*(D*y)⁻¹:=O4
 have e4:x/y=x/y*(D*y)*(D*y)⁻¹:=O4
 rw [e3,this,←e4]
theorem sep_of {xs:List Int} {F K A e:Nat} (hx:Tr xs) (h0:xs≠[]) (hC:Cd F xs) (hK:0<K) (hA:0<A) (na:∀i,(cf (sqf F xs) i).natAbs≤A) (nb:∀i,(cf (Yx (sqf F xs)) i).natAbs≤A)
  (hs:2≤(sqf F xs).length→Zuh K A (sqf F xs).length e=true) (u v:Rat) (h1:-(K:Rat)≤u) (huv:u≤v) (h3:v≤(K:Rat)) (hh:v-u≤1/((2^e:Nat):Rat)):Be F xs u-Be F xs v≤1:=by
 by_cases h2:2≤(sqf F xs).length
 ·have h:=Yim hx h0 hC hK hA rfl h2 na nb (hs h2) h1 huv h3 hh
  show vat _ u-vat _ v≤1
  rw [h];unfold crs;split<;>decide
 ·have hl:=Oz (sqf F xs)
  have hd:Yx (sqf F xs)=[]:=List.eq_nil_of_length_eq_zero O
  have hc:chn F xs=[sqf F xs]:=by unfold chn;rw [hd,Zxs,Ds]
  unfold Be vat
  rw [hc]
  have r1:=Zfo (([Zb (sqf F xs)]).map fun g=>Gx (g u))
  have r2:=Zfo (([Zb (sqf F xs)]).map fun g=>Gx (g v))
  simp only [List.map_cons,List.map_nil,List.length_cons,List.length_nil]at r1 r2 ⊢
  omega
theorem Sqn.mem{P:R2→R2→Prop}{hi:Rat} : ∀{lo:Rat} {l:List (R2×R2)},Sqn P hi lo l→∀c∈l,P c.1 c.2
 | _,[],_,c,hc=>by cases hc
 | lo,d :: r,h,c,hc=>by
  rcases List.mem_cons.1 hc with rfl | hc
  ·exact h.2.2.1
  ·exact Sqn.mem h.2.2.2 c hc
theorem en_bl{K Q d B:Nat}{z:R2}(h:En K Q d z)(hQ:0<Q)(h1:Q*2^d<2^B)(h2:K*(Q*2^d)<2^B):bl z.1.natAbs≤B∧bl z.2.natAbs≤B:=by
 obtain⟨hp,hd,hl,hu⟩:=h
 have hpos:0<Q*2^d:=Nat.mul_pos hQ (Nat.pow_pos O3)
 have hz2:z.2.natAbs≤Q*2^d:=by
  have:=Int.natAbs_dvd_natAbs.2 hd
  rw [Int.natAbs_natCast]at this
  exact Nat.le_of_dvd hpos this
 have hz1:z.1.natAbs≤K*z.2.natAbs:=by
  have r:=Il hp
  have e:(z.1:Rat)=qv z*z.2:=by unfold qv;grind
  have t1:=Rat.mul_nonneg (a:=(K:Rat)-qv z) (b:=(z.2:Rat)) O4 O4
  have t2:=Rat.mul_nonneg (a:=(K:Rat)+qv z) (b:=(z.2:Rat)) O4 O4
  have hn:((K*z.2.natAbs:Nat):Int)=(K:Int)*z.2:=by push_cast;rw [Int.natAbs_of_nonneg O]
  have u1:((z.1:Int):Rat)≤(((K:Int)*z.2:Int):Rat):=by push_cast;grind
  have u2:((-((K:Int)*z.2):Int):Rat)≤((z.1:Int):Rat):=by push_cast;grind
  have v1:z.1≤(K:Int)*z.2:=by exact_mod_cast u1
  have v2:-((K:Int)*z.2)≤z.1:=by exact_mod_cast u2
  omega
 have hz3:K*z.2.natAbs≤K*(Q*2^d):=Nat.mul_le_mul_left _ hz2
 exact⟨Zbd O,Zbd O⟩
theorem Ydc{n e w Q B:Nat}{z:R2}(h:En (2^n) Q (e+w) z)(hQ:0<Q)(hQ1:Q<2^(2*n))(hB:3*n+1+(e+w)≤B):bl z.1.natAbs≤B∧bl z.2.natAbs≤B:=by
 have hpow:∀m,m≤B→2^m≤2^B:=fun m h=>Nat.pow_le_pow_right O3 h
 have hPP:0<2^(e+w):=Nat.pow_pos O3
 have h1:Q*2^(e+w)<2^(2*n)*2^(e+w):=Nat.mul_lt_mul_of_pos_right hQ1 hPP
 have h2:2^n*(Q*2^(e+w))<2^n*(2^(2*n)*2^(e+w)):=Nat.mul_lt_mul_of_pos_left h1 (Nat.pow_pos O3)
 have e1:2^(2*n)*2^(e+w)=2^(2*n+(e+w)):=(Nat.pow_add _ _ _).symm
 have e2:2^n*(2^(2*n)*2^(e+w))=2^(n+(2*n+(e+w))):=by rw [e1,←Nat.pow_add]
 rw [e1]at h1
 rw [e2]at h2
 exact en_bl h hQ (Nat.lt_of_lt_of_le h1 (hpow _ O)) (Nat.lt_of_lt_of_le h2 (hpow _ O))
theorem Ed.const{g a:List Int}(h:Ed g a)(hg:Tr g)(ha:Tr a)(h0:a≠[])(hl:g.length=a.length):∃k c:Int,k≠0∧c≠0∧∀x:Rat,(k:Rat)*Zb a x=(c:Rat)*Zb g x:=by
 obtain⟨k,s,hk,h⟩:=h
 obtain⟨a1,a2,a3⟩:=Zs2 hk hg ha h0 h
 have hl1:=List.length_pos_iff.2 a2
 match hs:tzl s,hl1,a3 with
 | [c],_,_=>
  have hc:c≠0:=by have:=(Xp s).mem a2;rw [hs]at this;exact this
  refine⟨k,c,hk,hc,fun x=>?_⟩
  rw [h x,←Ma s,hs,Qq]
 | c :: d :: r,_,h9=>simp at h9;omega
theorem Zcv(p:List Int)(c:Int)(x:Rat):Zb (Zm p c) x=(c:Rat)*Zb p x:=by
 rw [←Ze];exact On x _ _ fun i=>by rw [Yr,Xv,Int.mul_comm]
theorem Zkw{p:List Int}{c:Int}(hp:Tr p)(h0:p≠[])(hc:c≠0):Zm p c≠[]:=fun e=>by
 have h1:=Yr p c (p.length-1)
 rw [e,Az]at h1
 exact Int.mul_ne_zero (hp.mem h0) hc h1.symm
theorem Ed.dv{g a:List Int}(h:Ed g a):Dv g a:=by
 obtain⟨k,s,hk,h⟩:=h
 refine⟨k,s,hk,fun t=>?_⟩
 have:=Od (p:=a.map fun c=>k*c) (q:=Xs s g) (fun x=>by rw [Ze,Yc];exact h x) t
 rw [Xv,Kq]at this
 exact this
theorem ed_cop{t u w s:List Int}{k:Int}(hk:k≠0)(ht:Tr t)(hw:Tr w)(t0:t≠[])(hc:∀d,Tr d→Ed d t→Ed d w→d.length≤1)(h:∀x:Rat,(k:Rat)*(Zb u x*Zb w x)=Zb s x*Zb t x):Ed t u:=by
 obtain⟨g,A,B,hg,g1,g2,hb⟩:=Zjp w.length t w ht hw (Nat.le_refl _)
 have hl:=hc g hg g1 g2
 have hgn:=(g1.len hg ht t0).1
 match hgg:g,hl,hgn with
 | [c],_,_=>
  have hc0:c≠0:=by have:=hg.mem O7;exact this
  refine⟨k*c,Nj ((Xs A u).map fun a=>k*a) (Xs B s),Int.mul_ne_zero hk hc0,fun x=>?_⟩
  rw [Xd,Ze,Yc,Yc]
  have h1:=hb x
  rw [Qq]at h1
  have h2:=h x
  push_cast
  rw [show(k:Rat)*c*Zb u x=k*(Zb u x*(c:Rat)) by grind,h1]
  have h3:(k:Rat)*(Zb u x*(Zb A x*Zb t x+Zb B x*Zb w x))=k*Zb A x*Zb u x*Zb t x+Zb B x*(k*(Zb u x*Zb w x)):=O4
  rw [h3,h2];grind
 | c :: d :: r,h9,_=>simp at h9
def Qz(F:Nat)(p:List Int):List Int:=Ni F (Yy p) (Yx (Yy p))
def Gq(F:Nat)(p:List Int):Prop:=eok F (gA (Yy p) (Yx (Yy p))) (gB (Yy p) (Yx (Yy p)))
theorem Qg{F:Nat}{p:List Int}(hp:Tr p)(h0:p≠[])(hok:Gq F p):Tr (Qz F p)∧Qz F p≠[]∧Yy (Qz F p)=Qz F p∧Yy p=Xs (sqf F p) (Qz F p)∧(sqf F p).length+(Qz F p).length=p.length+1:=by
 obtain⟨f1,f2,f3,f4,f5,f6⟩:=Ps (F:=F) hp h0 hok
 have ht:Tr (Yy p):=Oc (Yv hp)
 have hd:Tr (Yx (Yy p)):=Nn ht
 have hg:=Zdk (F:=F) ht hd
 have hl:=Pu f2 hg f3 f5
 rw [←f4,Qu hp]at hl
 have l1:=List.length_pos_iff.2 f3
 have l2:=List.length_pos_iff.2 f5
 refine⟨hg,f5,Zsh hg (Zia ht hd f5) (Dy (Zqh F (Zhh ht hd) (Zhg ht hd)) (fun e=>f5 (by unfold Ni;rw [e];rfl))),f4,?_⟩
 unfold Qz;omega
theorem Ygi{a b h:List Int}(hh:Tr h)(h0:h≠[]){k m:Int}(e:∀x:Rat,(k:Rat)*(Zb a x*Zb h x)=(m:Rat)*(Zb b x*Zb h x))(x:Rat):(k:Rat)*Zb a x=(m:Rat)*Zb b x:=by
 have hz:=Gk (v:=h) (f:=Nj (a.map fun c=>k*c) (b.map fun c=>(-m)*c)) (by rw [Ai hh];exact h0) (fun x=>by
  rw [Xd,Ze,Ze];have:=e x;push_cast;grind) x
 rw [Xd,Ze,Ze]at hz
 push_cast at hz;grind
theorem Zu1{F:Nat}{p:List Int}(hp:Tr p)(h0:p≠[])(hok:Gq F p)(hok2:Gq F (Qz F p)):Ed (sqf F (Qz F p)) (sqf F p):=by
 obtain⟨a1,a2,a3,a4,a5⟩:=Qg hp h0 hok
 obtain⟨b1,b2,b3,b4,b5⟩:=Qg a1 a2 hok2
 obtain⟨-,u2,u3,-,-,-⟩:=Ps (F:=F) hp h0 hok
 obtain⟨-,t2,t3,-,-,-⟩:=Ps (F:=F) a1 a2 hok2
 have ht:Tr (Yy p):=Oc (Yv hp)
 have e1:Ed (Qz F p) (Yx (Yy p)):=(Zbq ht (Nn ht) hok).2.ed
 have e2:Ed (Qz F (Qz F p)) (Yx (Qz F p)):=by
  have:=(Zbq (F:=F) (p:=Yy (Qz F p)) (q:=Yx (Yy (Qz F p))) (by rw [a3];exact a1) (Nn (by rw [a3];exact a1)) hok2).2.ed
  have h9:Qz F (Qz F p)=Ni F (Yy (Qz F p)) (Yx (Yy (Qz F p))):=rfl
  rw [←h9,a3]at this
  exact this
 have hgr:∀d,Tr d→Ed d (Qz F p)→Ed d (Yx (Qz F p))→Ed d (Qz F (Qz F p)):=fun d hd h1 h2=>by
  unfold Qz at *
  have:=Zh8 (F:=F) (d:=d) (p:=Yy (Ni F (Yy p) (Yx (Yy p)))) (q:=Yx (Yy (Ni F (Yy p) (Yx (Yy p))))) (by rw [a3];exact a1) (Nn (by rw [a3];exact a1)) (by rw [a3];exact h1) (by rw [a3];exact h2)
  exact this
 rw [a3]at b4
 generalize hg:Qz F p=g at *
 generalize hh:Qz F g=h at *
 generalize hu:sqf F p=u at *
 generalize htt:sqf F g=t at *
 obtain⟨k,s,hk,hks⟩:=e1
 obtain⟨m,w,hm,hmw⟩:=e2
 have hP:∀x:Rat,Zb (Yy p) x=Zb (lmul u g) x:=fun x=>by rw [a4,Yc,Zq]
 have hG:∀x:Rat,Zb g x=Zb (lmul t h) x:=fun x=>by
  have:Zb g x=Zb (Xs t h) x:=by rw [←b4]
  rw [this,Yc,Zq]
 have hd1:∀x:Rat,Zb (Yx (Yy p)) x=Zb (ld u) x*Zb g x+Zb u x*Zb (ld g) x:=fun x=>by rw [Ll,Fy hP,Eu]
 have hd2:∀x:Rat,(m:Rat)*Zb (ld g) x=Zb w x*Zb h x:=fun x=>by rw [←Ll];exact hmw x
 have key:∀x:Rat,(k:Rat)*(Zb (Xs u w) x*Zb h x)=(m:Rat)*(Zb (Xs (Nj s ((ld u).map fun c=>(-k)*c)) t) x*Zb h x):=fun x=>by
  rw [Yc,Yc,Xd,Ze]
  have h1:=hks x;have h2:=hd1 x;have h3:=hd2 x;have h4:=hG x
  rw [Zq]at h4
  rw [h2]at h1
  have:(k:Rat)*(Zb u x*Zb w x*Zb h x)=Zb u x*k*(Zb w x*Zb h x):=O4
  rw [this,←h3]
  push_cast
  have:Zb u x*(k:Rat)*(m*Zb (ld g) x)=m*(k*(Zb (ld u) x*Zb g x+Zb u x*Zb (ld g) x)-k*Zb (ld u) x*Zb g x):=O4
  rw [this,h1,h4];grind
 have key2:=Ygi b1 b2 key
 refine ed_cop (s:=(Xs (Nj s ((ld u).map fun c=>(-k)*c)) [m])) hk t2 (w:=tzl w) (Xp w) t3 (fun d hd h1 h2=>?_) (fun x=>?_)
 ·have h2':Ed d w:=h2.congr fun x=>Ma w x
  have hdh:Ed (Xs d h) h:=hgr _ (Xo _ _) (by
   obtain⟨k1,s1,hk1,e1⟩:=h1
   exact⟨k1,s1,hk1,fun x=>by rw [hG x,Zq,Yc];have:=e1 x;grind⟩) (by
   obtain⟨k1,s1,hk1,e1⟩:=h2'
   exact⟨k1*m,s1,Int.mul_ne_zero hk1 hm,fun x=>by rw [Ll,Yc];have:=e1 x;have:=hd2 x;push_cast;grind⟩)
  have d0:=(h1.len hd t2 t3).1
  have hl:=Pu hd b1 d0 b2
  have:=(hdh.len (Xo _ _) b1 b2).2
  have l2:=List.length_pos_iff.2 b2
  omega
 ·rw [Ma,Yc,Qq]
  have:=key2 x
  rw [Yc,Yc]at this
  rw [this];grind
theorem Zxq{u t:List Int}(hu:Tr u)(u0:u≠[])(ht:Tr t)(t0:t≠[])(hn:Yy t=t)(h:Ed t u):pdv u t∧u=Xs (Lr u t) t∧Tr (Lr u t)∧Lr u t≠[]:=by
 have hc:Ym t=1:=by have:=Bn ht t0;rwa [hn]at this
 obtain⟨k,s,hk,h⟩:=h.dv
 obtain⟨q,hq⟩:=gauss hc _ k s rfl hk h
 have hqe:u=Xs (tzl q) t:=hu.ext (Xo _ _) fun i=>by rw [Kq,hq,Ya4]
 obtain⟨p1,p2⟩:=Zmf (Xp q) ht t0
 rw [←hqe]at p1 p2
 rw [p2]
 exact⟨p1,hqe,Xp q,fun e=>u0 (by rw [hqe,e,Hj])⟩
theorem Zix{F:Nat}{p:List Int}(hp:Tr p)(h0:p≠[])(hok:Gq F p)(h2:2≤p.length):(Qz F p).length<p.length:=by
 obtain⟨a1,a2,-⟩:=Qg hp h0 hok
 have ht:Tr (Yy p):=Oc (Yv hp)
 have e1:Ed (Qz F p) (Yx (Yy p)):=(Zbq ht (Nn ht) hok).2.ed
 have hl:=Oz (Yy p)
 have hn:=Qu hp
 have:=(e1.len a1 (Nn ht) (fun e=>by rw [e]at hl;simp at hl;omega)).2
 omega
theorem Ygz{p:List Int}(hp:Tr p)(hn:Yy p=p)(hl:p.length=1):p=[1]:=by
 have h0:p≠[]:=fun e=>by rw [e]at hl;simp at hl
 have hc:=Bn hp h0
 have hd:0<cf (Yy p) ((Yy p).length-1):=Dy (Yv hp) (fun e=>h0 (List.eq_nil_of_length_eq_zero (by rw [←Zr,e];rfl)))
 rw [hn]at hc hd
 match p,hl with
 | [c],_=>
  have hd':0<c:=hd
  have h1:c∣Ym [c]:=Hx fun i=>by
   match i with
   | 0=>exact Int.dvd_refl c
   | i+1=>rw [Yl O7];exact Int.dvd_zero c
  rw [hc]at h1
  have:=Int.le_of_dvd O3 h1
  rw [show c=1 by omega]
def Dp(p q:List Int):Prop:=Tr q∧q≠[]∧Yy q=q∧∃a,Tr a∧Yy p=Xs a q
theorem Dp.start{p:List Int}(hp:Tr p)(h0:p≠[]):Dp p (Yy p):=
 ⟨Oc (Yv hp),Zic hp h0,Zsh (Oc (Yv hp)) (Bn hp h0) (Dy (Yv hp) (fun e=>h0 (List.eq_nil_of_length_eq_zero (by rw [←Zr,e];rfl)))),[1],.inr (show cf [1] 0≠0 by decide),by
  refine(Oc (Yv hp)).ext (Xo _ _) fun i=>?_
  rw [Kq,Zpp];rfl⟩
theorem Dp.sz{p q:List Int}{n:Nat}(hp:Tr p)(h0:p≠[])(hs:Sz n p)(hl:p.length≤13)(h:Dp p q):Sz (n+15) q∧q.length≤p.length:=by
 obtain⟨h1,h2,h3,a,ha,e⟩:=h
 have hK:fcs 0 13≤2^15*2^15:=O5
 have hln:=Qu hp
 have hn0:=Zic hp h0
 have ht:Tr (Yy p):=Oc (Yv hp)
 have a0:a≠[]:=fun e2=>hn0 (by rw [e,e2,Hj])
 refine⟨Fk (L:=13) (R:=24) h1 ha (Zrr hs) hn0 ht O O3 hK (by rw [Di];exact e),?_⟩
 have hlq:=Pu ha h1 a0 h2
 rw [←e,hln]at hlq
 have:=List.length_pos_iff.2 a0
 omega
theorem Dp.ok{p q:List Int}{n F:Nat}(hp:Tr p)(h0:p≠[])(hs:Sz n p)(hn:n≤220)(hl:p.length≤11)(hF:p.length≤F+1)(h:Dp p q):Cd F q∧Gq F q:=by
 obtain⟨s1,s2⟩:=h.sz hp h0 hs O
 have:=(chG F h.1 h.2.1 s1 O O O).1
 exact⟨this,this.1.2.2.1⟩
theorem Dp.next{p q:List Int}{F:Nat}(h:Dp p q)(hok:Gq F q):Dp p (Qz F q):=by
 obtain⟨h1,h2,h3,a,ha,e⟩:=h
 obtain⟨a1,a2,a3,a4,a5⟩:=Qg h1 h2 hok
 refine⟨a1,a2,a3,Xs a (sqf F q),Xo _ _,?_⟩
 rw [h3]at a4
 refine e.trans ((congrArg (Xs a) a4).trans ?_)
 refine(Xo _ _).ext (Xo _ _) fun i=>Od (fun x=>?_) i
 rw [Yc,Yc,Yc,Yc];grind
def Eh(F:Nat):Nat→List Int→List Int
 | 0,p=>sqf F p
 | f+1,p=>if(sqf F p).length=1 then sqf F p else Xs (Lr (sqf F p) (sqf F (Qz F p))) (Eh F f (Qz F (Qz F p)))
def Zps(F:Nat):Nat→List Int→List Int→List Int
 | 0,out,_=>out
 | f+1,out,q=>if(sqf F q).length=1 then out else if(sqf F (Qz F q)).length=1 then Xs out (Lr (sqf F q) (sqf F (Qz F q)))else Zps F f (Xs out (Lr (sqf F q) (sqf F (Qz F q)))) (Qz F (Qz F q))
theorem Zdn{F:Nat}{q:List Int}(hq:Tr q)(h0:q≠[])(hok:Gq F q)(h:(sqf F q).length=1):sqf F q=[1]∧q.length=1∧(Qz F q).length=1:=by
 obtain⟨f1,f2,f3,f4,f5,f6⟩:=Ps (F:=F) hq h0 hok
 obtain⟨a1,a2,a3,a4,a5⟩:=Qg hq h0 hok
 have l0:=List.length_pos_iff.2 h0
 have hl:q.length=1:=by
  rcases Nat.lt_or_ge q.length 2 with h2 | h2
  ·omega
  ·have:=Zix hq h0 hok h2;omega
 exact⟨Ygz f2 f6 h,hl,O⟩
theorem Zmd{p:List Int}(hp:Tr p):Xs p [1]=p:=by
 refine(Xo _ _).ext hp fun i=>Od (fun x=>?_) i
 rw [Yc,Qq];push_cast;grind
theorem Ybd{F:Nat}{q:List Int}(hq:Tr q)(h0:q≠[])(hok:Gq F q)(h:q.length=1):∀f,Eh F f q=[1]:=fun f=>by
 obtain⟨f1,f2,f3,f4,f5,f6⟩:=Ps (F:=F) hq h0 hok
 obtain⟨a1,a2,a3,a4,a5⟩:=Qg hq h0 hok
 have l1:=List.length_pos_iff.2 f3
 have l2:=List.length_pos_iff.2 a2
 have hs:(sqf F q).length=1:=O
 have:=(Zdn hq h0 hok hs).1
 cases f with
 | zero=>exact this
 | succ f=>unfold Eh;rw [if_pos hs];exact this
theorem Zmc{F:Nat}{p:List Int}{f:Nat}{q:List Int}(hq:Tr q)(h0:q≠[])(hok:Gq F q):Tr (Eh F f q):=by
 obtain⟨f1,f2,f3,f4,f5,f6⟩:=Ps (F:=F) hq h0 hok
 cases f with
 | zero=>exact f2
 | succ f=>unfold Eh;split;exact f2;exact Xo _ _
theorem Ygy{F n:Nat}{p:List Int}(hp:Tr p)(h0:p≠[])(hs:Sz n p)(hn:n≤220)(hl:p.length≤11)(hF:p.length≤F+1):∀(f:Nat) (out q:List Int),Tr out→Dp p q→q.length≤f→Zps F f out q=Xs out (Eh F f q):=by
 intro f
 induction f with
 | zero=>intro out q _ hq hlq;have:=List.length_pos_iff.2 hq.2.1;omega
 | succ f ih=>
  intro out q ho hq hlq
  have hok:=(hq.ok hp h0 hs hn hl hF).2
  have hg:=hq.next hok
  have hok2:=(hg.ok hp h0 hs hn hl hF).2
  have hg2:=hg.next hok2
  have hok3:=(hg2.ok hp h0 hs hn hl hF).2
  unfold Zps Eh
  by_cases c1:(sqf F q).length=1
  ·rw [if_pos c1,if_pos c1,(Zdn hq.1 hq.2.1 hok c1).1,Zmd ho]
  ·rw [if_neg c1,if_neg c1]
   have lq:2≤q.length:=by
    obtain⟨f1,f2,f3,f4,f5,f6⟩:=Ps (F:=F) hq.1 hq.2.1 hok
    obtain⟨a1,a2,a3,a4,a5⟩:=Qg hq.1 hq.2.1 hok
    have l1:=List.length_pos_iff.2 f3
    have l2:=List.length_pos_iff.2 a2
    omega
   have lt1:=Zix hq.1 hq.2.1 hok lq
   obtain⟨-,-,-,-,b5⟩:=Qg hg.1 hg.2.1 hok2
   obtain⟨-,b2,b3,-,-,-⟩:=Ps (F:=F) hg.1 hg.2.1 hok2
   have lb:=List.length_pos_iff.2 b3
   by_cases c2:(sqf F (Qz F q)).length=1
   ·obtain⟨s1,s2,s3⟩:=Zdn hg.1 hg.2.1 hok2 c2
    rw [if_pos c2,Ybd hg2.1 hg2.2.1 hok3 s3]
    refine(Xo _ _).ext (Xo _ _) fun i=>Od (fun x=>?_) i
    rw [Yc,Yc,Yc,Qq];push_cast;grind
   ·rw [if_neg c2,ih _ _ (Xo _ _) hg2 O]
    refine(Xo _ _).ext (Xo _ _) fun i=>Od (fun x=>?_) i
    rw [Yc,Yc,Yc,Yc];grind
theorem Zsa{q:List Int}{e:Int}(he:e=1∨e=-1)(h:Ym q=1):Ym (Zm q e)=1:=by
 have h1:Ym (Zm q e)∣Ym q:=Hx fun i=>by
  have:=Mj (Zm q e) i
  rw [Yr]at this
  rcases he with rfl | rfl
  ·rwa [Int.mul_one]at this
  ·rw [Int.mul_neg_one]at this;exact(Int.dvd_neg.1 this)
 rw [h]at h1
 have h2:=Oe (Zm q e)
 have h3:=Int.le_of_dvd O3 h1
 rcases(show Ym (Zm q e)=0∨Ym (Zm q e)=1 by omega)with h4 | h4
 ·rw [h4]at h1;exact absurd (Int.zero_dvd.1 h1) O3
 ·exact h4
theorem Ya9{q:List Int}(h:Ym q=1):Zt q=q:=by
 unfold Zt;rw [h];simp
theorem Zox{F:Nat}{q:List Int}{e:Int}(hq:Tr q)(q0:q≠[])(hn:Yy q=q)(hok:Gq F q)(he:e=1∨e=-1) :
  Tr (Zm q e)∧Zm q e≠[]∧Yy (Zm q e)=q∧Zt (Zm q e)=Zm q e∧pdv (Zm q e) (sqf F q)∧Lr (Zm q e) (sqf F q)=Zm (Qz F q) e:=by
 have e0:e≠0:=by rcases he with rfl | rfl<;>decide
 obtain⟨f1,f2,f3,f4,f5,f6⟩:=Ps (F:=F) hq q0 hok
 obtain⟨a1,a2,a3,a4,a5⟩:=Qg hq q0 hok
 have hc:Ym q=1:=by have:=Bn hq q0;rwa [hn]at this
 rw [hn]at a4
 have hw:Zm q e=Xs (Zm (Qz F q) e) (sqf F q):=by
  refine(Xq _ _).ext (Xo _ _) fun i=>Od (fun x=>?_) i
  have:Zb q x=Zb (Xs (sqf F q) (Qz F q)) x:=by rw [←a4]
  rw [Zcv,Yc,Zcv,this,Yc];grind
 obtain⟨p1,p2⟩:=Zmf (Xq (Qz F q) e) f2 f3
 rw [←hw]at p1 p2
 exact⟨Xq _ _,Zkw hq q0 e0,by rw [Zu2 (Xq _ _) hq (Zcr q e0).symm,hn],Ya9 (Zsa he hc),p1,p2⟩
theorem Ya8{p:List Int}(hp:Tr p)(h0:p≠[]):∃e:Int,(e=1∨e=-1)∧Zt p=Zm (Yy p) e:=by
 by_cases h:cf (Zt p) ((Zt p).length-1)<0
 ·refine⟨-1,.inr rfl,?_⟩
  rw [Zml (fun e=>h0 (List.eq_nil_of_length_eq_zero (by rw [←Zr,e]))) h]
  refine(Yv hp).ext (Xq _ _) fun i=>?_
  rw [Yr,Yr];omega
 ·refine⟨1,.inl rfl,?_⟩
  rw [Zmk h]
  refine(Yv hp).ext (Xq _ _) fun i=>?_
  rw [Yr];omega
def Nq(F:Nat)(p:List Int):List Int:=Lr (Zm (Zt p) 1) (sqf F p)
def Zab(F:Nat)(p:List Int):List Int:=Lr (Zt (Nq F p)) (sqf F (Nq F p))
def Zr3(F:Nat):Nat→List Int→List Int
 | 0,p=>sqf F p
 | f+1,p=>if(sqf F p).length=1 then sqf F p else Xs (Lr (sqf F p) (sqf F (Nq F p))) (Zr3 F f (Zab F p))
theorem Fr{F:Nat}{p q:List Int}(h:Yy p=Yy q):sqf F p=sqf F q:=by unfold sqf;rw [h]
theorem Zg1{F:Nat}{p q:List Int}(h:Yy p=Yy q):Qz F p=Qz F q:=by unfold Qz;rw [h]
theorem Zpm{F:Nat}{p q:List Int}(h:Yy p=Yy q):∀f,Eh F f p=Eh F f q
 | 0=>Fr h
 | f+1=>by unfold Eh;rw [Fr h,Zg1 h]
theorem Zh0{F:Nat}{p:List Int}(hp:Tr p)(h0:p≠[])(hok:Gq F p)(hok2:Gq F (Qz F p)) :
  (∃e:Int,(e=1∨e=-1)∧Zm (Zt p) 1=Zm (Yy p) e∧pdv (Zm (Yy p) e) (sqf F p)∧Nq F p=Zm (Qz F p) e∧Zt (Nq F p)=Nq F p∧pdv (Nq F p) (sqf F (Qz F p))∧Zab F p=Zm (Qz F (Qz F p)) e)∧
  Yy (Nq F p)=Qz F p∧Yy (Zab F p)=Qz F (Qz F p)∧Tr (Nq F p)∧Nq F p≠[]∧Tr (Zab F p)∧Zab F p≠[]:=by
 obtain⟨b1,b2,b3,-⟩:=Dp.start hp h0
 have hok':Gq F (Yy p):=by unfold Gq;rw [b3];exact hok
 have hgn:Qz F (Yy p)=Qz F p:=Zg1 b3
 have hsn:sqf F (Yy p)=sqf F p:=Fr b3
 obtain⟨e,he,hpe⟩:=Ya8 hp h0
 have hp1:Zm (Zt p) 1=Zm (Yy p) e:=by
  rw [hpe];refine(Xq _ _).ext (Xq _ _) fun i=>?_
  rw [Yr,Int.mul_one]
 obtain⟨-,-,-,-,c5,c6⟩:=Zox b1 b2 b3 hok' he
 rw [hgn,hsn]at c6
 rw [hsn]at c5
 have hl:Nq F p=Zm (Qz F p) e:=by unfold Nq;rw [hp1,c6]
 obtain⟨a1,a2,a3,-,-⟩:=Qg hp h0 hok
 obtain⟨d1,d2,d3,d4,d5,d6⟩:=Zox a1 a2 a3 hok2 he
 rw [←hl]at d1 d2 d3 d4 d5 d6
 have hsl:sqf F (Nq F p)=sqf F (Qz F p):=Fr (by rw [d3,a3])
 have hr:Zab F p=Zm (Qz F (Qz F p)) e:=by unfold Zab;rw [d4,hsl,d6]
 obtain⟨g1,g2,g3,-,-⟩:=Qg a1 a2 hok2
 have e0:e≠0:=by rcases he with rfl | rfl<;>decide
 refine⟨⟨e,he,hp1,c5,hl,d4,d5,hr⟩,d3,?_,d1,d2,?_,?_⟩
 ·rw [hr,Zu2 (Xq _ _) g1 (Zcr _ e0).symm,g3]
 ·rw [hr];exact Xq _ _
 ·rw [hr];exact Zkw g1 g2 e0
theorem Yge{F n:Nat}{p:List Int}(hp:Tr p)(h0:p≠[])(hs:Sz n p)(hn:n≤220)(hl:p.length≤11)(hF:p.length≤F+1):∀(f:Nat) (q:List Int),Tr q→q≠[]→Dp p (Yy q)→Zr3 F f q=Eh F f q:=by
 intro f
 induction f with
 | zero=>intro q _ _ _;rfl
 | succ f ih=>
  intro q hq q0 hD
  have hok:=(hD.ok hp h0 hs hn hl hF).2
  have hok':Gq F q:=by unfold Gq at hok ⊢;rwa [hD.2.2.1]at hok
  have hg:=hD.next hok
  rw [Zg1 hD.2.2.1]at hg
  have hok2:=(hg.ok hp h0 hs hn hl hF).2
  have hg2:=hg.next hok2
  obtain⟨-,r1,r2,r3,r4,r5,r6⟩:=Zh0 hq q0 hok' hok2
  unfold Zr3 Eh
  have a3:=hg.2.2.1
  rw [Fr (show Yy (Nq F q)=Yy (Qz F q) by rw [r1,a3]),ih _ r5 r6 (by rw [r2];exact hg2),Zpm (show Yy (Zab F q)=Yy (Qz F (Qz F q)) by rw [r2,hg2.2.2.1])]
def Em(F:Nat)(q:List Int):List Int:=Lr (sqf F q) (sqf F (Qz F q))
theorem Fz{F:Nat}{q:List Int}(hq:Tr q)(q0:q≠[])(hok:Gq F q)(hok2:Gq F (Qz F q)):pdv (sqf F q) (sqf F (Qz F q))∧sqf F q=Xs (Em F q) (sqf F (Qz F q))∧Tr (Em F q)∧Em F q≠[]:=by
 obtain⟨f1,f2,f3,f4,f5,f6⟩:=Ps (F:=F) hq q0 hok
 obtain⟨a1,a2,a3,a4,a5⟩:=Qg hq q0 hok
 obtain⟨-,t2,t3,-,-,t6⟩:=Ps (F:=F) a1 a2 hok2
 exact Zxq f2 f3 t2 t3 t6 (Zu1 hq q0 hok hok2)
theorem Zsw{p a b:List Int}{n:Nat}(hp:Tr p)(h0:p≠[])(hs:Sz n p)(hl:p.length≤13)(ha:Tr a)(hb:Tr b)(e:Yy p=Xs a b):Sz (n+15) b∧b.length≤p.length∧b≠[]:=by
 have hK:fcs 0 13≤2^15*2^15:=O5
 have hln:=Qu hp
 have hn0:=Zic hp h0
 have ht:Tr (Yy p):=Oc (Yv hp)
 have a0:a≠[]:=fun e2=>hn0 (by rw [e,e2,Hj])
 have b0:b≠[]:=fun e2=>hn0 (by rw [e,e2,Ar])
 refine⟨Fk (L:=13) (R:=24) hb ha (Zrr hs) hn0 ht O O3 hK (by rw [Di];exact e),?_,b0⟩
 have hlq:=Pu ha hb a0 b0
 rw [←e,hln]at hlq
 have:=List.length_pos_iff.2 a0
 omega
def Op(p out q:List Int):Prop:=∃a,Tr a∧Yy p=Xs a (Xs out q)
theorem Op.start{p:List Int}(hp:Tr p):Op p [1] (Yy p):=⟨[1],.inr (show cf [1] 0≠0 by decide),by
 refine(Oc (Yv hp)).ext (Xo _ _) fun i=>Od (fun x=>?_) i
 rw [Yc,Yc,Qq];push_cast;show Zb (Yy p) x=_;grind⟩
theorem Op.next{p out q:List Int}{F:Nat}(hq:Tr q)(q0:q≠[])(hn:Yy q=q)(hok:Gq F q)(hok2:Gq F (Qz F q))(h:Op p out q):Op p (Xs out (Em F q)) (Qz F (Qz F q)):=by
 obtain⟨a,ha,e⟩:=h
 obtain⟨-,o2,o3,o4⟩:=Fz hq q0 hok hok2
 obtain⟨a1,a2,a3,a4,a5⟩:=Qg hq q0 hok
 obtain⟨-,-,-,b4,-⟩:=Qg a1 a2 hok2
 rw [hn]at a4
 rw [a3]at b4
 refine⟨Xs a (Xs (sqf F (Qz F q)) (sqf F (Qz F q))),Xo _ _,e.trans ?_⟩
 refine(Xo _ _).ext (Xo _ _) fun i=>Od (fun x=>?_) i
 have e1:Zb q x=Zb (sqf F q) x*Zb (Qz F q) x:=by rw [←Yc,←a4]
 have e2:Zb (sqf F q) x=Zb (Em F q) x*Zb (sqf F (Qz F q)) x:=by rw [←Yc,←o2]
 have e3:Zb (Qz F q) x=Zb (sqf F (Qz F q)) x*Zb (Qz F (Qz F q)) x:=by rw [←Yc,←b4]
 simp only [Yc]
 rw [e1,e2]
 rw [e3]
 generalize Zb (sqf F (Qz F q)) x=A
 generalize Zb (Qz F (Qz F q)) x=B
 grind
theorem Op.sz{p out q:List Int}{n:Nat}(hp:Tr p)(h0:p≠[])(hs:Sz n p)(hl:p.length≤13)(ho:Tr out)(hq:Tr q)(h:Op p out q):Sz (n+15) out∧out.length≤p.length∧out≠[]:=by
 obtain⟨a,ha,e⟩:=h
 exact Zsw hp h0 hs hl (Xo a q) ho (e.trans ((Xo _ _).ext (Xo _ _) fun i=>Od (fun x=>by rw [Yc,Yc,Yc,Yc];grind) i))
theorem Ygq{p:List Int}(hp:Tr p):Xs [1] p=p:=by rw [Di];exact Zmd hp
theorem Zhe{xs:List Int}{F:Nat}(hx:Tr xs)(h0:xs≠[])(hC:Cd F xs){s t:Rat}(hst:s≤t):Be F xs t≤Be F xs s:=Zjh hx h0 hC hst
theorem Sqn.imp{P P':R2→R2→Prop}{hi:Rat}(hp:∀x y,P x y→P' x y):∀{lo:Rat} {l:List (R2×R2)},Sqn P hi lo l→Sqn P' hi lo l
 | _,[],h=>h
 | _,_ :: _,h=>⟨h.1,h.2.1,hp _ _ h.2.2.1,Sqn.imp hp h.2.2.2⟩
def oe(f:Nat→Int):Nat→Int
 | 0=>0
 | k+1=>err (oe f k) (f k)
def mon(d n:Nat):List Int:=mono d ((2:Int)^n)
variable {P:Program} {N:Nat} {sc:Nat→Prop} {env:Qw} {H:Hp}
end Go.Sky
namespace Go.Sky
def HD(xs ys:List Int):Prop:=Vp ys∧ys≠[]∧Bh ys∧Cd 13 ys∧chn 13 ys=chn 13 xs
def PH(xs:List Int)(x y:R2):Prop:=(0<x.2∧bl x.1.natAbs≤506∧bl x.2.natAbs≤506)∧(0<y.2∧bl y.1.natAbs≤506∧bl y.2.natAbs≤506)∧cvc 13 xs x-cvc 13 xs y=1
def DR:R2×R2:=((0,0),(0,0))
theorem Zev(d:Rat){h:Rat}(h1:0<h):∃n:Nat,d≤(n:Rat)*h:=by
 have h4:0<h⁻¹:=Rat.inv_pos.2 h1
 refine⟨(d*h⁻¹).ceil.toNat,?_⟩
 have h5:=@Rat.le_ceil (d*h⁻¹)
 have h6:(((d*h⁻¹).ceil:Int):Rat)≤(((d*h⁻¹).ceil.toNat:Nat):Rat):=by
  have:(d*h⁻¹).ceil≤(((d*h⁻¹).ceil.toNat:Nat):Int):=Int.self_le_toNat _
  exact_mod_cast this
 have h7:=Rat.mul_le_mul_of_nonneg_right (Rat.le_trans h5 h6) (show 0≤h by grind)
 have h8:d*h⁻¹*h=d:=O4
 grind
theorem Znm{f:Rat→Rat}{u v:Rat}(h:crs f u v≤0)(h0:f u≠0):0<f u*f v:=by
 unfold crs at h
 by_cases h1:f u≠0∧f u*f v≤0
 ·rw [if_pos h1]at h;exact absurd h O3
 ·have:¬f u*f v≤0:=fun h2=>h1 ⟨h0,h2⟩
  grind
theorem Zby{xs:List Int}{F:Nat}(hx:Tr xs)(h0:xs≠[])(hC:Cd F xs){s t:Rat}(hst:s≤t)(hV:Be F xs s≤Be F xs t)(hs:Zb (sqf F xs) s≠0):∀y,s≤y→y≤t→0<Zb (sqf F xs) s*Zb (sqf F xs) y:=by
 obtain⟨h,h1,h2⟩:=Zjg hx h0 hC s t
 have hcv:∀u v,s≤u→u≤v→v≤t→v-u≤h→crs (Zb (sqf F xs)) u v≤0:=fun u v a b c d=>by
  have e:=h2 u v a b c d
  have m1:vat ((chn F xs).map Zb) u≤vat ((chn F xs).map Zb) s:=Zjh hx h0 hC a
  have m2:vat ((chn F xs).map Zb) t≤vat ((chn F xs).map Zb) v:=Zjh hx h0 hC c
  have m3:vat ((chn F xs).map Zb) s≤vat ((chn F xs).map Zb) t:=hV
  omega
 generalize Zb (sqf F xs)=f at *
 have key:∀n:Nat,∀y,s≤y→y≤t→y-s≤(n:Rat)*h→0<f s*f y:=fun n=>by
  induction n with
  | zero=>
   intro y a b c
   have:y=s:=by push_cast at c;grind
   subst this
   exact Znm (hcv _ _ a O4 b O4) hs
  | succ n ih=>
   intro y a b c
   push_cast at c
   by_cases hy:y-s≤h
   ·exact Znm (hcv s y O4 a b hy) hs
   ·have i1:=ih (y-h) O4 O4 O4
    have hz:f (y-h)≠0:=fun e=>by rw [e]at i1;grind
    have i2:=Znm (hcv (y-h) y O4 O4 b O4) hz
    have i3:=Rat.mul_pos i1 i2
    have e1:f s*f (y-h)*(f (y-h)*f y)=(f (y-h)*f (y-h))*(f s*f y):=O4
    rw [e1]at i3
    have i4:0<f (y-h)*f (y-h):=by
     rcases(show 0<f (y-h)∨f (y-h)<0 by grind)with q | q
     ·exact Rat.mul_pos q q
     ·have:=Rat.mul_pos (a:=-f (y-h)) (b:=-f (y-h)) O4 O4;grind
    rcases(show 0<f s*f y∨f s*f y≤0 by grind)with q | q
    ·exact q
    ·have:=Rat.mul_nonneg (a:=f (y-h)*f (y-h)) (b:=-(f s*f y)) O4 O4;grind
 intro y a b
 obtain⟨n,hn⟩:∃n:Nat,y-s≤(n:Rat)*h:=by
  obtain⟨n,hn⟩:=Zev (y-s) h1
  exact⟨n,hn⟩
 exact key n y a b hn
theorem Zeb{p:List Int}{s t:Rat}(hst:s≤t)(hd:∀u,s≤u→u≤t→0≤Zb (ld p) u):Zb p s≤Zb p t:=by
 rcases(show Zb p s≤Zb p t∨Zb p t<Zb p s by grind)with h | h
 ·exact h
 ·exfalso
  obtain⟨M,m1,m2⟩:=Zgv s t p
  have hlt:s<t:=by
   rcases(show s<t∨s=t by grind)with h9 | h9
   ·exact h9
   ·rw [h9]at h;grind
  obtain⟨n,hn⟩:=Zev (M*(t-s)*(t-s)+1) (show 0<Zb p s-Zb p t by grind)
  have hn0:(0:Rat)<(n:Rat):=by
   rcases Nat.eq_zero_or_pos n with h9 | h9
   ·subst h9
    have:=Rat.mul_nonneg (a:=M*(t-s)) (b:=t-s) (Rat.mul_nonneg O4 O4) O4
    push_cast at hn;grind
   ·exact_mod_cast h9
  have hn1:(n:Rat)≠0:=fun e=>by rw [e]at hn0;exact absurd hn0 O3
  have hnn0:(n:Rat)*((t-s)/n)=t-s:=by
   rw [Rat.div_def,←Rat.mul_assoc,Rat.mul_comm (n:Rat),Rat.mul_assoc,Rat.mul_inv_cancel _ hn1,Rat.mul_one]
  have key:∀k:Nat,(k:Rat)≤(n:Rat)→-(M*((t-s)/n)*((t-s)/n))*k≤Zb p (s+k*((t-s)/n))-Zb p s:=fun k=>by
   induction k with
   | zero=>intro _;push_cast;rw [show s+0*((t-s)/n)=s by grind];grind
   | succ k ih=>
    intro hk
    push_cast at hk ⊢
    have i1:=ih O4
    have hh:0≤(t-s)/n:=by
     rw [Rat.div_def];exact Rat.mul_nonneg O4 (Rat.le_of_lt (Rat.inv_pos.2 hn0))
    have hnn:=hnn0
    generalize (t-s)/(n:Rat)=h at *
    have k0:(0:Rat)≤(k:Rat):=by exact_mod_cast Nat.zero_le k
    have b1:=Rat.mul_nonneg (a:=(k:Rat)) (b:=h) k0 hh
    have b2:=Rat.mul_nonneg (a:=(n:Rat)-(k+1)) (b:=h) O4 hh
    have j:=(m2 (s+k*h) (s+(k+1)*h) O4 O4 O4).1
    have e:=hd (s+k*h) O4 O4
    have e2:=Rat.mul_nonneg hh e
    rw [show s+(k+1)*h-(s+k*h)=h by grind]at j
    grind
  have k1:=key n O4
  have hnn:=hnn0
  rw [hnn,show s+(t-s)=t by grind]at k1
  have k2:-(M*((t-s)/n)*((t-s)/n))*n=-(M*((t-s)/n)*(t-s)):=O4
  rw [k2]at k1
  have k3:M*((t-s)/n)*(t-s)*n=M*(t-s)*(t-s):=O4
  have k4:=Rat.mul_nonneg (a:=Zb p t-Zb p s+M*((t-s)/n)*(t-s)) (b:=(n:Rat)) O4 O4
  grind
theorem Zdv(p:List Int)(x:Rat):Zb (p.map fun a=>-1*a) x=-Zb p x:=by rw [Ze];push_cast;grind
theorem Zle{p:List Int}{s t:Rat}(hst:s<t)(hd:∀u,s<u→u≤t→0<Zb (ld p) u)(h0:0≤Zb (ld p) s):Zb p s<Zb p t:=by
 have hm:s<(s+t)/2∧(s+t)/2<t:=by constructor<;>grind
 generalize (s+t)/2=m at *
 have a1:=Zeb (p:=p) (s:=s) (t:=m) O4 (fun u a b=>by
  rcases(show s<u∨u=s by grind)with h | h
  ·exact Rat.le_of_lt (hd u h O4)
  ·rw [h];exact h0)
 obtain⟨M,m1,m2⟩:=Zgv m t p
 have hp:=hd m hm.1 O4
 obtain⟨η,q1,q2,q3⟩:=Ih (show 0<t-m by grind) m1 (show 0<Zb (ld p) m/2 by grind)
 have b:=(m2 m (m+η) O4 O4 O4).1
 rw [show m+η-m=η by grind]at b
 have a2:=Zeb (p:=p) (s:=m+η) (t:=t) O4 (fun u a b=>Rat.le_of_lt (hd u O4 b))
 have c:=Rat.mul_nonneg (a:=η) (b:=Zb (ld p) m/2-η*M) O4 O4
 have d:=Rat.mul_pos q1 hp
 grind
def Gv:Nat→List Int→Rat→Int
 | 0,_,_=>0
 | n+1,p,x=>if Zb p x≠0 then Gx (Zb p x)else Gv n (Yx p) x
theorem Zul{x:Rat}(h:0<x):Gx x=1:=Ce h
theorem Zkn{x:Rat}(h:x<0):Gx x=-1:=Cf h
theorem Zo3{x:Rat}(h:x=0):Gx x=0:=by subst h;rfl
theorem Qs(x:Rat):(0<x∧Gx x=1)∨(x<0∧Gx x=-1)∨(x=0∧Gx x=0):=by
 rcases(show 0<x∨x<0∨x=0 by grind)with h | h | h
 ·exact .inl ⟨h,Zul h⟩
 ·exact .inr (.inl ⟨h,Zkn h⟩)
 ·exact .inr (.inr ⟨h,Zo3 h⟩)
theorem Ztw(n:Nat)(p:List Int)(x:Rat)(h:Zb p x≠0)(hl:p.length≤n):Gv n p x=Gx (Zb p x):=by
 cases n with
 | zero=>have:p=[]:=List.eq_nil_of_length_eq_zero O;subst this;exact absurd rfl h
 | succ n=>unfold Gv;rw [if_pos h]
theorem Zk3(p:List Int)(x:Rat)(h:Zb p x≠0):∃δ:Rat,0<δ∧∀y,x<y→y≤x+δ→Gx (Zb p y)=Gx (Zb p x):=by
 obtain⟨L,l1,l2⟩:=Et x (x+1) p
 have ha:0<(if 0<Zb p x then Zb p x else -Zb p x):=by split<;>grind
 obtain⟨δ,d1,d2,d3⟩:=Ih (show(0:Rat)<1 by decide) (show 0<L+1 by grind) (show 0<(if 0<Zb p x then Zb p x else -Zb p x)/2 by grind)
 refine⟨δ,d1,fun y h1 h2=>?_⟩
 have l:=l2 x y O4 O4 O4
 have b:=Rat.mul_nonneg (a:=L) (b:=δ-(y-x)) O4 O4
 have c:L*(y-x)≤δ*(L+1):=O4
 rcases Qs (Zb p x)with⟨h3,h4⟩ | ⟨h3,h4⟩ | ⟨h3,h4⟩
 ·rw [if_pos h3]at d3 ha;rw [h4];exact Zul O4
 ·rw [if_neg O4]at d3 ha;rw [h4];exact Zkn O4
 ·exact absurd h3 h
theorem Ca:∀(n:Nat) (p:List Int) (x:Rat),p.length≤n→∃δ:Rat,0<δ∧∀y,x<y→y≤x+δ→Gx (Zb p y)=Gv n p x
 | 0,p,x,hl=>⟨1,O3,fun y _ _=>by
  have:p=[]:=List.eq_nil_of_length_eq_zero O
  subst this;exact Zo3 rfl⟩
 | n+1,p,x,hl=>by
  by_cases h:Zb p x≠0
  ·rw [Ztw (n+1) p x h hl];exact Zk3 p x h
  ·have h0:Zb p x=0:=Classical.not_not.1 h
   have ld':=Oz p
   obtain⟨δ,d1,d2⟩:=Ca n (Yx p) x O
   have hu:Gv (n+1) p x=Gv n (Yx p) x:=by unfold Gv;rw [if_neg h];cases n<;>rfl
   have hx:Zb (ld p) x≠0→Gx (Zb (ld p) x)=Gv n (Yx p) x:=fun h9=>by
    rw [←Ll]at h9 ⊢;exact(Ztw n (Yx p) x h9 O).symm
   refine⟨δ,d1,fun y h1 h2=>?_⟩
   rw [hu]
   have hd:∀u,x<u→u≤y→Gx (Zb (ld p) u)=Gv n (Yx p) x:=fun u a b=>by rw [←Ll];exact d2 u a O4
   have hyy:=hd y h1 O4
   generalize Gv n (Yx p) x=σ at *
   rcases Qs (Zb (ld p) y)with⟨h3,h4⟩ | ⟨h3,h4⟩ | ⟨h3,h4⟩
   ·rw [h4]at hyy;subst hyy
    refine Zul ?_
    have:=Zle (p:=p) h1 (fun u a b=>by
     rcases Qs (Zb (ld p) u)with⟨h5,h6⟩ | ⟨h5,h6⟩ | ⟨h5,h6⟩
     ·exact h5
     ·have:=hd u a b;rw [h6]at this;exact absurd this O3
     ·have:=hd u a b;rw [h6]at this;exact absurd this O3) (by
     rcases Qs (Zb (ld p) x)with⟨h5,h6⟩ | ⟨h5,h6⟩ | ⟨h5,h6⟩
     ·exact Rat.le_of_lt h5
     ·have:=hx O4;rw [h6]at this;exact absurd this O3
     ·grind)
    grind
   ·rw [h4]at hyy;subst hyy
    refine Zkn ?_
    have hn:∀u,Zb (ld (p.map fun a=>-1*a)) u=-Zb (ld p) u:=fun u=>by rw [Ch];push_cast;grind
    have:=Zle (p:=p.map fun a=>-1*a) h1 (fun u a b=>by
     rw [hn]
     rcases Qs (Zb (ld p) u)with⟨h5,h6⟩ | ⟨h5,h6⟩ | ⟨h5,h6⟩
     ·have:=hd u a b;rw [h6]at this;exact absurd this O3
     ·grind
     ·have:=hd u a b;rw [h6]at this;exact absurd this O3) (by
     rw [hn]
     rcases Qs (Zb (ld p) x)with⟨h5,h6⟩ | ⟨h5,h6⟩ | ⟨h5,h6⟩
     ·have:=hx O4;rw [h6]at this;exact absurd this O3
     ·grind
     ·grind)
    rw [Zdv,Zdv]at this
    grind
   ·rw [h4]at hyy;subst hyy
    refine Zo3 ?_
    have hz:∀u,x≤u→u≤y→Zb (ld p) u=0:=fun u a b=>by
     rcases(show x<u∨u=x by grind)with h9 | h9
     ·rcases Qs (Zb (ld p) u)with⟨h5,h6⟩ | ⟨h5,h6⟩ | ⟨h5,h6⟩
      ·have:=hd u h9 b;rw [h6]at this;exact absurd this O3
      ·have:=hd u h9 b;rw [h6]at this;exact absurd this O3
      ·exact h5
     ·subst h9
      rcases Qs (Zb (ld p) u)with⟨h5,h6⟩ | ⟨h5,h6⟩ | ⟨h5,h6⟩
      ·have:=hx O4;rw [h6]at this;exact absurd this O3
      ·have:=hx O4;rw [h6]at this;exact absurd this O3
      ·exact h5
    have a1:=Zeb (p:=p) (s:=x) (t:=y) O4 (fun u a b=>by rw [hz u a b];grind)
    have a2:=Zeb (p:=p.map fun a=>-1*a) (s:=x) (t:=y) O4 (fun u a b=>by rw [Ch,hz u a b];push_cast;grind)
    rw [Zdv,Zdv]at a2
    grind
theorem Ed.mul_l{a b c:List Int}(h:Ed a b):Ed (Xs c a) (Xs c b):=by
 obtain⟨k,s,hk,e⟩:=h
 exact⟨k,s,hk,fun x=>by rw [Yc,Yc];have:=e x;grind⟩
theorem Ht{F n:Nat}{p:List Int}(hp:Tr p)(h0:p≠[])(hs:Sz n p)(hn:n≤220)(hl:p.length≤11)(hF:p.length≤F+1):∀(f:Nat) (q:List Int),Dp p q→q.length≤f→
  (∃B:List Int,∀x:Rat,Zb q x=Zb (Eh F f q) x*(Zb B x*Zb B x))∧Ed (Eh F f q) (sqf F q):=by
 intro f
 induction f with
 | zero=>intro q hq hlq;have:=List.length_pos_iff.2 hq.2.1;omega
 | succ f ih=>
  intro q hq hlq
  have hok:=(hq.ok hp h0 hs hn hl hF).2
  have hg:=hq.next hok
  have hok2:=(hg.ok hp h0 hs hn hl hF).2
  have hg2:=hg.next hok2
  unfold Eh
  by_cases c1:(sqf F q).length=1
  ·rw [if_pos c1]
   obtain⟨s1,s2,s3⟩:=Zdn hq.1 hq.2.1 hok c1
   refine⟨⟨[1],fun x=>?_⟩,Ed.refl _⟩
   rw [s1,Ygz hq.1 hq.2.2.1 s2,Qq];push_cast;grind
  ·rw [if_neg c1]
   have lq:2≤q.length:=by
    obtain⟨f1,f2,f3,f4,f5,f6⟩:=Ps (F:=F) hq.1 hq.2.1 hok
    obtain⟨a1,a2,a3,a4,a5⟩:=Qg hq.1 hq.2.1 hok
    have l1:=List.length_pos_iff.2 f3
    have l2:=List.length_pos_iff.2 a2
    omega
   have lt1:=Zix hq.1 hq.2.1 hok lq
   obtain⟨a1,a2,a3,a4,a5⟩:=Qg hq.1 hq.2.1 hok
   obtain⟨b1,b2,b3,b4,b5⟩:=Qg hg.1 hg.2.1 hok2
   obtain⟨-,t2,t3,-,-,-⟩:=Ps (F:=F) hg.1 hg.2.1 hok2
   have lb:=List.length_pos_iff.2 t3
   obtain⟨⟨B,hB⟩,hE⟩:=ih _ hg2 O
   obtain⟨-,o2,o3,o4⟩:=Fz hq.1 hq.2.1 hok hok2
   have hok3:=(hg2.ok hp h0 hs hn hl hF).2
   rw [hq.2.2.1]at a4
   rw [a3]at b4
   have e1:∀x,Zb q x=Zb (sqf F q) x*Zb (Qz F q) x:=fun x=>by rw [←Yc,←a4]
   have e2:∀x,Zb (sqf F q) x=Zb (Em F q) x*Zb (sqf F (Qz F q)) x:=fun x=>by rw [←Yc,←o2]
   have e3:∀x,Zb (Qz F q) x=Zb (sqf F (Qz F q)) x*Zb (Qz F (Qz F q)) x:=fun x=>by rw [←Yc,←b4]
   refine⟨⟨Xs (sqf F (Qz F q)) B,fun x=>?_⟩,?_⟩
   ·rw [Yc,Yc,e1 x,e2 x,e3 x,hB x]
    show _=Zb (Em F q) x*_*_
    generalize Zb (sqf F (Qz F q)) x=S
    generalize Zb B x=C
    grind
   ·have h9:Ed (Eh F f (Qz F (Qz F q))) (sqf F (Qz F q)):=hE.trans (Zu1 hg.1 hg.2.1 hok2 hok3)
    have h8:=h9.mul_l (c:=Em F q)
    rw [←o2]at h8
    exact h8
theorem Zpl{F n:Nat}{p:List Int}(hp:Tr p)(h0:p≠[])(hs:Sz n p)(hn:n≤220)(hl:p.length≤11)(hF:p.length≤F+1){o:List Int}(ho:Tr o)(o0:o≠[])(hok:Gq F o)(hpk:Gq F p)(h:Ed o (sqf F p)):(Qz F o).length=1∧sqf F o=Yy o:=by
 obtain⟨a1,a2,a3,a4,a5⟩:=Qg ho o0 hok
 obtain⟨f1,f2,f3,f4,f5,f6⟩:=Ps (F:=F) hp h0 hpk
 obtain⟨-,s2,s3,s4,s5,s6⟩:=Ps (F:=F) ho o0 hok
 have ht:Tr (Yy o):=Oc (Yv ho)
 have hd:=Zbq ht (Nn ht) hok
 have e1:Ed (Qz F o) (Yy o):=hd.1.ed
 have e2:Ed (Qz F o) (ld (Yy o)):=(hd.2.ed:Ed (Qz F o) (Yx (Yy o))).congr fun x=>Ll _ x
 have hsim:Sim (Yy o) o:=(Kn (Zt o)).trans (Qb ho)
 obtain⟨k,w,hk,hkw⟩:Ed (Yy o) (sqf F p):=by
  obtain⟨k,w,hk,e⟩:=h
  obtain⟨c,d,hc,hd',hcd⟩:=hsim
  have hcd':∀x:Rat,(c:Rat)*Zb (Yy o) x=(d:Rat)*Zb o x:=fun x=>by
   rw [←Ze,←Ze];exact On x _ _ fun i=>by rw [Xv,Xv];exact hcd i
  exact⟨d*k,w.map fun a=>c*a,Int.mul_ne_zero hd' hk,fun x=>by
   rw [Ze];have a:=e x;have b:=hcd' x;push_cast;grind⟩
 have hlen:(Qz F o).length≤1:=by
  refine Zdo hp h0 hpk a1 (e1.trans ⟨k,w,hk,hkw⟩) ?_
  have h1:Ed (Qz F o) (lmul w (ld (Yy o))):=by
   obtain⟨m,z,hm,e⟩:=e2
   exact⟨m,lmul w z,hm,fun x=>by rw [Zq,Zq];have:=e x;grind⟩
  have h2:Ed (Qz F o) (ld (sqf F p)):=Ed.lin e1 h1 (ld w) k hk fun x=>by
   have:=Fy (p:=(sqf F p).map fun a=>k*a) (q:=lmul w (Yy o)) (fun y=>by rw [Ze,Zq];exact hkw y) x
   rw [Ch,Eu]at this
   rw [Zq,this]
  exact h2.congr fun x=>(Ll _ x).symm
 have hl1:(Qz F o).length=1:=by have:=List.length_pos_iff.2 a2;omega
 refine⟨hl1,?_⟩
 rw [Ygz a1 a3 hl1,Zmd s2]at a4
 exact a4.symm
theorem Zdq{a b:List Int}(h:Sim a b):∃c d:Int,c≠0∧d≠0∧∀x:Rat,(c:Rat)*Zb a x=(d:Rat)*Zb b x:=by
 obtain⟨c,d,hc,hd,e⟩:=h
 exact⟨c,d,hc,hd,fun x=>by rw [←Ze,←Ze];exact On x _ _ fun i=>by rw [Xv,Xv];exact e i⟩
theorem Hc{x:Rat}(h:x≠0):0<x*x:=by
 rcases(show 0<x∨x<0 by grind)with q | q
 ·exact Rat.mul_pos q q
 ·have:=Rat.mul_pos (a:=-x) (b:=-x) O4 O4;grind
theorem Qv{c:Int}(h:c≠0):(c:Rat)≠0:=fun e=>h (by exact_mod_cast e)
theorem Zd6{a b a' b' c d:Rat}(hc:c≠0)(hd:d≠0)(e1:c*a'=d*a)(e2:c*b'=d*b)(h:a*b<0):a'*b'<0:=by
 have h1:(c*c)*(a'*b')=(d*d)*(a*b):=O4
 have h2:=Hc hc
 have h3:=Hc hd
 rcases(show a'*b'<0∨0≤a'*b' by grind)with q | q
 ·exact q
 ·have h4:=Rat.mul_nonneg (a:=c*c) (b:=a'*b') O4 q
  have h5:=Rat.mul_pos (a:=d*d) (b:=-(a*b)) h3 O4
  grind
theorem Ybo{o1 o2 B1 B2:Rat}(h:o1*(B1*B1)*(o2*(B2*B2))<0):o1*o2<0:=by
 rcases(show o1*o2<0∨0≤o1*o2 by grind)with q | q
 ·exact q
 ·have h1:0≤B1*B2*(B1*B2):=by
   by_cases hz:B1*B2=0
   ·rw [hz];grind
   ·exact Rat.le_of_lt (Hc hz)
  have h2:=Rat.mul_nonneg q h1
  grind
theorem Zk2{F n:Nat}{p o:List Int}(hp:Tr p)(h0:p≠[])(hs:Sz n p)(hn:n≤220)(hl:p.length≤11)(hF:p.length≤F+1)(ho:o=Eh F p.length (Yy p))(hot:Tr o)(o0:o≠[])(hC:Cd F o){a b:Rat}(hab:a<b)(h1:Gv p.length p a=1)(h2:Zb p b<0):Be F o b<Be F o a:=by
 have hD:=Dp.start hp h0
 have hokn:=(hD.ok hp h0 hs hn hl hF).2
 have hokp:Gq F p:=by unfold Gq at hokn ⊢;rwa [hD.2.2.1]at hokn
 obtain⟨⟨B,hB⟩,hE⟩:=Ht hp h0 hs hn hl hF p.length (Yy p) hD (by rw [Qu hp];exact Nat.le_refl _)
 rw [←ho]at hB hE
 rw [Fr hD.2.2.1]at hE
 obtain⟨-,hsq⟩:=Zpl hp h0 hs hn hl hF hot o0 hC.1.2.2.1 hokp hE
 obtain⟨δ,d1,d2⟩:=Ca p.length p a (Nat.le_refl _)
 obtain⟨s,s1,s2,s3⟩:∃s,a<s∧s≤a+δ∧s<b:=by
  rcases(show a+δ<b∨b≤a+δ by grind)with q | q
  ·exact⟨a+δ,O4,O4,q⟩
  ·exact⟨(a+b)/2,O4,O4,O4⟩
 have hps:0<Zb p s:=by
  have:=d2 s s1 s2
  rw [h1]at this
  rcases Qs (Zb p s)with⟨h5,h6⟩ | ⟨h5,h6⟩ | ⟨h5,h6⟩
  ·exact h5
  ·rw [h6]at this;exact absurd this O3
  ·rw [h6]at this;exact absurd this O3
 have k1:Zb p s*Zb p b<0:=by have:=Rat.mul_pos (a:=Zb p s) (b:=-Zb p b) hps O4;grind
 obtain⟨c,d,hc,hd,e⟩:=Zdq ((Kn (Zt p)).trans (Qb hp):Sim (Yy p) p)
 have k2:Zb (Yy p) s*Zb (Yy p) b<0:=Zd6 (Qv hc) (Qv hd) (e s) (e b) k1
 rw [hB s,hB b]at k2
 have k3:=Ybo k2
 obtain⟨c',d',hc',hd',e'⟩:=Zdq ((Kn (Zt o)).trans (Qb hot):Sim (Yy o) o)
 have k4:Zb (Yy o) s*Zb (Yy o) b<0:=Zd6 (Qv hc') (Qv hd') (e' s) (e' b) k3
 rw [←hsq]at k4
 have m1:=Zhe hot o0 hC (Rat.le_of_lt s1)
 rcases Int.lt_or_le (Be F o b) (Be F o s)with q | q
 ·exact Int.lt_of_lt_of_le q m1
 ·exfalso
  have hz:Zb (sqf F o) s≠0:=fun e9=>by rw [e9]at k4;grind
  have:=Zby hot o0 hC (Rat.le_of_lt s3) q hz b (Rat.le_of_lt s3) O4
  grind
theorem Zew:∀(n:Nat) (p:List Int) (x:Rat),Tr p→p≠[]→p.length≤n→Gv n p x≠0
 | 0,p,x,_,h0,hl=>absurd (List.eq_nil_of_length_eq_zero O) h0
 | n+1,p,x,hp,h0,hl=>by
  unfold Gv
  by_cases h:Zb p x≠0
  ·rw [if_pos h]
   rcases Qs (Zb p x)with⟨h5,h6⟩ | ⟨h5,h6⟩ | ⟨h5,h6⟩
   ·rw [h6];decide
   ·rw [h6];decide
   ·exact absurd h5 h
  ·rw [if_neg h]
   have hz:Zb p x=0:=Classical.not_not.1 h
   have ld':=Oz p
   refine Zew n (Yx p) x (Nn hp) (fun e=>?_) O
   rw [e]at ld'
   have l0:=List.length_pos_iff.2 h0
   have hl1:p.length=1:=by simp at ld';omega
   match p,hl1 with
   | [c],_=>
    have hc:c≠0:=hp.mem O7
    rw [Qq]at hz
    exact Qv hc hz
theorem Zn4(n:Nat)(p:List Int)(x:Rat):-1≤Gv n p x∧Gv n p x≤1:=by
 induction n generalizing p with
 | zero=>show -1≤(0:Int)∧(0:Int)≤1;decide
 | succ n ih=>unfold Gv;split;exact Yan _;exact ih _
def Ct(F:Nat)(o:List Int)(a b:Rat):Prop:=0<Be F o a-Be F o b-(if Zb o b=0 then 1 else 0)
theorem Ybt{F n:Nat}{p o:List Int}(hp:Tr p)(h0:p≠[])(hs:Sz n p)(hn:n≤220)(hl:p.length≤11)(hF:p.length≤F+1)(ho:o=Eh F p.length (Yy p))(hot:Tr o)(o0:o≠[])(hC:Cd F o){a b:Rat}(hab:a<b) :
  (Zb p a<0∨Zb p b<0∨Gv p.length p a<0∨Ct F o a b)↔(Gv p.length p a<0∨Ct F o a b):=by
 constructor
 ·rintro(h | h | h | h)
  ·left
   rw [Ztw p.length p a O4 (Nat.le_refl _),Zkn h];decide
  ·have r:=Zn4 p.length p a
   have r0:=Zew p.length p a hp h0 (Nat.le_refl _)
   rcases(show Gv p.length p a<0∨Gv p.length p a=1 by omega)with h1 | h1
   ·exact .inl h1
   ·right
    have hv:=Zk2 hp h0 hs hn hl hF ho hot o0 hC hab h1 h
    have hD:=Dp.start hp h0
    obtain⟨⟨B,hB⟩,-⟩:=Ht hp h0 hs hn hl hF p.length (Yy p) hD (by rw [Qu hp];exact Nat.le_refl _)
    rw [←ho]at hB
    obtain⟨c,d,hc,hd,e⟩:=Zdq ((Kn (Zt p)).trans (Qb hp):Sim (Yy p) p)
    have hob:Zb o b≠0:=fun e9=>by
     have h5:(c:Rat)*Zb (Yy p) b=(d:Rat)*Zb p b:=e b
     rw [hB b,e9]at h5
     have h6:=Qv hd
     have h7:(d:Rat)*Zb p b=0:=by rw [←h5];grind
     rcases Rat.mul_eq_zero.1 h7 with q | q
     ·exact h6 q
     ·rw [q]at h;grind
    unfold Ct
    rw [if_neg hob]
    omega
  ·exact .inl h
  ·exact .inr h
 ·rintro(h | h)
  ·exact .inr (.inr (.inl h))
  ·exact .inr (.inr (.inr h))
theorem Zx7(p:List Int)(x:Rat)(h:Zb p x≠0):∃δ:Rat,0<δ∧∀y,x-δ≤y→y≤x→Gx (Zb p y)=Gx (Zb p x):=by
 obtain⟨L,l1,l2⟩:=Et (x-1) x p
 have ha:0<(if 0<Zb p x then Zb p x else -Zb p x):=by split<;>grind
 obtain⟨δ,d1,d2,d3⟩:=Ih (show(0:Rat)<1 by decide) (show 0<L+1 by grind) (show 0<(if 0<Zb p x then Zb p x else -Zb p x)/2 by grind)
 refine⟨δ,d1,fun y h1 h2=>?_⟩
 have l:=l2 y x O4 O4 O4
 have b:=Rat.mul_nonneg (a:=L) (b:=δ-(x-y)) O4 O4
 have c:L*(x-y)≤δ*(L+1):=O4
 rcases Qs (Zb p x)with⟨h3,h4⟩ | ⟨h3,h4⟩ | ⟨h3,h4⟩
 ·rw [if_pos h3]at d3 ha;rw [h4];exact Zul O4
 ·rw [if_neg O4]at d3 ha;rw [h4];exact Zkn O4
 ·exact absurd h3 h
theorem rsg_1{x:Rat}(h:Gx x=1):0<x:=by
 rcases Qs x with⟨h5,h6⟩ | ⟨h5,h6⟩ | ⟨h5,h6⟩
 ·exact h5
 ·rw [h6]at h;exact absurd h O3
 ·rw [h6]at h;exact absurd h O3
theorem Zls{x:Rat}(h:Gx x=-1):x<0:=by
 rcases Qs x with⟨h5,h6⟩ | ⟨h5,h6⟩ | ⟨h5,h6⟩
 ·rw [h6]at h;exact absurd h O3
 ·exact h5
 ·rw [h6]at h;exact absurd h O3
def Zy1(p:List Int)(a b:Rat):Prop:=∃x,a≤x∧x≤b∧Zb p x<0
theorem Yc5 {xs:List Int} {F:Nat} (hx:Tr xs) (h0:xs≠[]) (hC:Cd F xs) {a b σ:Rat} (hσ:σ≠0) (hab:a<b)
  (hpos:∀x,a≤x→x<b→∃δ:Rat,0<δ∧∀y,x<y→y≤x+δ→y≤b→0<σ*Zb (sqf F xs) y) :
  Be F xs a-Be F xs b≤(if Zb (sqf F xs) b=0 then 1 else 0):=by
 obtain⟨h,h1,h2⟩:=Zjg hx h0 hC a b
 have hge:∀x,a≤x→x<b→0≤σ*Zb (sqf F xs) x:=fun x ha hb=>by
  rcases(show 0≤σ*Zb (sqf F xs) x∨σ*Zb (sqf F xs) x<0 by grind)with q | q
  ·exact q
  ·exfalso
   have hz:Zb (sqf F xs) x≠0:=fun e=>by rw [e]at q;grind
   obtain⟨δ,d1,d2⟩:=hpos x ha hb
   obtain⟨ε,e1,e2⟩:=Zk3 (sqf F xs) x hz
   obtain⟨y,y1,y2,y3,y4⟩:∃y,x<y∧y≤x+δ∧y≤x+ε∧y≤b:=by
    rcases(show δ≤ε∨ε≤δ by grind)with w | w
    ·rcases(show x+δ≤b∨b≤x+δ by grind)with v | v
     ·exact⟨x+δ,O4,O4,O4,v⟩
     ·exact⟨b,O4,O4,O4,O4⟩
    ·rcases(show x+ε≤b∨b≤x+ε by grind)with v | v
     ·exact⟨x+ε,O4,O4,O4,v⟩
     ·exact⟨b,O4,O4,O4,O4⟩
   have k1:=d2 y y1 y2 y4
   have k2:=e2 y y1 y3
   rcases Qs (Zb (sqf F xs) x)with⟨h5,h6⟩ | ⟨h5,h6⟩ | ⟨h5,h6⟩
   ·rw [h6]at k2
    have k3:=rsg_1 k2
    rcases(show σ<0∨0<σ by grind)with s | s
    ·have:=Rat.mul_pos (a:=-σ) (b:=Zb (sqf F xs) y) O4 k3;grind
    ·have:=Rat.mul_pos s h5;grind
   ·rw [h6]at k2
    have k3:=Zls k2
    rcases(show σ<0∨0<σ by grind)with s | s
    ·have:=Rat.mul_pos (a:=-σ) (b:=-Zb (sqf F xs) x) O4 O4;grind
    ·have:=Rat.mul_pos (a:=σ) (b:=-Zb (sqf F xs) y) s O4;grind
   ·exact hz h5
 have hgb:0≤σ*Zb (sqf F xs) b:=by
  rcases(show 0≤σ*Zb (sqf F xs) b∨σ*Zb (sqf F xs) b<0 by grind)with q | q
  ·exact q
  ·exfalso
   have hz:Zb (sqf F xs) b≠0:=fun e=>by rw [e]at q;grind
   obtain⟨ε,e1,e2⟩:=Zx7 (sqf F xs) b hz
   obtain⟨y,y1,y2,y3⟩:∃y,a≤y∧y<b∧b-ε≤y:=by
    rcases(show a≤b-ε∨b-ε≤a by grind)with v | v
    ·exact⟨b-ε,v,O4,O4⟩
    ·exact⟨a,O4,hab,v⟩
   obtain⟨δ,d1,d2⟩:=hpos y y1 y2
   obtain⟨z,z1,z2,z3⟩:∃z,y<z∧z≤y+δ∧z≤b:=by
    rcases(show y+δ≤b∨b≤y+δ by grind)with v | v
    ·exact⟨y+δ,O4,O4,v⟩
    ·exact⟨b,y2,O4,O4⟩
   have k1:=d2 z z1 z2 z3
   have k2:=e2 z O4 z3
   rcases Qs (Zb (sqf F xs) b)with⟨h5,h6⟩ | ⟨h5,h6⟩ | ⟨h5,h6⟩
   ·rw [h6]at k2
    have k3:=rsg_1 k2
    rcases(show σ<0∨0<σ by grind)with s | s
    ·have:=Rat.mul_pos (a:=-σ) (b:=Zb (sqf F xs) z) O4 k3;grind
    ·have:=Rat.mul_pos s h5;grind
   ·rw [h6]at k2
    have k3:=Zls k2
    rcases(show σ<0∨0<σ by grind)with s | s
    ·have:=Rat.mul_pos (a:=-σ) (b:=-Zb (sqf F xs) b) O4 O4;grind
    ·have:=Rat.mul_pos (a:=σ) (b:=-Zb (sqf F xs) z) s O4;grind
   ·exact hz h5
 have hstep:∀u v,a≤u→u≤v→v≤b→v-u≤h/2→Be F xs u-Be F xs v≤(if v=b∧Zb (sqf F xs) b=0 then 1 else 0):=fun u v c1 c2 c3 c4=>by
  have e:=h2 u v c1 c2 c3 O4
  have e':Be F xs u-Be F xs v=crs (Zb (sqf F xs)) u v:=e
  rw [e']
  unfold crs
  by_cases hc:Zb (sqf F xs) u≠0∧Zb (sqf F xs) u*Zb (sqf F xs) v≤0
  ·rw [if_pos hc]
   have hub:u<b:=by
    rcases(show u<b∨u=b by grind)with q | q
    ·exact q
    ·exfalso
     have:v=u:=O4
     subst this
     have:=Hc hc.1;grind
   have g1:=hge u c1 hub
   have g2:0≤σ*Zb (sqf F xs) v:=by
    rcases(show v<b∨v=b by grind)with q | q
    ·exact hge v O4 q
    ·rw [q];exact hgb
   have hv0:Zb (sqf F xs) v=0:=by
    rcases(show Zb (sqf F xs) v=0∨Zb (sqf F xs) v≠0 by grind)with q | q
    ·exact q
    ·exfalso
     have m1:=Rat.mul_nonneg g1 g2
     have m2:=Hc hσ
     have m3:(σ*σ)*(Zb (sqf F xs) u*Zb (sqf F xs) v)≥0:=O4
     rcases(show Zb (sqf F xs) u*Zb (sqf F xs) v<0∨Zb (sqf F xs) u*Zb (sqf F xs) v=0 by grind)with w | w
     ·have:=Rat.mul_pos m2 (show 0 < -(Zb (sqf F xs) u*Zb (sqf F xs) v) by grind);grind
     ·rcases Rat.mul_eq_zero.1 w with z | z
      ·exact hc.1 z
      ·exact q z
   rcases(show v<b∨v=b by grind)with q | q
   ·exfalso
    obtain⟨δ,d1,d2⟩:=hpos v O4 q
    obtain⟨z,z1,z2,z3,z4⟩:∃z,v<z∧z≤v+δ∧z≤b∧z-v≤h/2:=by
     rcases(show δ≤h/2∨h/2≤δ by grind)with w | w
     ·rcases(show v+δ≤b∨b≤v+δ by grind)with t | t
      ·exact⟨v+δ,O4,O4,t,O4⟩
      ·exact⟨b,q,O4,O4,O4⟩
     ·rcases(show v+h/2≤b∨b≤v+h/2 by grind)with t | t
      ·exact⟨v+h/2,O4,O4,t,O4⟩
      ·exact⟨b,q,O4,O4,O4⟩
    have k1:=d2 z z1 z2 z3
    have a1:=h2 u z c1 O4 z3 O4
    have a2:=h2 v z O4 O4 z3 O4
    have r1:crs (Zb (sqf F xs)) u z=0:=by
     unfold crs
     rw [if_neg]
     rintro⟨w1,w2⟩
     have g3:0<σ*Zb (sqf F xs) u:=by
      rcases(show σ*Zb (sqf F xs) u=0∨0<σ*Zb (sqf F xs) u by grind)with t | t
      ·rcases Rat.mul_eq_zero.1 t with t | t
       ·exact absurd t hσ
       ·exact absurd t w1
      ·exact t
     have m1:=Rat.mul_pos g3 k1
     have m2:=Hc hσ
     have m3:0<(σ*σ)*(Zb (sqf F xs) u*Zb (sqf F xs) z):=O4
     have m4:=Rat.mul_nonneg (a:=σ*σ) (b:=-(Zb (sqf F xs) u*Zb (sqf F xs) z)) O4 O4
     grind
    have r2:crs (Zb (sqf F xs)) v z=0:=by unfold crs;rw [if_neg];rintro⟨w1,w2⟩;exact w1 hv0
    have r3:crs (Zb (sqf F xs)) u v=1:=by unfold crs;rw [if_pos hc]
    rw [r1]at a1;rw [r2]at a2;rw [r3]at e
    omega
   ·rw [q]at hv0
    rw [if_pos ⟨q,hv0⟩];decide
  ·rw [if_neg hc]
   split<;>decide
 have key:∀n:Nat,∀u,a≤u→u≤b→b-u≤(n:Rat)*(h/2)→Be F xs u-Be F xs b≤(if Zb (sqf F xs) b=0 then 1 else 0):=fun n=>by
  induction n with
  | zero=>
   intro u c1 c2 c3
   have:u=b:=by push_cast at c3;grind
   subst this
   rw [Int.sub_self]
   split<;>decide
  | succ n ih=>
   intro u c1 c2 c3
   push_cast at c3
   by_cases hy:b-u≤h/2
   ·have:=hstep u b c1 c2 O4 hy
    by_cases hz:Zb (sqf F xs) b=0
    ·rw [if_pos ⟨rfl,hz⟩]at this;rw [if_pos hz];exact this
    ·rw [if_neg (fun e=>hz e.2)]at this;rw [if_neg hz];exact this
   ·have i1:=ih (u+h/2) O4 O4 O4
    have i2:=hstep u (u+h/2) c1 O4 O4 O4
    rw [if_neg (fun e=>by have:=e.1;grind)]at i2
    generalize (if Zb (sqf F xs) b=0 then(1:Int)else 0)=t at *
    omega
 obtain⟨n,hn⟩:=Zev (b-a) (show 0<h/2 by grind)
 exact key n a O4 O4 hn
structure Odp (F n:Nat) (p o:List Int):Prop where
 tr:Tr p
 ne:p≠[]
 sz:Sz n p
 hn:n≤220
 hl:p.length≤11
 hF:p.length≤F+1
 eq:o=Eh F p.length (Yy p)
 otr:Tr o
 one:o≠[]
 ok:Cd F o
theorem Odp.sq{F n:Nat}{p o:List Int}(h:Odp F n p o):∃(c d:Int) (B:List Int),c≠0∧d≠0∧∀x:Rat,(d:Rat)*Zb p x=(c:Rat)*(Zb o x*(Zb B x*Zb B x)):=by
 have hD:=Dp.start h.tr h.ne
 obtain⟨⟨B,hB⟩,-⟩:=Ht h.tr h.ne h.sz h.hn h.hl h.hF p.length (Yy p) hD (by rw [Qu h.tr];exact Nat.le_refl _)
 rw [←h.eq]at hB
 obtain⟨c,d,hc,hd,e⟩:=Zdq ((Kn (Zt p)).trans (Qb h.tr):Sim (Yy p) p)
 exact⟨c,d,B,hc,hd,fun x=>by rw [←hB x];exact(e x).symm⟩
theorem Odp.sqf{F n:Nat}{p o:List Int}(h:Odp F n p o):Go.Sky.sqf F o=Yy o:=by
 have hD:=Dp.start h.tr h.ne
 have hokn:=(hD.ok h.tr h.ne h.sz h.hn h.hl h.hF).2
 have hokp:Gq F p:=by unfold Gq at hokn ⊢;rwa [hD.2.2.1]at hokn
 obtain⟨-,hE⟩:=Ht h.tr h.ne h.sz h.hn h.hl h.hF p.length (Yy p) hD (by rw [Qu h.tr];exact Nat.le_refl _)
 rw [←h.eq]at hE
 rw [Fr hD.2.2.1]at hE
 exact(Zpl h.tr h.ne h.sz h.hn h.hl h.hF h.otr h.one h.ok.1.2.2.1 hokp hE).2
theorem Odp.srt{F n:Nat}{p o:List Int}(h:Odp F n p o):∃c d:Int,c≠0∧d≠0∧∀x:Rat,(c:Rat)*Zb (Go.Sky.sqf F o) x=(d:Rat)*Zb o x:=by
 rw [h.sqf]
 exact Zdq ((Kn (Zt o)).trans (Qb h.otr):Sim (Yy o) o)
theorem Odp.zero{F n:Nat}{p o:List Int}(h:Odp F n p o)(x:Rat):Zb (Go.Sky.sqf F o) x=0↔Zb o x=0:=by
 obtain⟨c,d,hc,hd,e⟩:=h.srt
 have e1:=e x
 constructor
 ·intro z;rw [z]at e1;rcases Rat.mul_eq_zero.1 (show(d:Rat)*Zb o x=0 by grind)with q | q
  ·exact absurd q (Qv hd)
  ·exact q
 ·intro z;rw [z]at e1;rcases Rat.mul_eq_zero.1 (show(c:Rat)*Zb (Go.Sky.sqf F o) x=0 by grind)with q | q
  ·exact absurd q (Qv hc)
  ·exact q
theorem Odp.nz{F n:Nat}{p o:List Int}(h:Odp F n p o){x:Rat}(hx:Zb p x≠0):Zb o x≠0:=fun z=>by
 obtain⟨c,d,B,hc,hd,e⟩:=h.sq
 have e1:=e x
 rw [z]at e1
 rcases Rat.mul_eq_zero.1 (show(d:Rat)*Zb p x=0 by grind)with q | q
 ·exact Qv hd q
 ·exact hx q
theorem Odp.opp{F n:Nat}{p o:List Int}(h:Odp F n p o){x y:Rat}(hxy:Zb p x*Zb p y<0):Zb o x*Zb o y<0∧Zb (Go.Sky.sqf F o) x*Zb (Go.Sky.sqf F o) y<0:=by
 obtain⟨c,d,B,hc,hd,e⟩:=h.sq
 have k1:(Zb o x*(Zb B x*Zb B x))*(Zb o y*(Zb B y*Zb B y))<0:=Zd6 (Qv hc) (Qv hd) (e x).symm (e y).symm hxy
 have k2:=Ybo k1
 obtain⟨c',d',hc',hd',e'⟩:=h.srt
 exact⟨k2,Zd6 (Qv hc') (Qv hd') (e' x) (e' y) k2⟩
theorem Odp.sem{F n:Nat}{p o:List Int}(h:Odp F n p o){a b:Rat}(hab:a<b):(Gv p.length p a<0∨Ct F o a b)↔Zy1 p a b:=by
 have hsame:=Ybt h.tr h.ne h.sz h.hn h.hl h.hF h.eq h.otr h.one h.ok hab
 constructor
 ·rintro(h1 | h1)
  ·obtain⟨δ,d1,d2⟩:=Ca p.length p a (Nat.le_refl _)
   have r:=Zn4 p.length p a
   have hm:Gv p.length p a=-1:=O
   rcases(show a+δ≤b∨b≤a+δ by grind)with q | q
   ·exact⟨a+δ,O4,q,Zls (by rw [d2 (a+δ) O4 O4,hm])⟩
   ·exact⟨b,O4,O4,Zls (by rw [d2 b hab q,hm])⟩
  ·rcases Classical.em (Zy1 p a b)with q | q
   ·exact q
   ·exfalso
    have hge:∀x,a≤x→x≤b→0≤Zb p x:=fun x u v=>by
     rcases(show 0≤Zb p x∨Zb p x<0 by grind)with w | w
     ·exact w
     ·exact absurd ⟨x,u,v,w⟩ q
    have haft:∀x,a≤x→x<b→∃δ:Rat,0<δ∧∀y,x<y→y≤x+δ→y≤b→0<Zb p y:=fun x u v=>by
     obtain⟨δ,d1,d2⟩:=Ca p.length p x (Nat.le_refl _)
     have r:=Zn4 p.length p x
     have r0:=Zew p.length p x h.tr h.ne (Nat.le_refl _)
     refine⟨δ,d1,fun y c1 c2 c3=>?_⟩
     have s:=d2 y c1 c2
     rcases Qs (Zb p y)with⟨h5,h6⟩ | ⟨h5,h6⟩ | ⟨h5,h6⟩
     ·exact h5
     ·have:=hge y O4 c3;grind
     ·rw [h6]at s;exact absurd s.symm r0
    obtain⟨δ,d1,d2⟩:=haft a O4 hab
    obtain⟨z,z1,z2,z3⟩:∃z,a<z∧z≤a+δ∧z≤b:=by
     rcases(show a+δ≤b∨b≤a+δ by grind)with w | w
     ·exact⟨a+δ,O4,O4,w⟩
     ·exact⟨b,hab,w,O4⟩
    have hz:=d2 z z1 z2 z3
    have hσ:Zb (Go.Sky.sqf F o) z≠0:=fun e=>h.nz (x:=z) O4 ((h.zero z).1 e)
    have hf:=Yc5 h.otr h.one h.ok (σ:=Zb (Go.Sky.sqf F o) z) hσ hab (fun x u v=>by
     obtain⟨ε,e1,e2⟩:=haft x u v
     refine⟨ε,e1,fun y c1 c2 c3=>?_⟩
     have hy:=e2 y c1 c2 c3
     have hyn:Zb (Go.Sky.sqf F o) y≠0:=fun e=>h.nz (x:=y) O4 ((h.zero y).1 e)
     rcases(show 0<Zb (Go.Sky.sqf F o) z*Zb (Go.Sky.sqf F o) y∨Zb (Go.Sky.sqf F o) z*Zb (Go.Sky.sqf F o) y<0∨Zb (Go.Sky.sqf F o) z*Zb (Go.Sky.sqf F o) y=0 by grind)with w | w | w
     ·exact w
     ·exfalso
      obtain⟨c,d,B,hc,hd,e⟩:=h.sq
      obtain⟨c',d',hc',hd',e'⟩:=h.srt
      have w1:Zb o z*Zb o y<0:=Zd6 (Qv hd') (Qv hc') (e' z).symm (e' y).symm w
      have p1:=Rat.mul_pos hz hy
      have q1:((d:Rat)*(d:Rat))*(Zb p z*Zb p y)=((c:Rat)*(c:Rat))*((Zb o z*Zb o y)*((Zb B z*Zb B y)*(Zb B z*Zb B y))):=by
       have a1:=e z
       have a2:=e y
       have:((d:Rat)*Zb p z)*((d:Rat)*Zb p y)=((c:Rat)*(Zb o z*(Zb B z*Zb B z)))*((c:Rat)*(Zb o y*(Zb B y*Zb B y))):=by rw [a1,a2]
       grind
      have q2:=Rat.mul_pos (Hc (Qv hd)) p1
      have q3:0≤(Zb B z*Zb B y)*(Zb B z*Zb B y):=by
       by_cases t:Zb B z*Zb B y=0
       ·rw [t];grind
       ·exact Rat.le_of_lt (Hc t)
      have q4:=Rat.mul_nonneg (Rat.le_of_lt (Hc (Qv hc))) (Rat.mul_nonneg (show 0≤-(Zb o z*Zb o y) by grind) q3)
      grind
     ·rcases Rat.mul_eq_zero.1 w with t | t
      ·exact absurd t hσ
      ·exact absurd t hyn)
    unfold Ct at h1
    by_cases hb0:Zb o b=0
    ·rw [if_pos hb0]at h1;rw [if_pos ((h.zero b).2 hb0)]at hf;omega
    ·rw [if_neg hb0]at h1;rw [if_neg (fun e=>hb0 ((h.zero b).1 e))]at hf;omega
 ·rintro⟨x,x1,x2,x3⟩
  rcases(show x=a∨x=b∨(a<x∧x<b) by grind)with q | q | ⟨q1,q2⟩
  ·subst q;exact hsame.1 (.inl x3)
  ·subst q;exact hsame.1 (.inr (.inl x3))
  ·have r:=Zn4 p.length p a
   have r0:=Zew p.length p a h.tr h.ne (Nat.le_refl _)
   rcases(show Gv p.length p a<0∨Gv p.length p a=1 by omega)with h1 | h1
   ·exact .inl h1
   ·right
    have hv:=Zk2 h.tr h.ne h.sz h.hn h.hl h.hF h.eq h.otr h.one h.ok q1 h1 x3
    have m1:=Zhe h.otr h.one h.ok (Rat.le_of_lt q2)
    unfold Ct
    by_cases hb0:Zb o b=0
    ·rw [if_pos hb0]
     have hx:Zb (Go.Sky.sqf F o) x≠0:=fun e=>h.nz (x:=x) O4 ((h.zero x).1 e)
     rcases Int.lt_or_le (Be F o b) (Be F o x)with w | w
     ·omega
     ·exfalso
      have:=Zby h.otr h.one h.ok (Rat.le_of_lt q2) w hx b (Rat.le_of_lt q2) O4
      rw [(h.zero b).2 hb0]at this
      grind
    ·rw [if_neg hb0];omega
theorem Zqa(g:Rat→Rat){h:Rat}(hh:0<h):∀(n:Nat) (u v:Rat),u<v→v-u≤(n:Rat)*h→g u*g v<0→∃x y,u≤x∧x<y∧y≤v∧y-x≤h∧g x≠0∧g x*g y≤0
 | 0,u,v,a,b,_=>by push_cast at b;grind
 | n+1,u,v,a,b,c=>by
  push_cast at b
  have hu:g u≠0:=fun e=>by rw [e]at c;grind
  by_cases hd:v-u≤h
  ·exact⟨u,v,O4,a,O4,hd,hu,O4⟩
  ·rcases(show g u*g (u+h)≤0∨0<g u*g (u+h) by grind)with q | q
   ·exact⟨u,u+h,O4,O4,O4,O4,hu,q⟩
   ·have hz:g (u+h)*g v<0:=by
     have s1:=Hc hu
     rcases(show g (u+h)*g v<0∨0≤g (u+h)*g v by grind)with w | w
     ·exact w
     ·have m1:=Rat.mul_pos q (show 0 < -(g u*g v) by grind)
      have m2:=Rat.mul_nonneg (Rat.le_of_lt s1) w
      grind
    obtain⟨x,y,i1,i2,i3,i4,i5,i6⟩:=Zqa g hh n (u+h) v O4 O4 hz
    exact⟨x,y,O4,i2,i3,i4,i5,i6⟩
theorem Zk0{a b c:Rat}(h:a*b<0)(h1:a-b≤c)(h2:b-a≤c):-c≤a∧a≤c:=by
 rcases(show 0<a∨a<0∨a=0 by grind)with q | q | q
 ·have:b<0:=by
   rcases(show b<0∨0≤b by grind)with w | w
   ·exact w
   ·have:=Rat.mul_nonneg (Rat.le_of_lt q) w;grind
  grind
 ·have:0<b:=by
   rcases(show 0<b∨b≤0 by grind)with w | w
   ·exact w
   ·have:=Rat.mul_nonneg (show 0≤-a by grind) (show 0≤-b by grind);grind
  grind
 ·rw [q]at h;grind
theorem Zqn{xs o:List Int}{F:Nat}(hx:Tr xs)(h0:xs≠[])(hC:Cd F xs)(ho:Tr o)(o0:o≠[])(hE:Ed o (sqf F xs)){u v:Rat}(huv:u<v)(hu:Zb (sqf F xs) u≠0)(h:Zb o u*Zb o v<0):Be F xs v<Be F xs u:=by
 rcases Int.lt_or_le (Be F xs v) (Be F xs u)with q | q
 ·exact q
 ·exfalso
  have hk:=Zby hx h0 hC (Rat.le_of_lt huv) q hu
  obtain⟨k,w,k0,hw⟩:=hE
  have hkr:=Qv k0
  have hcop:∀d,Tr d→Ed d o→Ed d (tzl w)→d.length≤1:=fun d hd e1 e2=>by
   obtain⟨k1,s1,c1,r1⟩:=e1
   obtain⟨k2,s2,c2,r2⟩:=e2
   refine Zdo hx h0 hC.1.2.2.1 hd ⟨k*k1,lmul w s1,Int.mul_ne_zero k0 c1,fun x=>?_⟩ ⟨k*k1*k2,Nj ((lmul (ld w) s1).map fun a=>k2*a) ((lmul s2 (ld o)).map fun a=>k1*a),Int.mul_ne_zero (Int.mul_ne_zero k0 c1) c2,fun x=>?_⟩
   ·rw [Zq];have a1:=hw x;have a2:=r1 x;push_cast;grind
   ·rw [Xd,Ze,Ze,Zq,Zq,Ll]
    have a0:=Fy (p:=(sqf F xs).map fun a=>k*a) (q:=lmul w o) (fun y=>by rw [Ze,Zq];exact hw y) x
    rw [Ch,Eu]at a0
    have a2:=r1 x
    have a3:=r2 x
    rw [Ma]at a3
    push_cast
    have b1:(k:Rat)*k1*k2*Zb (ld (sqf F xs)) x=(k1:Rat)*k2*(Zb (ld w) x*Zb o x+Zb w x*Zb (ld o) x):=by rw [←a0];grind
    rw [b1]
    have b2:(k1:Rat)*k2*(Zb (ld w) x*Zb o x+Zb w x*Zb (ld o) x)=(k2:Rat)*(Zb (ld w) x*((k1:Rat)*Zb o x))+(k1:Rat)*(((k2:Rat)*Zb w x)*Zb (ld o) x):=O4
    rw [b2,a2,a3]
    grind
  obtain⟨ε,e1,e2⟩:=Zv8 ho (Xp w) o0 hcop u v
  obtain⟨L1,l1,l2⟩:=Et u v o
  obtain⟨L2,m1,m2⟩:=Et u v w
  obtain⟨h',d1,-,d3⟩:=Ih (show(0:Rat)<1 by decide) (show 0<L1+L2 by grind) (show 0<ε/2 by grind)
  obtain⟨n,hn⟩:=Zev (v-u) d1
  obtain⟨x,y,x1,x2,x3,x4,x5,x6⟩:=Zqa (Zb o) d1 n u v huv hn h
  have sx:=hk x x1 O4
  have sy:=hk y O4 x3
  have ox:=hw x
  have oy:=hw y
  have hy0:Zb o y≠0:=fun e=>by
   rw [e]at oy
   rcases Rat.mul_eq_zero.1 (show(k:Rat)*Zb (sqf F xs) y=0 by grind)with t | t
   ·exact hkr t
   ·rw [t]at sy;grind
  have hoo:Zb o x*Zb o y<0:=by
   rcases(show Zb o x*Zb o y<0∨Zb o x*Zb o y=0 by grind)with t | t
   ·exact t
   ·rcases Rat.mul_eq_zero.1 t with t | t
    ·exact absurd t x5
    ·exact absurd t hy0
  have sxy:0<Zb (sqf F xs) x*Zb (sqf F xs) y:=by
   have a1:=Rat.mul_pos sx sy
   have a2:=Hc hu
   rcases(show 0<Zb (sqf F xs) x*Zb (sqf F xs) y∨Zb (sqf F xs) x*Zb (sqf F xs) y≤0 by grind)with t | t
   ·exact t
   ·have:=Rat.mul_nonneg (Rat.le_of_lt a2) (show 0≤-(Zb (sqf F xs) x*Zb (sqf F xs) y) by grind);grind
  have hww:Zb w x*Zb w y<0:=by
   have a1:(k:Rat)*k*(Zb (sqf F xs) x*Zb (sqf F xs) y)=(Zb w x*Zb w y)*(Zb o x*Zb o y):=by
    have:((k:Rat)*Zb (sqf F xs) x)*((k:Rat)*Zb (sqf F xs) y)=(Zb w x*Zb o x)*(Zb w y*Zb o y):=by rw [ox,oy]
    grind
   have a2:=Rat.mul_pos (Hc hkr) sxy
   rcases(show Zb w x*Zb w y<0∨0≤Zb w x*Zb w y by grind)with t | t
   ·exact t
   ·have:=Rat.mul_nonneg t (show 0≤-(Zb o x*Zb o y) by grind);grind
  have c1:=l2 x y x1 O4 x3
  have c2:=m2 x y x1 O4 x3
  have n1:=Rat.mul_nonneg (a:=L1) (b:=h'-(y-x)) O4 O4
  have n2:=Rat.mul_nonneg (a:=L2) (b:=h'-(y-x)) O4 O4
  have n3:=Rat.mul_nonneg (a:=L1) (b:=h') O4 O4
  have n4:=Rat.mul_nonneg (a:=L2) (b:=h') O4 O4
  obtain⟨b1,b2⟩:=Zk0 (c:=ε/2) hoo O4 O4
  obtain⟨b3,b4⟩:=Zk0 (c:=ε/2) hww O4 O4
  rcases e2 x x1 O4 with t | t
  ·unfold Big at t;grind
  ·unfold Big at t;rw [Ma]at t;grind
theorem Zkp{xs:List Int}{F:Nat}(hx:Tr xs)(h0:xs≠[])(hC:Cd F xs){u v:Rat}(huv:u<v)(hu:Zb (sqf F xs) u≠0)(hv:Zb (sqf F xs) v=0):Be F xs v<Be F xs u:=by
 rcases Int.lt_or_le (Be F xs v) (Be F xs u)with q | q
 ·exact q
 ·exfalso
  have:=Zby hx h0 hC (Rat.le_of_lt huv) q hu v (Rat.le_of_lt huv) O4
  rw [hv]at this;grind
theorem Odp.ed{F n:Nat}{p o:List Int}(h:Odp F n p o):Ed o (Go.Sky.sqf F p):=by
 have hD:=Dp.start h.tr h.ne
 obtain⟨-,hE⟩:=Ht h.tr h.ne h.sz h.hn h.hl h.hF p.length (Yy p) hD (by rw [Qu h.tr];exact Nat.le_refl _)
 rw [←h.eq]at hE
 rwa [Fr hD.2.2.1]at hE
theorem Zzu{xs:List Int}{F:Nat}(hx:Tr xs)(h0:xs≠[])(hC:Cd F xs)(x:Rat):Zb xs x=0↔Zb (sqf F xs) x=0:=by
 constructor
 ·intro h
  have hd:(x.den:Int)≠0:=by exact_mod_cast x.den_nz
  have e:((x.num:Int):Rat)/((x.den:Int):Rat)=x:=by rw [←Rat.divInt_eq_div];exact Rat.num_divInt_den x
  have:=Zzw hx h0 hC.1.2.2.1 hd (r:=x.num) (by rw [e];exact h)
  rwa [e]at this
 ·intro h
  obtain⟨g,hg⟩:=Ygg hx h0 hC.1.2.2.1
  rw [hg x,h];grind
theorem Yg2 {F n:Nat} {p o:List Int} (h:Odp F n p o) (hC:Cd F p) {K:Nat} {e:Nat} (sep:∀u v:Rat,-(K:Rat)≤u→u≤v→v≤(K:Rat)→v-u≤1/((2^e:Nat):Rat)→Be F p u-Be F p v≤1)
  {s t:Rat} (h1:-(K:Rat)+1≤s) (h2:t≤(K:Rat)) (hs:0≤Zb p s) (ht:0≤Zb p t) (hn:Zy1 p s t):1/((2^(e+1):Nat):Rat)<t-s:=by
 obtain⟨x,x1,x2,x3⟩:=hn
 have y1:s<x:=by rcases(show s<x∨s=x by grind)with q | q;exact q;subst q;grind
 have y2:x<t:=by rcases(show x<t∨x=t by grind)with q | q;exact q;subst q;grind
 obtain⟨f1,f2,f3,f4,f5,f6⟩:=Ps (F:=F) h.tr h.ne hC.1.2.2.1
 have hx0:Zb (Go.Sky.sqf F p) x≠0:=fun z=>by have:=(Zzu h.tr h.ne hC x).2 z;grind
 rcases(show 1/((2^(e+1):Nat):Rat)<t-s∨t-s≤1/((2^(e+1):Nat):Rat) by grind)with q | q
 ·exact q
 ·exfalso
  have hp:=two_pow_pos e
  have hp1:=two_pow_pos (e+1)
  have e2:((2^(e+1):Nat):Rat)=2*((2^e:Nat):Rat):=by rw [Nat.pow_succ];push_cast;grind
  have hi:0<((2^e:Nat):Rat)⁻¹:=Rat.inv_pos.2 hp
  have h2e:1/((2^(e+1):Nat):Rat)=((2^e:Nat):Rat)⁻¹/2:=by rw [e2];grind
  have h1e:1/((2^e:Nat):Rat)=((2^e:Nat):Rat)⁻¹:=O4
  have hle:((2^e:Nat):Rat)⁻¹≤1:=by
   have g1:(1:Rat)≤((2^e:Nat):Rat):=by have:1≤2^e:=Nat.two_pow_pos e;exact_mod_cast this
   have g2:=Rat.mul_nonneg (a:=((2^e:Nat):Rat)-1) (b:=((2^e:Nat):Rat)⁻¹) O4 O4
   have g3:((2^e:Nat):Rat)*((2^e:Nat):Rat)⁻¹=1:=Rat.mul_inv_cancel _ O4
   grind
  obtain⟨u,u1,u2,u3⟩:∃u,s-((2^e:Nat):Rat)⁻¹/2≤u∧u≤s∧Be F p x<Be F p u:=by
   by_cases z:Zb (Go.Sky.sqf F p) s=0
   ·obtain⟨δ,d1,d2⟩:=Ca (Go.Sky.sqf F p).length (Go.Sky.sqf F p) (s-((2^e:Nat):Rat)⁻¹/2) (Nat.le_refl _)
    have a0:=Zew (Go.Sky.sqf F p).length (Go.Sky.sqf F p) (s-((2^e:Nat):Rat)⁻¹/2) f2 f3 (Nat.le_refl _)
    obtain⟨u,w1,w2,w3⟩:∃u,s-((2^e:Nat):Rat)⁻¹/2<u∧u≤s-((2^e:Nat):Rat)⁻¹/2+δ∧u<s:=by
     rcases(show s-((2^e:Nat):Rat)⁻¹/2+δ<s∨s≤s-((2^e:Nat):Rat)⁻¹/2+δ by grind)with w | w
     ·exact⟨_,O4,Rat.le_refl,w⟩
     ·exact⟨s-((2^e:Nat):Rat)⁻¹/4,O4,O4,O4⟩
    have hu:Zb (Go.Sky.sqf F p) u≠0:=fun c=>by have:=d2 u w1 w2;rw [c]at this;exact a0 this.symm
    have m1:=Zkp h.tr h.ne hC w3 hu z
    have m2:=Zhe h.tr h.ne hC (Rat.le_of_lt y1)
    exact⟨u,O4,O4,O⟩
   ·have hp0:0<Zb p s:=by
     have:Zb p s≠0:=fun c=>z ((Zzu h.tr h.ne hC s).1 c)
     grind
    have k:=h.opp (x:=s) (y:=x) (by have:=Rat.mul_pos hp0 (show 0 < -Zb p x by grind);grind)
    exact⟨s,O4,O4,Zqn h.tr h.ne hC h.otr h.one h.ed y1 z k.1⟩
  have u4:Be F p t<Be F p x:=by
   by_cases z:Zb (Go.Sky.sqf F p) t=0
   ·exact Zkp h.tr h.ne hC y2 hx0 z
   ·have hp0:0<Zb p t:=by
     have:Zb p t≠0:=fun c=>z ((Zzu h.tr h.ne hC t).1 c)
     grind
    have k:=h.opp (x:=x) (y:=t) (by have:=Rat.mul_pos hp0 (show 0 < -Zb p x by grind);grind)
    exact Zqn h.tr h.ne hC h.otr h.one h.ed y2 hx0 k.1
  have:=sep u t O4 O4 h2 O4
  omega
end Go.Sky

