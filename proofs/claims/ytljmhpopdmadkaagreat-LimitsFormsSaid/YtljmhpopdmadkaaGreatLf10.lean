/- Rules, arithmetic and contracts: part 11. No conditions but those that each theorem names. -/
import Derived.Test.YtljmhpopdmadkaaGreatLf09
set_option linter.all false
namespace Go.Sky
theorem Dv.ed{g a:List Int}(h:Dv g a):Ed g a:=by
 obtain⟨k,s,hk,h⟩:=h
 refine⟨k,s,hk,fun x=>?_⟩
 have:=Gv (a:=k) (c:=0) (x:=a) (s:=s) (y:=g) (z:=[]) (fun t=>by rw [h t];omega) x
 push_cast at this;grind
theorem Zic{xs:List Int}{F:Nat}(hx:Tr xs)(h0:xs≠[])(hC:Di F xs)(s t:Rat) :
  ∃h:Rat,0<h∧∀u v,s≤u→u≤v→v≤t→v-u≤h→Av ((Aw F xs).map Zb) u-Av ((Aw F xs).map Zb) v=crs (Zb (sqf F xs)) u v:=by
 have hok:=hC.1.2.2.1
 obtain⟨f1,f2,f3,f4,f5,f6⟩:=Oi (F:=F) hx h0 hok
 have htp:=Oh f2
 by_cases hd:Yh (sqf F xs)=[]
 ·refine Zgw (κ:=1) f2 (Yy htp) f3 hC.2.2 O3 (fun x=>?_) fun q hq a b=>?_
  ·rw [←Mr,hd];show(0:Rat)=1*0;grind
  ·exact Zdd hx h0 hok hq a (b.sim (Qd htp))
 ·have hpc:0<Yk (Yh (sqf F xs)):=by
   have h1:=Cv htp hd
   have h2:=Nj (Yh (sqf F xs))
   omega
  refine Zgw (κ:=(Yk (Yh (sqf F xs)):Rat)) f2 (Yy htp) f3 hC.2.2 (by exact_mod_cast hpc) (fun x=>?_) fun q hq a b=>?_
  ·rw [←Mr,←Zf]
   exact Nx x _ _ fun i=>by rw [Xw,Int.mul_comm,Hh]
  ·exact Zdd hx h0 hok hq a (b.sim (Qd htp))
theorem Yda{p s g q:List Int}(hps:∀x:Rat,Zb p x=Zb s x*Zb g x)(hg:Tr g)(g0:g≠[])(hgd:Ed g (ld p))(hq:Irr q)(hqp:Ed q p):Ed q s:=by
 refine Classical.byContradiction fun hns=>?_
 have hq1:=hq.1
 have hq2:=hq.2.1
 have hqd:¬Ed q (ld q):=fun h=>by
  have h8:Ed q (Yh q):=h.congr fun x=>(Mr q x).symm
  have hl:=Oa q
  have:=(h8.len hq1 (Oh hq1) (fun e=>by rw [e]at hl;simp at hl;omega)).2
  omega
 obtain⟨c1,m1,k1,e1⟩:=hqp
 obtain⟨c2,m,k2,e2⟩:=hgd
 have key:∀k,Ed (Iv q k) g:=fun k=>by
  induction k with
  | zero=>exact⟨1,g,O3,fun x=>by rw [show Iv q 0=[1]from rfl,Qw];push_cast;grind⟩
  | succ k ih=>
   cases k with
   | zero=>
    have h9:Ed q g:=(Cz (f:=s) (h:=g) (m:=m1) hq k1 (fun x=>by rw [←hps x];exact e1 x)).resolve_left hns
    exact h9.congr_l fun x=>by rw [Hq,show Iv q 0=[1]from rfl,Qw];push_cast;grind
   | succ k=>
    obtain⟨c,u,kc,eu⟩:=ih
    have hd:∀x:Rat,(c:Rat)*Zb (ld g) x=Zb (ld u) x*Zb (Iv q (k+1)) x+Zb u x*(((k:Rat)+1)*(Zb (Iv q k) x*Zb (ld q) x)):=fun x=>by
     have:=Fd (p:=g.map fun a=>c*a) (q:=Qc u (Iv q (k+1))) (fun y=>by rw [Zf,Zn];exact eu y) x
     rwa [Dm,Fv,Zkq]at this
    have hp:∀x:Rat,Zb (ld p) x=Zb (ld s) x*Zb g x+Zb s x*Zb (ld g) x:=fun x=>by
     have:=Fd (p:=p) (q:=Qc s g) (fun y=>by rw [Zn];exact hps y) x
     rwa [Fv]at this
    have hz:∀x:Rat,Zb (Nu ((Qc (Qc s u) (ld q)).map fun a=>(c2*((k:Int)+1))*a) ((Qc (Nu ((Qc s (ld u)).map fun a=>c2*a) ((Qc (Nu m ((ld s).map fun a=>(-c2)*a)) u).map fun a=>(-1)*a)) q))) x=0:=fun x=>by
     refine Ht (v:=Iv q k) (fun e=>?_) (fun x=>?_) x
     ·rw [Zac (Cq hq1 hq2 k).1]at e
      have:=(Cq hq1 hq2 k).2
      rw [e]at this;simp at this
     ·rw [Yz,Zf,Zn,Zn,Zn,Yz,Zf,Zn,Zf,Zn,Yz,Zf]
      have a1:=e2 x;have a2:=hp x;have a3:=hd x;have a4:=eu x
      rw [Hq]at a3 a4
      push_cast
      have b1:(c2:Rat)*Zb s x*(c*Zb (ld g) x)=(Zb m x-c2*Zb (ld s) x)*(c*Zb g x):=by
       have:(c2:Rat)*Zb s x*(c*Zb (ld g) x)=c*(c2*(Zb (ld p) x-Zb (ld s) x*Zb g x)):=by rw [a2];grind
       rw [this]
       have:(c:Rat)*(c2*(Zb (ld p) x-Zb (ld s) x*Zb g x))=c*(c2*Zb (ld p) x)-c*c2*Zb (ld s) x*Zb g x:=O4
       rw [this,a1];grind
      rw [a3,a4]at b1
      grind
    have h9:=Cz (f:=Qc s u) (h:=ld q) (k:=c2*((k:Int)+1)) (m:=Nu ((Qc (Nu m ((ld s).map fun a=>(-c2)*a)) u)) ((Qc s (ld u)).map fun a=>(-c2)*a)) hq (Int.mul_ne_zero k2 O) (fun x=>by
     have:=hz x
     rw [Yz,Zf,Zn,Zn,Zn,Yz,Zf,Zn,Zf,Zn,Yz,Zf]at this
     rw [Zn,Yz,Zn,Yz,Zf,Zf,Zn]
     push_cast at this ⊢
     grind)
    have h8:=Cz (f:=s) (h:=u) (k:=1) (m:=[]) hq O3
    have h7:Ed q u:=by
     obtain⟨c3,w,k3,e3⟩:=h9.resolve_right hqd
     exact(Cz (f:=s) (h:=u) (k:=c3) (m:=w) hq k3 (fun x=>by have:=e3 x;rwa [Zn]at this)).resolve_left hns
    obtain⟨c3,w,k3,e3⟩:=h7
    refine⟨c3*c,w,Int.mul_ne_zero k3 kc,fun x=>?_⟩
    have a4:=eu x;have a5:=e3 x
    rw [Hq q (k+1)];push_cast
    have:(c3:Rat)*c*Zb g x=c3*(c*Zb g x):=O4
    rw [this,a4]
    have:(c3:Rat)*(Zb u x*Zb (Iv q (k+1)) x)=(c3*Zb u x)*Zb (Iv q (k+1)) x:=O4
    rw [this,a5];grind
 obtain⟨a1,a2⟩:=Cq hq1 hq2 g.length
 have:=((key g.length).len a1 hg g0).2
 omega
theorem Yc0{r d:Int}(hd:d≠0):Irr [-r,d]:=by
 have ht:Tr [-r,d]:= .inr hd
 refine⟨ht,O5,fun q hq he=>?_⟩
 have:=(he.len hq ht O5).2
 simp at this ⊢;omega
theorem Zgd(r d:Int)(x:Rat):Zb [-r,d] x=(d:Rat)*x-r:=by
 show((-r:Int):Rat)+x*((d:Rat)+x*0)=_;push_cast;grind
theorem Yb8{p:List Int}{r d:Int}(hp:Tr p)(hd:d≠0)(h:Zb p ((r:Rat)/d)=0):Ed [-r,d] p:=by
 have hd':(d:Rat)≠0:=by exact_mod_cast hd
 have ht:Tr [-r,d]:= .inr hd
 obtain⟨k,s,hs⟩:=Cp p (q:=[-r,d]) O5
 have hL:=Mj (ht.mem O5) k
 generalize cf [-r,d] ([-r,d].length-1)^k=L at hs hL
 have he:∀x,(L:Rat)*Zb p x=Zb s x*Zb [-r,d] x+Zb (Xx p [-r,d]) x:=fun x=>by
  have:=Gv (a:=L) (c:=-1) (x:=p) (s:=s) (y:=[-r,d]) (z:=Xx p [-r,d]) (fun t=>by rw [hs t];omega) x
  push_cast at this;grind
 have hl:=Qs p (q:=[-r,d]) O5
 have hz:∀x,Zb (Xx p [-r,d]) x=0:=fun x=>by
  have h1:=he ((r:Rat)/d)
  rw [h,Zgd]at h1
  match hr:Xx p [-r,d],hl with
  | [],_=>rfl
  | [c],_=>
   rw [hr,Qw]at h1
   rw [Qw]
   have:(d:Rat)*(r/d)=r:=O4
   rw [this]at h1;grind
 exact⟨L,s,hL,fun x=>by rw [he x,hz x];grind⟩
theorem Ed.root{p:List Int}{r d:Int}(hd:d≠0)(h:Ed [-r,d] p):Zb p ((r:Rat)/d)=0:=by
 obtain⟨k,s,hk,h⟩:=h
 have hd':(d:Rat)≠0:=by exact_mod_cast hd
 have hk':(k:Rat)≠0:=by exact_mod_cast hk
 have h1:=h ((r:Rat)/d)
 rw [Zgd]at h1
 have:(d:Rat)*(r/d)=r:=O4
 rw [this]at h1;grind
theorem Zw3{xs:List Int}{F:Nat}(hx:Tr xs)(h0:xs≠[])(hok:eok F (gA (Xb xs) (Yh (Xb xs))) (gB (Xb xs) (Yh (Xb xs)))){r d:Int}(hd:d≠0)(h:Zb xs ((r:Rat)/d)=0):Zb (sqf F xs) ((r:Rat)/d)=0:=by
 obtain⟨f1,f2,f3,f4,f5,f6⟩:=Oi (F:=F) hx h0 hok
 have hs:Tr (Xb xs):=Oy (Yy hx)
 have hd':Tr (Yh (Xb xs)):=Oh hs
 have h1:Ed [-r,d] (Xb xs):=(Yb8 hx hd h).sim ((Qd hx).symm.trans (Lq _).symm)
 have h2:∀x:Rat,Zb (Xb xs) x=Zb (sqf F xs) x*Zb (Na F (Xb xs) (Yh (Xb xs))) x:=fun x=>by
  have:Zb (Xb xs) x=Zb (Xl (sqf F xs) (Na F (Xb xs) (Yh (Xb xs)))) x:=by rw [←f4]
  rw [this,Yg]
 have h3:Ed (Na F (Xb xs) (Yh (Xb xs))) (ld (Xb xs)):=((Zbm hs hd' hok).2.ed).congr fun x=>Mr _ x
 exact(Yda h2 (Zc8 hs hd') f5 h3 (Yc0 hd) h1).root hd
def Away(s t:Rat)(f:Rat→Rat):Prop:=∃δ:Rat,0<δ∧∀x,s≤x→x≤t→δ≤f x∨f x≤-δ
theorem Away.mul{s t:Rat}{f g h:Rat→Rat}(hf:Away s t f)(hg:Away s t g)(e:∀x,h x=f x*g x):Away s t h:=by
 obtain⟨a,a1,a2⟩:=hf
 obtain⟨b,b1,b2⟩:=hg
 refine⟨a*b,Rat.mul_pos a1 b1,fun x h1 h2=>?_⟩
 rw [e x]
 rcases a2 x h1 h2 with h3 | h3<;>rcases b2 x h1 h2 with h4 | h4
 ·left;have:=Rat.mul_nonneg (a:=f x-a) (b:=g x) O4 O4;have:=Rat.mul_nonneg (a:=a) (b:=g x-b) O4 O4;grind
 ·right;have:=Rat.mul_nonneg (a:=f x-a) (b:=- g x) O4 O4;have:=Rat.mul_nonneg (a:=a) (b:=- g x-b) O4 O4;grind
 ·right;have:=Rat.mul_nonneg (a:=- f x-a) (b:=g x) O4 O4;have:=Rat.mul_nonneg (a:=a) (b:=g x-b) O4 O4;grind
 ·left;have:=Rat.mul_nonneg (a:=- f x-a) (b:=- g x) O4 O4;have:=Rat.mul_nonneg (a:=a) (b:=- g x-b) O4 O4;grind
theorem Away.lin{s t:Rat}{r d:Int}(hd:0<d)(h:(r:Rat)<d*s∨(d:Rat)*t<r):Away s t (Zb [-r,d]):=by
 have hd':(0:Rat)<(d:Rat):=by exact_mod_cast hd
 rcases h with h | h
 ·refine⟨d*s-r,O4,fun x h1 h2=> .inl ?_⟩
  rw [Zgd];have:=Rat.mul_nonneg (a:=(d:Rat)) (b:=x-s) O4 O4;grind
 ·refine⟨r-d*t,O4,fun x h1 h2=> .inr ?_⟩
  rw [Zgd];have:=Rat.mul_nonneg (a:=(d:Rat)) (b:=t-x) O4 O4;grind
theorem Away.sq(s t:Rat):Away s t (Zb [1,0,1]):=⟨1,O3,fun x _ _=>by
 left
 show(1:Rat)≤((1:Int):Rat)+x*(((0:Int):Rat)+x*(((1:Int):Rat)+x*0))
 have:0≤x*x:=by
  rcases(show 0≤x∨x<0 by grind)with h | h
  ·exact Rat.mul_nonneg h h
  ·have:=Rat.mul_nonneg (a:=-x) (b:=-x) O4 O4;grind
 push_cast;grind⟩
theorem Away.one(s t:Rat):Away s t (Zb [1]):=⟨1,O3,fun x _ _=>by left;rw [Qw];exact Rat.le_refl⟩
def cntP(P:Int→Prop)[DecidablePred P](m:Int):Nat→Int
 | 0=>0
 | n+1=>cntP P m n+(if P (m+n+1)then 1 else 0)
def eB(K C:Nat):Nat→Nat
 | 0=>0
 | n+1=>C+K*eB K C n
def eL(K C:Nat):Nat→Nat
 | 0=>0
 | n+1=>K*eL K C n+eB K C n
def eM(K C:Nat):Nat→Nat
 | 0=>0
 | n+1=>eL K C n+K*eM K C n
theorem Ij{a b:Nat}(h:a≤b):(a:Rat)≤(b:Rat):=by exact_mod_cast h
theorem Yal{c:Int}{C:Nat}(h:c.natAbs≤C):-(C:Rat)≤(c:Rat)∧(c:Rat)≤(C:Rat):=by
 have h1:((-(C:Int):Int):Rat)≤(c:Rat):=by exact_mod_cast (show -(C:Int)≤c by omega)
 have h2:(c:Rat)≤(((C:Nat):Int):Rat):=by exact_mod_cast (show c≤(C:Int) by omega)
 push_cast at h1 h2
 constructor<;>grind
theorem Zl8{c:Int}{p:List Int}{C:Nat}(h:∀i,(cf (c :: p) i).natAbs≤C):c.natAbs≤C∧∀i,(cf p i).natAbs≤C:=⟨h 0,fun i=>h (i+1)⟩
theorem Zko{K C:Nat} : ∀(n:Nat) (p:List Int),p.length≤n→(∀i,(cf p i).natAbs≤C)→∀x:Rat,-(K:Rat)≤x→x≤(K:Rat)→-(eB K C n:Rat)≤Zb p x∧Zb p x≤(eB K C n:Rat)
 | n,[],_,_,x,_,_=>by
  have h:(0:Rat)≤(eB K C n:Rat):=Ij (Nat.zero_le _)
  show -(eB K C n:Rat)≤0∧(0:Rat)≤(eB K C n:Rat)
  constructor<;>grind
 | 0,c :: p,hl,_,_,_,_=>absurd hl O5
 | n+1,c :: p,hl,hc,x,h1,h2=>by
  obtain⟨hc0,hc1⟩:=Zl8 hc
  obtain⟨a1,a2⟩:=Zko n p (by simpa using hl) hc1 x h1 h2
  obtain⟨b1,b2⟩:=Yal hc0
  have hK:(0:Rat)≤(K:Rat):=Ij (Nat.zero_le _)
  obtain⟨f1,f2⟩:=Ao h1 h2 a1 a2 hK
  have e:((eB K C (n+1):Nat):Rat)=(C:Rat)+(K:Rat)*(eB K C n:Rat):=by show((C+K*eB K C n:Nat):Rat)=_;push_cast;rfl
  rw [e,show Zb (c :: p) x=(c:Rat)+x*Zb p x from rfl]
  constructor<;>grind
theorem Zkn{K C:Nat} : ∀(n:Nat) (p:List Int),p.length≤n→(∀i,(cf p i).natAbs≤C)→Lip (-(K:Rat)) (K:Rat) (eL K C n:Rat) (Zb p)
 | n,[],_,_,x,y,_,hxy,_=>by
  have h:(0:Rat)≤(eL K C n:Rat):=Ij (Nat.zero_le _)
  have:=Rat.mul_nonneg (a:=(eL K C n:Rat)) (b:=y-x) h O4
  show(0:Rat)-0≤_∧(0:Rat)-0≤_
  constructor<;>grind
 | 0,c :: p,hl,_,_,_,_,_,_=>absurd hl O5
 | n+1,c :: p,hl,hc,x,y,h1,hxy,h2=>by
  obtain⟨hc0,hc1⟩:=Zl8 hc
  obtain⟨a1,a2⟩:=Zkn n p (by simpa using hl) hc1 x y h1 hxy h2
  obtain⟨b1,b2⟩:=Zko n p (by simpa using hl) hc1 y O4 h2
  have hK:(0:Rat)≤(K:Rat):=Ij (Nat.zero_le _)
  obtain⟨f1,f2⟩:=Ao (q:=x) (g:=Zb p x-Zb p y) (e:=(eL K C n:Rat)*(y-x)) h1 O4 O4 O4 hK
  have g1:=Rat.mul_nonneg (a:=(eB K C n:Rat)-Zb p y) (b:=y-x) O4 O4
  have g2:=Rat.mul_nonneg (a:=(eB K C n:Rat)+Zb p y) (b:=y-x) O4 O4
  have e:((eL K C (n+1):Nat):Rat)=(K:Rat)*(eL K C n:Rat)+(eB K C n:Rat):=by show((K*eL K C n+eB K C n:Nat):Rat)=_;push_cast;rfl
  rw [e,show Zb (c :: p) x=(c:Rat)+x*Zb p x from rfl,show Zb (c :: p) y=(c:Rat)+y*Zb p y from rfl]
  constructor<;>grind
theorem Zxt{K C:Nat} : ∀(n:Nat) (p:List Int),p.length≤n→(∀i,(cf p i).natAbs≤C)→Tay (-(K:Rat)) (K:Rat) (eM K C n:Rat) p
 | n,[],_,_,x,y,_,hxy,_=>by
  have h:(0:Rat)≤(eM K C n:Rat):=Ij (Nat.zero_le _)
  have h1:=Rat.mul_nonneg (a:=y-x) (b:=y-x) O4 O4
  have:=Rat.mul_nonneg h h1
  show -((eM K C n:Rat)*(y-x)*(y-x))≤(0:Rat)-0-(y-x)*0∧(0:Rat)-0-(y-x)*0≤(eM K C n:Rat)*(y-x)*(y-x)
  constructor<;>grind
 | 0,c :: p,hl,_,_,_,_,_,_=>absurd hl O5
 | n+1,c :: p,hl,hc,x,y,hs,hxy,ht=>by
  obtain⟨hc0,hc1⟩:=Zl8 hc
  obtain⟨a1,a2⟩:=Zxt n p (by simpa using hl) hc1 x y hs hxy ht
  obtain⟨b1,b2⟩:=Zkn n p (by simpa using hl) hc1 x y hs hxy ht
  have hK:(0:Rat)≤(K:Rat):=Ij (Nat.zero_le _)
  have hd:0≤y-x:=O4
  obtain⟨f1,f2⟩:=Ao (q:=x) (Q:=(K:Rat)) (g:=Zb p y-Zb p x-(y-x)*Zb (ld p) x) (e:=(eM K C n:Rat)*(y-x)*(y-x)) hs O4 a1 a2 hK
  have g1:=Rat.mul_nonneg (a:=y-x) (b:=(eL K C n:Rat)*(y-x)-(Zb p y-Zb p x)) hd O4
  have g2:=Rat.mul_nonneg (a:=y-x) (b:=(eL K C n:Rat)*(y-x)+(Zb p y-Zb p x)) hd O4
  have e:((eM K C (n+1):Nat):Rat)=(eL K C n:Rat)+(K:Rat)*(eM K C n:Rat):=by show((eL K C n+K*eM K C n:Nat):Rat)=_;push_cast;rfl
  rw [e,Zdk,show Zb (c :: p) y=(c:Rat)+y*Zb p y from rfl,show Zb (c :: p) x=(c:Rat)+x*Zb p x from rfl]
  constructor<;>grind
theorem Zqz{a b:List Int}{A:Nat}(ha:Tr a)(hb:Tr b)(la:2≤a.length)(lb:b.length+1=a.length)(hA:0<A)(na:∀i,(cf a i).natAbs≤A)(nb:∀i,(cf b i).natAbs≤A)(hc:∀q,Tr q→Ed q a→Ed q b→q.length≤1) :
  ∃(U V:List Int) (c:Int),c≠0∧U.length+2=a.length∧V.length+1=a.length∧(∀i,(cf U i).natAbs≤(2*(2*a.length-3)*A)^(2*a.length-4))∧(∀i,(cf V i).natAbs≤(2*(2*a.length-3)*A)^(2*a.length-4))∧
   ∀x,(c:Rat)=Zb U x*Zb a x+Zb V x*Zb b x:=by
 obtain⟨U,V,lU,lV,hne,bU,bV,hz⟩:=Zfi (a:=a) (b:=b) (p:=a.length-2) (q:=a.length-1) (lo:=1) hA na nb O O O
 have hne2:¬(tzl U=[]∧tzl V=[]):=fun⟨h1,h2⟩=>by
  rcases hne with⟨i,hi⟩ | ⟨i,hi⟩
  ·exact hi ((Mf U).1 h1 i)
  ·exact hi ((Mf V).1 h2 i)
 clear hne
 rw [show a.length-2+(a.length-1)=2*a.length-3 by omega]at bU bV
 rw [show 2*a.length-3-1=2*a.length-4 by omega]at bU bV
 have ha0:a≠[]:=fun e=>by rw [e]at la;simp at la
 have cR:∀i,cf (Nu (Qc U a) (Qc V b)) i=(ps U*ps a).c i+(ps V*ps b).c i:=fun i=>by
  rw [Li,Ga,Ga,PS.mul_c,PS.mul_c];rfl
 have rR:∀t,Zb (Nu (Qc U a) (Qc V b)) t=Zb U t*Zb a t+Zb V t*Zb b t:=fun t=>by rw [Yz,Zn,Zn]
 generalize Nu (Qc U a) (Qc V b)=R at cR rR
 have hR:∀t,Zb R t=(cf R 0:Rat):=fun t=>by
  rw [←Qw (cf R 0) t]
  refine Nx t _ _ fun i=>?_
  match i with
  | 0=>rfl
  | i+1=>rw [cR,hz (i+1) O,Yd O5]
 refine⟨U,V,cf R 0,fun h0=>?_,O,O,bU,bV,fun x=>by rw [←rR,hR]⟩
 have hz0:∀t,Zb U t*Zb a t+Zb V t*Zb b t=0:=fun t=>by rw [←rR,hR,h0];rfl
 obtain⟨g,P,Q,g1,g2,g3,g4⟩:=Zii _ a b ha hb (Nat.le_refl _)
 have hl:=hc g g1 g2 g3
 have hg:=(g2.len g1 ha ha0).1
 have hV:tzl V=[]:=by
  refine Classical.byContradiction fun hV=>?_
  match g,hg,hl,g1,g4 with
  | [c],_,_,g1,g4=>
   have hc0:c≠0:=g1.mem O5
   have hd:Ed a (tzl V):=⟨c,Nu (Qc P V) ((Qc Q U).map fun z=>(-1)*z),hc0,fun x=>by
    have h4:=g4 x
    rw [Qw]at h4
    rw [Ni,Yz,Zf,Zn,Zn,h4]
    have:=hz0 x
    have e:Zb V x*Zb b x=- (Zb U x*Zb a x):=O4
    have:(Zb P x*Zb a x+Zb Q x*Zb b x)*Zb V x=Zb P x*Zb V x*Zb a x+Zb Q x*(Zb V x*Zb b x):=O4
    rw [this,e];push_cast;grind⟩
   have:=(hd.len ha (Qo V) hV).2
   have:=Mu V
   omega
  | c :: d :: r,_,h9,_,_=>simp at h9
 have hU:tzl U=[]:=by
  refine Classical.byContradiction fun hU=>?_
  have:∀t,Zb a t=0:=Ht (v:=U) hU fun t=>by
   have:=hz0 t
   rw [Dl hV]at this
   grind
  exact ha.mem ha0 (Zr3 this _)
 exact hne2 ⟨hU,hV⟩
def Zrz(K A n e:Nat):Bool:=
 let X:=(2*(2*n-3)*A)^(2*n-4)
 let W:=eB K X (n-1)
 Nat.ble (2*(2*W+1)*(2*eL K A n)) (2^e) && Nat.ble (2*(2*W+1)*eM K A n) (2^e)
theorem big_or {a b:List Int} {K A n e:Nat} (hK:0<K) (hA:0<A) (ha:Tr a) (hb:Tr b) (hn:a.length=n) (h2:2≤n) (lb:b.length+1=a.length) (na:∀i,(cf a i).natAbs≤A) (nb:∀i,(cf b i).natAbs≤A) (hc:∀q,Tr q→Ed q a→Ed q b→q.length≤1)
  (x:Rat) (h1:-(K:Rat)≤x) (h3:x≤(K:Rat)):Big (1/((2*eB K ((2*(2*n-3)*A)^(2*n-4)) (n-1)+1:Nat):Rat)) x (Zb a)∨Big (1/((2*eB K ((2*(2*n-3)*A)^(2*n-4)) (n-1)+1:Nat):Rat)) x (Zb b):=by
 obtain⟨U,V,c,c0,lU,lV,bU,bV,hid⟩:=Zqz ha hb O lb hA na nb hc
 rw [hn]at bU bV
 generalize (2*(2*n-3)*A)^(2*n-4)=X at *
 obtain⟨u1,u2⟩:=Zko (n-1) U O bU x h1 h3
 obtain⟨v1,v2⟩:=Zko (n-1) V O bV x h1 h3
 generalize eB K X (n-1)=W at *
 have hW:(0:Rat)≤(W:Rat):=Ij (Nat.zero_le _)
 have hD:(0:Rat)<((2*W+1:Nat):Rat):=by
   have:(((0:Nat)):Rat)<((2*W+1:Nat):Rat):=by exact_mod_cast Nat.succ_pos _
   exact this
 have hDe:((2*W+1:Nat):Rat)=2*(W:Rat)+1:=by push_cast;rfl
 generalize hε:1/((2*W+1:Nat):Rat)=ε
 have hε2:ε*(2*(W:Rat)+1)=1:=by rw [←hε,hDe];rw [hDe]at hD;grind
 have hε0:0≤ε:=by
  rw [←hε]
  have:=Rat.inv_pos.2 hD
  rw [Rat.div_def];grind
 by_cases p1:Big ε x (Zb a)
 ·exact .inl p1
 ·by_cases p2:Big ε x (Zb b)
  ·exact .inr p2
  ·exfalso
   obtain⟨a1,a2⟩:=Zbq p1
   obtain⟨b1,b2⟩:=Zbq p2
   obtain⟨q1,q2⟩:=Ao u1 u2 a1 a2 hW
   obtain⟨r1,r2⟩:=Ao v1 v2 b1 b2 hW
   have h4:=hid x
   have h5:(c:Rat)≤-1∨1≤(c:Rat):=by
    rcases Int.lt_or_gt_of_ne c0 with h | h
    ·left;have:((c:Int):Rat)≤((-1:Int):Rat):=by exact_mod_cast (show c≤-1 by omega)
     rwa [show(((-1:Int)):Rat)=-1 from rfl]at this
    ·right;have:1≤c:=O
     exact_mod_cast this
   have hεp:0<ε:=by
    rcases(show ε=0∨0<ε by grind)with h | h
    ·rw [h]at hε2;grind
    ·exact h
   rcases h5 with h5 | h5<;>grind
theorem two_pow_pos(e:Nat):(0:Rat)<((2^e:Nat):Rat):=by
 have:0<2^e:=Nat.pow_pos O3
 exact_mod_cast this
theorem Yd6 {xs:List Int} {F K A n e:Nat} (hx:Tr xs) (h0:xs≠[]) (hC:Di F xs) (hK:0<K) (hA:0<A) (hn:(sqf F xs).length=n) (h2:2≤n) (na:∀i,(cf (sqf F xs) i).natAbs≤A) (nb:∀i,(cf (Yh (sqf F xs)) i).natAbs≤A) (hs:Zrz K A n e=true)
  {u v:Rat} (h1:-(K:Rat)≤u) (huv:u≤v) (h3:v≤(K:Rat)) (hh:v-u≤1/((2^e:Nat):Rat)) :
  Av ((Aw F xs).map Zb) u-Av ((Aw F xs).map Zb) v=crs (Zb (sqf F xs)) u v:=by
 have hok:=hC.1.2.2.1
 obtain⟨f1,f2,f3,f4,f5,f6⟩:=Oi (F:=F) hx h0 hok
 have htp:=Oh f2
 have hlp:=Oa (sqf F xs)
 have hd:Yh (sqf F xs)≠[]:=fun e=>by rw [e]at hlp;simp at hlp;omega
 have hpc:1≤Yk (Yh (sqf F xs)):=by
  have h1:=Cv htp hd
  have h2:=Nj (Yh (sqf F xs))
  omega
 have hpc':(1:Rat)≤(Yk (Yh (sqf F xs)):Rat):=by exact_mod_cast hpc
 have nbp:∀i,(cf (Zz (Yh (sqf F xs))) i).natAbs≤A:=fun i=>by
  have h5:=Hh (Yh (sqf F xs)) i
  have h6:=nb i
  rw [←h5,Int.natAbs_mul]at h6
  have:(cf (Zz (Yh (sqf F xs))) i).natAbs*1≤(cf (Zz (Yh (sqf F xs))) i).natAbs*(Yk (Yh (sqf F xs))).natAbs:=Nat.mul_le_mul_left _ O
  omega
 have hcop:∀q,Tr q→Ed q (sqf F xs)→Ed q (Zz (Yh (sqf F xs)))→q.length≤1:=fun q hq a b=>Zdd hx h0 hok hq a (b.sim (Qd htp))
 have hlb:(Zz (Yh (sqf F xs))).length+1=(sqf F xs).length:=by rw [Zq];omega
 have hbig:=big_or (e:=e) hK hA f2 (Yy htp) hn h2 hlb na nbp hcop
 unfold Zrz at hs
 simp only [Bool.and_eq_true,Nat.ble_eq]at hs
 obtain⟨s1,s2⟩:=hs
 generalize (2*(2*n-3)*A)^(2*n-4)=X at *
 generalize eB K X (n-1)=W at *
 have hD:(0:Rat)<((2*W+1:Nat):Rat):=by
   have:(((0:Nat)):Rat)<((2*W+1:Nat):Rat):=by exact_mod_cast Nat.succ_pos _
   exact this
 have hP:=two_pow_pos e
 have s1':=Ij s1
 have s2':=Ij s2
 have c1:((2*(2*W+1)*(2*eL K A n):Nat):Rat)=2*((2*W+1:Nat):Rat)*(2*(eL K A n:Rat)):=by push_cast;rfl
 have c2:((2*(2*W+1)*eM K A n:Nat):Rat)=2*((2*W+1:Nat):Rat)*(eM K A n:Rat):=by push_cast;rfl
 rw [c1]at s1'
 rw [c2]at s2'
 have hi:=Rat.inv_pos.2 hD
 have hj:=Rat.inv_pos.2 hP
 have hii:((2*W+1:Nat):Rat)*((2*W+1:Nat):Rat)⁻¹=1:=O4
 have hjj:((2^e:Nat):Rat)*((2^e:Nat):Rat)⁻¹=1:=O4
 rw [Rat.div_def,Rat.one_mul]at hh
 simp only [Rat.div_def,Rat.one_mul]at hbig
 generalize ((2*W+1:Nat):Rat)=D at *
 generalize ((2^e:Nat):Rat)=P at *
 have hLn:(0:Rat)≤(eL K A n:Rat):=Ij (Nat.zero_le _)
 have hMn:(0:Rat)≤(eM K A n:Rat):=Ij (Nat.zero_le _)
 refine Zfg (s:=-(K:Rat)) (t:=(K:Rat)) (κ:=(Yk (Yh (sqf F xs)):Rat)) (ε:=D⁻¹) (L:=(eL K A n:Rat)) (L':=(eL K A n:Rat)) (M:=(eM K A n:Rat)) (h:=P⁻¹) f2 (Yy htp) hC.2.2 O4 (fun x=>?_) hi hbig hLn (Zkn n _ O na) hLn (Zkn n _ O nbp) hMn (Zxt n _ O na) hj ?_ ?_ h1 huv h3 hh
 ·rw [←Mr,←Zf]
  exact Nx x _ _ fun i=>by rw [Xw,Int.mul_comm,Hh]
 ·-- P⁻¹ * (2 L) ≤ D⁻¹ / 2
  have t1:=Rat.mul_nonneg (a:=P⁻¹*D⁻¹) (b:=P-2*D*(2*(eL K A n:Rat))) (by have:=Rat.mul_pos hj hi;grind) O4
  have e1:P⁻¹*D⁻¹*(P-2*D*(2*(eL K A n:Rat)))=D⁻¹*(P*P⁻¹)-2*P⁻¹*(D*D⁻¹)*(2*(eL K A n:Rat)):=O4
  rw [e1,hii,hjj]at t1
  grind
 ·have t1:=Rat.mul_nonneg (a:=P⁻¹*D⁻¹) (b:=P-2*D*(eM K A n:Rat)) (by have:=Rat.mul_pos hj hi;grind) O4
  have e1:P⁻¹*D⁻¹*(P-2*D*(eM K A n:Rat))=D⁻¹*(P*P⁻¹)-2*P⁻¹*(D*D⁻¹)*(eM K A n:Rat):=O4
  rw [e1,hii,hjj]at t1
  have t2:=Rat.mul_nonneg (a:=(Yk (Yh (sqf F xs)):Rat)-1) (b:=D⁻¹) O4 O4
  grind
theorem Zid{xs:List Int}{F:Nat}(hx:Tr xs)(h0:xs≠[])(hC:Di F xs){s t:Rat}(hst:s≤t):Av ((Aw F xs).map Zb) t≤Av ((Aw F xs).map Zb) s:=by
 obtain⟨h,h1,h2⟩:=Zic hx h0 hC s t
 have hc:∀f u v,0≤crs f u v:=fun f u v=>by unfold crs;split<;>decide
 have key:∀n:Nat,∀y,s≤y→y≤t→y-s≤(n:Rat)*h→Av ((Aw F xs).map Zb) y≤Av ((Aw F xs).map Zb) s:=fun n=>by
  induction n with
  | zero=>
    intro y h3 h4 h5;have:y=s:=by simp at h5;grind
    rw [this];exact Int.le_refl _
  | succ n ih=>
   intro y h3 h4 h5
   have h6:((n+1:Nat):Rat)*h=(n:Rat)*h+h:=by push_cast;grind
   rcases(show y-s≤(n:Rat)*h∨(n:Rat)*h<y-s by grind)with h7 | h7
   ·exact ih y h3 h4 h7
   ·have h8:(0:Rat)≤(n:Rat)*h:=Rat.mul_nonneg (by exact_mod_cast Nat.zero_le n) O4
    rcases(show s≤y-h∨y-h<s by grind)with h9 | h9
    ·have a:=ih (y-h) h9 O4 O4
     have b:=h2 (y-h) y h9 O4 h4 O4
     have c:=hc (Zb (sqf F xs)) (y-h) y
     omega
    ·have b:=h2 s y O4 h3 h4 O4
     have c:=hc (Zb (sqf F xs)) s y
     omega
 have h3:∃n:Nat,t-s≤(n:Rat)*h:=by
  have h4:0<h⁻¹:=Rat.inv_pos.2 h1
  refine⟨((t-s)*h⁻¹).ceil.toNat,?_⟩
  have h5:=@Rat.le_ceil ((t-s)*h⁻¹)
  have h6:((((t-s)*h⁻¹).ceil:Int):Rat)≤((((t-s)*h⁻¹).ceil.toNat:Nat):Rat):=by
   have:((t-s)*h⁻¹).ceil≤((((t-s)*h⁻¹).ceil.toNat:Nat):Int):=Int.self_le_toNat _
   exact_mod_cast this
  have h7:=Rat.mul_le_mul_of_nonneg_right (Rat.le_trans h5 h6) (show 0≤h by grind)
  have h8:(t-s)*h⁻¹*h=t-s:=O4
  grind
 obtain⟨n,hn⟩:=h3
 exact key n t hst O4 hn
def qv(z:R2):Rat:=(z.1:Rat)/(z.2:Rat)
theorem Zo1{x y X Y g:Nat}(hg:g=Nat.gcd x y)(hy:0<y)(hY:0<Y)(h:x*Y=X*y):y/g∣Y∧x/g≤X:=by
 have hg0:0<g:=by rw [hg];exact Nat.gcd_pos_of_pos_right _ hy
 have hc:Nat.Coprime (x/g) (y/g):=by rw [hg];exact Nat.coprime_div_gcd_div_gcd (by rw [←hg];exact hg0)
 have hx':x/g*g=x:=Nat.div_mul_cancel (by rw [hg];exact Nat.gcd_dvd_left _ _)
 have hy':y/g*g=y:=Nat.div_mul_cancel (by rw [hg];exact Nat.gcd_dvd_right _ _)
 have h2:x/g*Y=X*(y/g):=by
  refine Nat.eq_of_mul_eq_mul_right hg0 ?_
  have e1:x/g*Y*g=x/g*g*Y:=O4
  have e2:X*(y/g)*g=X*(y/g*g):=O4
  rw [e1,e2,hx',hy',h]
 have hd:y/g∣Y:=hc.symm.dvd_of_dvd_mul_left (by rw [h2];exact Nat.dvd_mul_left _ _)
 refine⟨hd,?_⟩
 obtain⟨k,hk⟩:=hd
 have hk0:0<k:=Nat.pos_of_ne_zero fun e=>by rw [e,Nat.mul_zero]at hk;omega
 have hyg:0<y/g:=Nat.pos_of_ne_zero fun e=>by rw [e,Nat.zero_mul]at hy';omega
 rw [hk]at h2
 have h3:x/g*k=X:=by
  refine Nat.eq_of_mul_eq_mul_right hyg ?_
  have:x/g*k*(y/g)=x/g*(y/g*k):=O4
  rw [this,h2]
 rw [←h3]
 exact Nat.le_mul_of_pos_right _ hk0
theorem Zlc{x y X Y:Int}(hy:0<y)(hY:0<Y)(h:x*Y=X*y){B:Nat}(hX:bl X.natAbs≤B)(hYb:bl Y.natAbs≤B)(hB:B≤65536) :
  ¬Mv x y∧Hs x y∣Y∧0<Hs x y∧bl (Gl x y).natAbs≤B∧bl (Hs x y).natAbs≤B∧Gl x y*y=x*Hs x y:=by
 have hg:Nt x y=(Nat.gcd x.natAbs y.natAbs:Int):=by rw [Yc2 O];rfl
 have hn:x.natAbs*Y.natAbs=X.natAbs*y.natAbs:=by rw [←Int.natAbs_mul,←Int.natAbs_mul,h]
 obtain⟨d1,d2⟩:=Zo1 (g:=Nat.gcd x.natAbs y.natAbs) rfl (by omega:0<y.natAbs) (by omega:0<Y.natAbs) hn
 have e1:(y/Nt x y).natAbs=y.natAbs/Nat.gcd x.natAbs y.natAbs:=by
  rw [Int.natAbs_ediv_of_dvd (Zhs x y),Zas]
 have e2:(x/Nt x y).natAbs=x.natAbs/Nat.gcd x.natAbs y.natAbs:=by
  rw [Int.natAbs_ediv_of_dvd (Zn8 x y),Zas]
 have b1:bl (y/Nt x y).natAbs≤B:=Nat.le_trans (Pb (by rw [e1];exact Nat.le_of_dvd O d1)) hYb
 have b2:bl (x/Nt x y).natAbs≤B:=Nat.le_trans (Pb (by rw [e2];exact d2)) hX
 have hf:¬Mv x y:=fun h=>by unfold Mv at h;omega
 obtain⟨n1,n2,-⟩:=Bx hf
 refine⟨hf,?_,Zqb hf hy,by rw [n1];exact b2,by rw [n2];exact b1,?_⟩
 ·rw [n2]
  refine Int.natAbs_dvd_natAbs.1 ?_
  rw [e1];exact d1
 ·rw [n1,n2];exact Zzf x y
structure En (K Q:Nat) (d:Nat) (z:R2):Prop where
 pos:0<z.2
 dv:z.2∣((Q*2^d:Nat):Int)
 lo:-(K:Rat)≤qv z
 hi:qv z≤(K:Rat)
theorem En.up{K Q d:Nat}{z:R2}(h:En K Q d z):En K Q (d+1) z:=by
 obtain⟨h1,h2,h3,h4⟩:=h
 refine⟨h1,?_,h3,h4⟩
 have:((Q*2^(d+1):Nat):Int)=((Q*2^d:Nat):Int)*2:=by rw [Nat.pow_succ];push_cast;grind
 rw [this];exact Int.dvd_trans h2 (Int.dvd_mul_right _ _)
theorem canc{N p s Y X D:Int}(hp:p≠0)(h1:N*p=s*D)(h2:s*Y=X*p):N*Y=X*D:=by
 refine Int.eq_of_mul_eq_mul_right hp ?_
 have e1:N*Y*p=(N*p)*Y:=O4
 have e2:X*D*p=(X*p)*D:=O4
 rw [e1,e2,h1,←h2];grind
theorem Kt{z:Int}(h:0<z):(0:Rat)<(z:Rat):=by exact_mod_cast h
theorem Za9{n m:Nat}(h:n<2^m):bl n≤m:=(Xt m n).2 h
theorem mid_en{K Q d B:Nat}{a b:R2}(ha:En K Q d a)(hb:En K Q d b)(hQ:0<Q)(hB1:Q*2^(d+1)<2^B)(hB2:2*K*(Q*2^d)<2^B)(hB:B≤65536) :
  Zb9 a b∧En K Q (d+1) (Qm a b)∧qv (Qm a b)=(qv a+qv b)/2∧bl (Qm a b).1.natAbs≤B∧bl (Qm a b).2.natAbs≤B:=by
 obtain⟨pa,⟨ka,da⟩,la,ua⟩:=ha
 obtain⟨pb,⟨kb,db⟩,lb,ub⟩:=hb
 generalize hY:((Q*2^d:Nat):Int)=Y at *
 have hQd:0<Q*2^d:=Nat.mul_pos hQ (Nat.pow_pos O3)
 have hY0:0<Y:=by rw [←hY];exact_mod_cast hQd
 have rpa:=Kt pa
 have rpb:=Kt pb
 have rY:=Kt hY0
 have hpp:0<a.2*b.2:=Int.mul_pos pa pb
 have hsum:(a.1*b.2+b.1*a.2)*Y=(a.1*ka+b.1*kb)*(a.2*b.2):=by
  have e1:(a.1*ka+b.1*kb)*(a.2*b.2)=a.1*b.2*(a.2*ka)+b.1*a.2*(b.2*kb):=O4
  rw [e1,←da,←db];grind
 have hqa:(a.1:Rat)*ka=qv a*Y:=by
  unfold qv;have:(Y:Rat)=(a.2:Rat)*ka:=by rw [da];push_cast;rfl
  rw [this];grind
 have hqb:(b.1:Rat)*kb=qv b*Y:=by
  unfold qv;have:(Y:Rat)=(b.2:Rat)*kb:=by rw [db];push_cast;rfl
  rw [this];grind
 have hX:((a.1*ka+b.1*kb:Int):Rat)=(qv a+qv b)*Y:=by push_cast;rw [hqa,hqb];grind
 have hXb:(a.1*ka+b.1*kb).natAbs≤2*K*(Q*2^d):=by
  have hKn:((2*K*(Q*2^d):Nat):Rat)=2*(K:Rat)*(Y:Rat):=by rw [←hY];push_cast;grind
  have t1:=Rat.mul_nonneg (a:=2*(K:Rat)-(qv a+qv b)) (b:=(Y:Rat)) O4 O4
  have t2:=Rat.mul_nonneg (a:=2*(K:Rat)+(qv a+qv b)) (b:=(Y:Rat)) O4 O4
  have u1:((a.1*ka+b.1*kb:Int):Rat)≤(((2*K*(Q*2^d):Nat):Int):Rat):=by rw [hX];push_cast at hKn ⊢;grind
  have u2:((-((2*K*(Q*2^d):Nat):Int):Int):Rat)≤((a.1*ka+b.1*kb:Int):Rat):=by rw [hX];push_cast at hKn ⊢;grind
  have v1:a.1*ka+b.1*kb≤((2*K*(Q*2^d):Nat):Int):=by exact_mod_cast u1
  have v2:-((2*K*(Q*2^d):Nat):Int)≤a.1*ka+b.1*kb:=by exact_mod_cast u2
  omega
 have hYb:Y.natAbs=Q*2^d:=by rw [←hY];rfl
 have hB3:Q*2^(d+1)=2*(Q*2^d):=by rw [Nat.pow_succ];grind
 have hbY:bl Y.natAbs≤B:=Za9 (by rw [hYb];omega)
 have hbX:bl (a.1*ka+b.1*kb).natAbs≤B:=Za9 O
 obtain⟨f1,f2,f3,f4,f5,f6⟩:=Zlc hpp hY0 hsum hbX hbY hB
 have hv1:=canc (Int.ne_of_gt hpp) f6 hsum
 have hbY2:bl (2*Y).natAbs≤B:=Za9 (by rw [Int.natAbs_mul,hYb];show 2*(Q*2^d)<_;omega)
 have hs2:Gl (a.1*b.2+b.1*a.2) (a.2*b.2)*1*(2*Y)=(a.1*ka+b.1*kb)*(Hs (a.1*b.2+b.1*a.2) (a.2*b.2)*2):=by
  rw [Int.mul_one]
  have e1:Gl (a.1*b.2+b.1*a.2) (a.2*b.2)*(2*Y)=2*(Gl (a.1*b.2+b.1*a.2) (a.2*b.2)*Y):=O4
  rw [e1,hv1];grind
 have hp2:0<Hs (a.1*b.2+b.1*a.2) (a.2*b.2)*2:=O
 obtain⟨g1,g2,g3,g4,g5,g6⟩:=Zlc hp2 (by omega:0<2*Y) hs2 hbX hbY2 hB
 have hv2:=canc (Int.ne_of_gt hp2) g6 hs2
 have hm1:(Qm a b).1=Gl (Gl (a.1*b.2+b.1*a.2) (a.2*b.2)*1) (Hs (a.1*b.2+b.1*a.2) (a.2*b.2)*2):=rfl
 have hm2:(Qm a b).2=Hs (Gl (a.1*b.2+b.1*a.2) (a.2*b.2)*1) (Hs (a.1*b.2+b.1*a.2) (a.2*b.2)*2):=rfl
 rw [←hm1,←hm2]at hv2
 rw [←hm2]at g2 g3 g5
 rw [←hm1]at g4
 have hq:qv (Qm a b)=(qv a+qv b)/2:=by
  have h1:(((Qm a b).1:Int):Rat)*(2*(Y:Rat))=((a.1*ka+b.1*kb:Int):Rat)*(((Qm a b).2:Int):Rat):=by
   have:(((Qm a b).1*(2*Y):Int):Rat)=(((a.1*ka+b.1*kb)*(Qm a b).2:Int):Rat):=by rw [hv2]
   push_cast at this ⊢;grind
  rw [hX]at h1
  have rd:=Kt g3
  unfold qv at *
  generalize (((Qm a b).1:Int):Rat)=n at *
  generalize (((Qm a b).2:Int):Rat)=m at *
  generalize (a.1:Rat)/(a.2:Rat)=p at *
  generalize (b.1:Rat)/(b.2:Rat)=q at *
  generalize (Y:Rat)=y at *
  grind
 refine⟨⟨f1,g1⟩,⟨g3,?_,by rw [hq];grind,by rw [hq];grind⟩,hq,g4,g5⟩
 have e:((Q*2^(d+1):Nat):Int)=2*Y:=by rw [hB3,←hY];push_cast;rfl
 rw [e];exact g2
def Ch(F:Nat)(xs:List Int)(x:Rat):Int:=Av ((Aw F xs).map Zb) x
theorem cvc_v{F:Nat}{xs:List Int}{z:R2}(h:0<z.2):cvc F xs z=Ch F xs (qv z):=Ydv h
def Sqn(P:R2→R2→Prop)(hi:Rat):Rat→List (R2×R2)→Prop
 | lo,[]=>lo≤hi
 | lo,c :: r=>lo≤qv c.1∧qv c.1<qv c.2∧P c.1 c.2∧Sqn P hi (qv c.2) r
theorem Sqn.le{P:R2→R2→Prop}{hi:Rat} : ∀{lo:Rat} {l:List (R2×R2)},Sqn P hi lo l→lo≤hi
 | lo,[],h=>h
 | lo,c :: r,h=>by have:=Sqn.le h.2.2.2;have:=h.1;have:=h.2.1;grind
theorem Sqn.low{P:R2→R2→Prop}{hi:Rat}{lo lo':Rat}(h1:lo'≤lo):∀{l:List (R2×R2)},Sqn P hi lo l→Sqn P hi lo' l
 | [],h=>by have h:lo≤hi:=h;show lo'≤hi;grind
 | c :: r,h=>⟨by have:=h.1;grind,h.2⟩
theorem Sqn.app{P:R2→R2→Prop}{mid hi:Rat}{l2:List (R2×R2)}(h2:Sqn P hi mid l2):∀{lo:Rat} {l1:List (R2×R2)},Sqn P mid lo l1→Sqn P hi lo (l1 ++ l2)
 | lo,[],h=>h2.low h
 | lo,c :: r,h=>⟨h.1,h.2.1,h.2.2.1,Sqn.app h2 h.2.2.2⟩
theorem Zkw{a:R2}{K:Nat}(ha:0<a.2)(h:a.1.natAbs≤K):-(K:Rat)≤qv a∧qv a≤(K:Rat):=by
 obtain⟨c1,c2⟩:=Yal h
 have ra:(1:Rat)≤(a.2:Rat):=by exact_mod_cast (show 1≤a.2 by omega)
 have hK:(0:Rat)≤(K:Rat):=Ij (Nat.zero_le _)
 have hi:=Rat.inv_pos.2 (show 0<(a.2:Rat) by grind)
 have hm:(a.2:Rat)*(a.2:Rat)⁻¹=1:=O4
 unfold qv;rw [Rat.div_def]
 have t1:=Rat.mul_nonneg (a:=(a.2:Rat)⁻¹) (b:=(K:Rat)*a.2-a.1) O4 (by have:=Rat.mul_nonneg (a:=(K:Rat)) (b:=(a.2:Rat)-1) hK O4;grind)
 have t2:=Rat.mul_nonneg (a:=(a.2:Rat)⁻¹) (b:=(K:Rat)*a.2+a.1) O4 (by have:=Rat.mul_nonneg (a:=(K:Rat)) (b:=(a.2:Rat)-1) hK O4;grind)
 have e1:(a.2:Rat)⁻¹*((K:Rat)*a.2-a.1)=(K:Rat)*(a.2*(a.2:Rat)⁻¹)-a.1*(a.2:Rat)⁻¹:=O4
 have e2:(a.2:Rat)⁻¹*((K:Rat)*a.2+a.1)=(K:Rat)*(a.2*(a.2:Rat)⁻¹)+a.1*(a.2:Rat)⁻¹:=O4
 rw [e1,hm]at t1
 rw [e2,hm]at t2
 constructor<;>grind
theorem Zae{a:R2}{n:Nat}(ha:0<a.2)(h1:bl a.1.natAbs≤n)(h2:bl a.2.natAbs≤n)(hn:n≤65536) :
  ¬Mv a.1 a.2∧0<(slow a).2∧bl (slow a).1.natAbs≤n∧bl (slow a).2.natAbs≤n∧qv (slow a)=qv a:=by
 obtain⟨f1,f2,f3,f4,f5,f6⟩:=Zlc (x:=a.1) (y:=a.2) (X:=a.1) (Y:=a.2) ha ha rfl h1 h2 hn
 refine⟨f1,f3,f4,f5,?_⟩
 have r1:=Kt ha
 have r2:=Kt f3
 have h6:((Gl a.1 a.2:Int):Rat)*(a.2:Rat)=(a.1:Rat)*((Hs a.1 a.2:Int):Rat):=by exact_mod_cast f6
 show((Gl a.1 a.2:Int):Rat)/((Hs a.1 a.2:Int):Rat)=(a.1:Rat)/(a.2:Rat)
 generalize ((Gl a.1 a.2:Int):Rat)=N at *
 generalize ((Hs a.1 a.2:Int):Rat)=D at *
 generalize (a.1:Rat)=x at *
 generalize (a.2:Rat)=y at *
 have:N/D*(D*y)=x/y*(D*y):=by
  have e1:N/D*(D*y)=N*y:=O4
  have e2:x/y*(D*y)=x*D:=O4
  rw [e1,e2,h6]
 have hp:=Rat.mul_pos r2 r1
 have e3:N/D=N/D*(D*y)*(D*y)⁻¹:=O4
 have e4:x/y=x/y*(D*y)*(D*y)⁻¹:=O4
 rw [e3,this,←e4]
theorem sep_of {xs:List Int} {F K A e:Nat} (hx:Tr xs) (h0:xs≠[]) (hC:Di F xs) (hK:0<K) (hA:0<A) (na:∀i,(cf (sqf F xs) i).natAbs≤A) (nb:∀i,(cf (Yh (sqf F xs)) i).natAbs≤A)
  (hs:2≤(sqf F xs).length→Zrz K A (sqf F xs).length e=true) (u v:Rat) (h1:-(K:Rat)≤u) (huv:u≤v) (h3:v≤(K:Rat)) (hh:v-u≤1/((2^e:Nat):Rat)):Ch F xs u-Ch F xs v≤1:=by
 by_cases h2:2≤(sqf F xs).length
 ·have h:=Yd6 hx h0 hC hK hA rfl h2 na nb (hs h2) h1 huv h3 hh
  show Av _ u-Av _ v≤1
  rw [h];unfold crs;split<;>decide
 ·have hl:=Oa (sqf F xs)
  have hd:Yh (sqf F xs)=[]:=List.eq_nil_of_length_eq_zero O
  have hc:Aw F xs=[sqf F xs]:=by unfold Aw;rw [hd,Zu3,Eu]
  unfold Ch Av
  rw [hc]
  have r1:=Ze5 (([Zb (sqf F xs)]).map fun g=>Gd (g u))
  have r2:=Ze5 (([Zb (sqf F xs)]).map fun g=>Gd (g v))
  simp only [List.map_cons,List.map_nil,List.length_cons,List.length_nil]at r1 r2 ⊢
  omega
theorem Sqn.mem{P:R2→R2→Prop}{hi:Rat} : ∀{lo:Rat} {l:List (R2×R2)},Sqn P hi lo l→∀c∈l,P c.1 c.2
 | _,[],_,c,hc=>by cases hc
 | lo,d :: r,h,c,hc=>by
  rcases List.mem_cons.1 hc with rfl | hc
  ·exact h.2.2.1
  ·exact Sqn.mem h.2.2.2 c hc
theorem en_bl{K Q d B:Nat}{z:R2}(h:En K Q d z)(hQ:0<Q)(h1:Q*2^d<2^B)(h2:K*(Q*2^d)<2^B):bl z.1.natAbs≤B∧bl z.2.natAbs≤B:=by
 obtain⟨hp,hd,hl,hu⟩:=h
 have hpos:0<Q*2^d:=Nat.mul_pos hQ (Nat.pow_pos O3)
 have hz2:z.2.natAbs≤Q*2^d:=by
  have:=Int.natAbs_dvd_natAbs.2 hd
  rw [Int.natAbs_natCast]at this
  exact Nat.le_of_dvd hpos this
 have hz1:z.1.natAbs≤K*z.2.natAbs:=by
  have r:=Kt hp
  have e:(z.1:Rat)=qv z*z.2:=by unfold qv;grind
  have t1:=Rat.mul_nonneg (a:=(K:Rat)-qv z) (b:=(z.2:Rat)) O4 O4
  have t2:=Rat.mul_nonneg (a:=(K:Rat)+qv z) (b:=(z.2:Rat)) O4 O4
  have hn:((K*z.2.natAbs:Nat):Int)=(K:Int)*z.2:=by push_cast;rw [Int.natAbs_of_nonneg O]
  have u1:((z.1:Int):Rat)≤(((K:Int)*z.2:Int):Rat):=by push_cast;grind
  have u2:((-((K:Int)*z.2):Int):Rat)≤((z.1:Int):Rat):=by push_cast;grind
  have v1:z.1≤(K:Int)*z.2:=by exact_mod_cast u1
  have v2:-((K:Int)*z.2)≤z.1:=by exact_mod_cast u2
  omega
 have hz3:K*z.2.natAbs≤K*(Q*2^d):=Nat.mul_le_mul_left _ hz2
 exact⟨Za9 O,Za9 O⟩
theorem Zz0{n e w Q B:Nat}{z:R2}(h:En (2^n) Q (e+w) z)(hQ:0<Q)(hQ1:Q<2^(2*n))(hB:3*n+1+(e+w)≤B):bl z.1.natAbs≤B∧bl z.2.natAbs≤B:=by
 have hpow:∀m,m≤B→2^m≤2^B:=fun m h=>Nat.pow_le_pow_right O3 h
 have hPP:0<2^(e+w):=Nat.pow_pos O3
 have h1:Q*2^(e+w)<2^(2*n)*2^(e+w):=Nat.mul_lt_mul_of_pos_right hQ1 hPP
 have h2:2^n*(Q*2^(e+w))<2^n*(2^(2*n)*2^(e+w)):=Nat.mul_lt_mul_of_pos_left h1 (Nat.pow_pos O3)
 have e1:2^(2*n)*2^(e+w)=2^(2*n+(e+w)):=(Nat.pow_add _ _ _).symm
 have e2:2^n*(2^(2*n)*2^(e+w))=2^(n+(2*n+(e+w))):=by rw [e1,←Nat.pow_add]
 rw [e1]at h1
 rw [e2]at h2
 exact en_bl h hQ (Nat.lt_of_lt_of_le h1 (hpow _ O)) (Nat.lt_of_lt_of_le h2 (hpow _ O))
theorem Ed.const{g a:List Int}(h:Ed g a)(hg:Tr g)(ha:Tr a)(h0:a≠[])(hl:g.length=a.length):∃k c:Int,k≠0∧c≠0∧∀x:Rat,(k:Rat)*Zb a x=(c:Rat)*Zb g x:=by
 obtain⟨k,s,hk,h⟩:=h
 obtain⟨a1,a2,a3⟩:=Zqs hk hg ha h0 h
 have hl1:=List.length_pos_iff.2 a2
 match hs:tzl s,hl1,a3 with
 | [c],_,_=>
  have hc:c≠0:=by have:=(Qo s).mem a2;rw [hs]at this;exact this
  refine⟨k,c,hk,hc,fun x=>?_⟩
  rw [h x,←Ni s,hs,Qw]
 | c :: d :: r,_,h9=>simp at h9;omega
theorem Ed.dv{g a:List Int}(h:Ed g a):Dv g a:=by
 obtain⟨k,s,hk,h⟩:=h
 refine⟨k,s,hk,fun t=>?_⟩
 have:=Nw (p:=a.map fun c=>k*c) (q:=Xl s g) (fun x=>by rw [Zf,Yg];exact h x) t
 rw [Xw,Ly]at this
 exact this
theorem ed_cop{t u w s:List Int}{k:Int}(hk:k≠0)(ht:Tr t)(hw:Tr w)(t0:t≠[])(hc:∀d,Tr d→Ed d t→Ed d w→d.length≤1)(h:∀x:Rat,(k:Rat)*(Zb u x*Zb w x)=Zb s x*Zb t x):Ed t u:=by
 obtain⟨g,A,B,hg,g1,g2,hb⟩:=Zii w.length t w ht hw (Nat.le_refl _)
 have hl:=hc g hg g1 g2
 have hgn:=(g1.len hg ht t0).1
 match hgg:g,hl,hgn with
 | [c],_,_=>
  have hc0:c≠0:=by have:=hg.mem O5;exact this
  refine⟨k*c,Nu ((Xl A u).map fun a=>k*a) (Xl B s),Int.mul_ne_zero hk hc0,fun x=>?_⟩
  rw [Yz,Zf,Yg,Yg]
  have h1:=hb x
  rw [Qw]at h1
  have h2:=h x
  push_cast
  rw [show(k:Rat)*c*Zb u x=k*(Zb u x*(c:Rat)) by grind,h1]
  have h3:(k:Rat)*(Zb u x*(Zb A x*Zb t x+Zb B x*Zb w x))=k*Zb A x*Zb u x*Zb t x+Zb B x*(k*(Zb u x*Zb w x)):=O4
  rw [h3,h2];grind
 | c :: d :: r,h9,_=>simp at h9
def Nh(F:Nat)(p:List Int):List Int:=Na F (Xb p) (Yh (Xb p))
def Bc(F:Nat)(p:List Int):Prop:=eok F (gA (Xb p) (Yh (Xb p))) (gB (Xb p) (Yh (Xb p)))
theorem Ob{F:Nat}{p:List Int}(hp:Tr p)(h0:p≠[])(hok:Bc F p):Tr (Nh F p)∧Nh F p≠[]∧Xb (Nh F p)=Nh F p∧Xb p=Xl (sqf F p) (Nh F p)∧(sqf F p).length+(Nh F p).length=p.length+1:=by
 obtain⟨f1,f2,f3,f4,f5,f6⟩:=Oi (F:=F) hp h0 hok
 have ht:Tr (Xb p):=Oy (Yy hp)
 have hd:Tr (Yh (Xb p)):=Oh ht
 have hg:=Zc8 (F:=F) ht hd
 have hl:=Po f2 hg f3 f5
 rw [←f4,Qq hp]at hl
 have l1:=List.length_pos_iff.2 f3
 have l2:=List.length_pos_iff.2 f5
 refine⟨hg,f5,Zqa hg (Zhf ht hd f5) (Da (Zol F (Zgr ht hd) (Zgq ht hd)) (fun e=>f5 (by unfold Na;rw [e];rfl))),f4,?_⟩
 unfold Nh;omega
theorem Yca{a b h:List Int}(hh:Tr h)(h0:h≠[]){k m:Int}(e:∀x:Rat,(k:Rat)*(Zb a x*Zb h x)=(m:Rat)*(Zb b x*Zb h x))(x:Rat):(k:Rat)*Zb a x=(m:Rat)*Zb b x:=by
 have hz:=Ht (v:=h) (f:=Nu (a.map fun c=>k*c) (b.map fun c=>(-m)*c)) (by rw [Zac hh];exact h0) (fun x=>by
  rw [Yz,Zf,Zf];have:=e x;push_cast;grind) x
 rw [Yz,Zf,Zf]at hz
 push_cast at hz;grind
theorem Zsk{F:Nat}{p:List Int}(hp:Tr p)(h0:p≠[])(hok:Bc F p)(hok2:Bc F (Nh F p)):Ed (sqf F (Nh F p)) (sqf F p):=by
 obtain⟨a1,a2,a3,a4,a5⟩:=Ob hp h0 hok
 obtain⟨b1,b2,b3,b4,b5⟩:=Ob a1 a2 hok2
 obtain⟨-,u2,u3,-,-,-⟩:=Oi (F:=F) hp h0 hok
 obtain⟨-,t2,t3,-,-,-⟩:=Oi (F:=F) a1 a2 hok2
 have ht:Tr (Xb p):=Oy (Yy hp)
 have e1:Ed (Nh F p) (Yh (Xb p)):=(Zbm ht (Oh ht) hok).2.ed
 have e2:Ed (Nh F (Nh F p)) (Yh (Nh F p)):=by
  have:=(Zbm (F:=F) (p:=Xb (Nh F p)) (q:=Yh (Xb (Nh F p))) (by rw [a3];exact a1) (Oh (by rw [a3];exact a1)) hok2).2.ed
  have h9:Nh F (Nh F p)=Na F (Xb (Nh F p)) (Yh (Xb (Nh F p))):=rfl
  rw [←h9,a3]at this
  exact this
 have hgr:∀d,Tr d→Ed d (Nh F p)→Ed d (Yh (Nh F p))→Ed d (Nh F (Nh F p)):=fun d hd h1 h2=>by
  unfold Nh at *
  have:=Zhd (F:=F) (d:=d) (p:=Xb (Na F (Xb p) (Yh (Xb p)))) (q:=Yh (Xb (Na F (Xb p) (Yh (Xb p))))) (by rw [a3];exact a1) (Oh (by rw [a3];exact a1)) (by rw [a3];exact h1) (by rw [a3];exact h2)
  exact this
 rw [a3]at b4
 generalize hg:Nh F p=g at *
 generalize hh:Nh F g=h at *
 generalize hu:sqf F p=u at *
 generalize htt:sqf F g=t at *
 obtain⟨k,s,hk,hks⟩:=e1
 obtain⟨m,w,hm,hmw⟩:=e2
 have hP:∀x:Rat,Zb (Xb p) x=Zb (Qc u g) x:=fun x=>by rw [a4,Yg,Zn]
 have hG:∀x:Rat,Zb g x=Zb (Qc t h) x:=fun x=>by
  have:Zb g x=Zb (Xl t h) x:=by rw [←b4]
  rw [this,Yg,Zn]
 have hd1:∀x:Rat,Zb (Yh (Xb p)) x=Zb (ld u) x*Zb g x+Zb u x*Zb (ld g) x:=fun x=>by rw [Mr,Fd hP,Fv]
 have hd2:∀x:Rat,(m:Rat)*Zb (ld g) x=Zb w x*Zb h x:=fun x=>by rw [←Mr];exact hmw x
 have key:∀x:Rat,(k:Rat)*(Zb (Xl u w) x*Zb h x)=(m:Rat)*(Zb (Xl (Nu s ((ld u).map fun c=>(-k)*c)) t) x*Zb h x):=fun x=>by
  rw [Yg,Yg,Yz,Zf]
  have h1:=hks x;have h2:=hd1 x;have h3:=hd2 x;have h4:=hG x
  rw [Zn]at h4
  rw [h2]at h1
  have:(k:Rat)*(Zb u x*Zb w x*Zb h x)=Zb u x*k*(Zb w x*Zb h x):=O4
  rw [this,←h3]
  push_cast
  have:Zb u x*(k:Rat)*(m*Zb (ld g) x)=m*(k*(Zb (ld u) x*Zb g x+Zb u x*Zb (ld g) x)-k*Zb (ld u) x*Zb g x):=O4
  rw [this,h1,h4];grind
 have key2:=Yca b1 b2 key
 refine ed_cop (s:=(Xl (Nu s ((ld u).map fun c=>(-k)*c)) [m])) hk t2 (w:=tzl w) (Qo w) t3 (fun d hd h1 h2=>?_) (fun x=>?_)
 ·have h2':Ed d w:=h2.congr fun x=>Ni w x
  have hdh:Ed (Xl d h) h:=hgr _ (Xz _ _) (by
   obtain⟨k1,s1,hk1,e1⟩:=h1
   exact⟨k1,s1,hk1,fun x=>by rw [hG x,Zn,Yg];have:=e1 x;grind⟩) (by
   obtain⟨k1,s1,hk1,e1⟩:=h2'
   exact⟨k1*m,s1,Int.mul_ne_zero hk1 hm,fun x=>by rw [Mr,Yg];have:=e1 x;have:=hd2 x;push_cast;grind⟩)
  have d0:=(h1.len hd t2 t3).1
  have hl:=Po hd b1 d0 b2
  have:=(hdh.len (Xz _ _) b1 b2).2
  have l2:=List.length_pos_iff.2 b2
  omega
 ·rw [Ni,Yg,Qw]
  have:=key2 x
  rw [Yg,Yg]at this
  rw [this];grind
theorem Zu1{u t:List Int}(hu:Tr u)(u0:u≠[])(ht:Tr t)(t0:t≠[])(hn:Xb t=t)(h:Ed t u):pdv u t∧u=Xl (Lx u t) t∧Tr (Lx u t)∧Lx u t≠[]:=by
 have hc:Yk t=1:=by have:=Zbn ht t0;rwa [hn]at this
 obtain⟨k,s,hk,h⟩:=h.dv
 obtain⟨q,hq⟩:=gauss hc _ k s rfl hk h
 have hqe:u=Xl (tzl q) t:=hu.ext (Xz _ _) fun i=>by rw [Ly,hq,Zx3]
 obtain⟨p1,p2⟩:=Zsg (Qo q) ht t0
 rw [←hqe]at p1 p2
 rw [p2]
 exact⟨p1,hqe,Qo q,fun e=>u0 (by rw [hqe,e,Ix])⟩
theorem Zll{F:Nat}{p:List Int}(hp:Tr p)(h0:p≠[])(hok:Bc F p)(h2:2≤p.length):(Nh F p).length<p.length:=by
 obtain⟨a1,a2,-⟩:=Ob hp h0 hok
 have ht:Tr (Xb p):=Oy (Yy hp)
 have e1:Ed (Nh F p) (Yh (Xb p)):=(Zbm ht (Oh ht) hok).2.ed
 have hl:=Oa (Xb p)
 have hn:=Qq hp
 have:=(e1.len a1 (Oh ht) (fun e=>by rw [e]at hl;simp at hl;omega)).2
 omega
theorem nrm1{p:List Int}(hp:Tr p)(hn:Xb p=p)(hl:p.length=1):p=[1]:=by
 have h0:p≠[]:=fun e=>by rw [e]at hl;simp at hl
 have hc:=Zbn hp h0
 have hd:0<cf (Xb p) ((Xb p).length-1):=Da (Yy hp) (fun e=>h0 (List.eq_nil_of_length_eq_zero (by rw [←Zq,e];rfl)))
 rw [hn]at hc hd
 match p,hl with
 | [c],_=>
  have hd':0<c:=hd
  have h1:c∣Yk [c]:=Gp fun i=>by
   match i with
   | 0=>exact Int.dvd_refl c
   | i+1=>rw [Yd O5];exact Int.dvd_zero c
  rw [hc]at h1
  have:=Int.le_of_dvd O3 h1
  rw [show c=1 by omega]
def Dp(p q:List Int):Prop:=Tr q∧q≠[]∧Xb q=q∧∃a,Tr a∧Xb p=Xl a q
theorem Dp.start{p:List Int}(hp:Tr p)(h0:p≠[]):Dp p (Xb p):=
 ⟨Oy (Yy hp),Zhh hp h0,Zqa (Oy (Yy hp)) (Zbn hp h0) (Da (Yy hp) (fun e=>h0 (List.eq_nil_of_length_eq_zero (by rw [←Zq,e];rfl)))),[1],.inr (show cf [1] 0≠0 by decide),by
  refine(Oy (Yy hp)).ext (Xz _ _) fun i=>?_
  rw [Ly,Znx];rfl⟩
theorem Dp.sz{p q:List Int}{n:Nat}(hp:Tr p)(h0:p≠[])(hs:Sz n p)(hl:p.length≤13)(h:Dp p q):Sz (n+130) q∧q.length≤p.length:=by
 obtain⟨h1,h2,h3,a,ha,e⟩:=h
 have hK:kkR 24 13*(24+1)^13<2^130:=O7
 have hln:=Qq hp
 have hn0:=Zhh hp h0
 have ht:Tr (Xb p):=Oy (Yy hp)
 have a0:a≠[]:=fun e2=>hn0 (by rw [e,e2,Ix])
 refine⟨Ah (L:=13) (R:=24) h1 ha (Zpq hs) hn0 ht O O3 hK (by rw [Zbl];exact e),?_⟩
 have hlq:=Po ha h1 a0 h2
 rw [←e,hln]at hlq
 have:=List.length_pos_iff.2 a0
 omega
theorem Dp.ok{p q:List Int}{n F:Nat}(hp:Tr p)(h0:p≠[])(hs:Sz n p)(hn:n≤220)(hl:p.length≤11)(hF:p.length≤F+1)(h:Dp p q):Di F q∧Bc F q:=by
 obtain⟨s1,s2⟩:=h.sz hp h0 hs O
 have:=(chG F h.1 h.2.1 s1 O O O).1
 exact⟨this,this.1.2.2.1⟩
theorem Dp.next{p q:List Int}{F:Nat}(h:Dp p q)(hok:Bc F q):Dp p (Nh F q):=by
 obtain⟨h1,h2,h3,a,ha,e⟩:=h
 obtain⟨a1,a2,a3,a4,a5⟩:=Ob h1 h2 hok
 refine⟨a1,a2,a3,Xl a (sqf F q),Xz _ _,?_⟩
 rw [h3]at a4
 refine e.trans ((congrArg (Xl a) a4).trans ?_)
 refine(Xz _ _).ext (Xz _ _) fun i=>Nw (fun x=>?_) i
 rw [Yg,Yg,Yg,Yg];grind
def Zci(F:Nat):Nat→List Int→List Int
 | 0,p=>sqf F p
 | f+1,p=>if(sqf F p).length=1 then sqf F p else Xl (Lx (sqf F p) (sqf F (Nh F p))) (Zci F f (Nh F (Nh F p)))
def Zn0(F:Nat):Nat→List Int→List Int→List Int
 | 0,out,_=>out
 | f+1,out,q=>if(sqf F q).length=1 then out else if(sqf F (Nh F q)).length=1 then Xl out (Lx (sqf F q) (sqf F (Nh F q)))else Zn0 F f (Xl out (Lx (sqf F q) (sqf F (Nh F q)))) (Nh F (Nh F q))
theorem Zf7{F:Nat}{q:List Int}(hq:Tr q)(h0:q≠[])(hok:Bc F q)(h:(sqf F q).length=1):sqf F q=[1]∧q.length=1∧(Nh F q).length=1:=by
 obtain⟨f1,f2,f3,f4,f5,f6⟩:=Oi (F:=F) hq h0 hok
 obtain⟨a1,a2,a3,a4,a5⟩:=Ob hq h0 hok
 have l0:=List.length_pos_iff.2 h0
 have hl:q.length=1:=by
  rcases Nat.lt_or_ge q.length 2 with h2 | h2
  ·omega
  ·have:=Zll hq h0 hok h2;omega
 exact⟨nrm1 f2 f6 h,hl,O⟩
theorem Zk1{p:List Int}(hp:Tr p):Xl p [1]=p:=by
 refine(Xz _ _).ext hp fun i=>Nw (fun x=>?_) i
 rw [Yg,Qw];push_cast;grind
theorem Zya{F:Nat}{q:List Int}(hq:Tr q)(h0:q≠[])(hok:Bc F q)(h:q.length=1):∀f,Zci F f q=[1]:=fun f=>by
 obtain⟨f1,f2,f3,f4,f5,f6⟩:=Oi (F:=F) hq h0 hok
 obtain⟨a1,a2,a3,a4,a5⟩:=Ob hq h0 hok
 have l1:=List.length_pos_iff.2 f3
 have l2:=List.length_pos_iff.2 a2
 have hs:(sqf F q).length=1:=O
 have:=(Zf7 hq h0 hok hs).1
 cases f with
 | zero=>exact this
 | succ f=>unfold Zci;rw [if_pos hs];exact this
theorem Zsc{F:Nat}{p:List Int}{f:Nat}{q:List Int}(hq:Tr q)(h0:q≠[])(hok:Bc F q):Tr (Zci F f q):=by
 obtain⟨f1,f2,f3,f4,f5,f6⟩:=Oi (F:=F) hq h0 hok
 cases f with
 | zero=>exact f2
 | succ f=>unfold Zci;split;exact f2;exact Xz _ _
theorem Ycs{F n:Nat}{p:List Int}(hp:Tr p)(h0:p≠[])(hs:Sz n p)(hn:n≤220)(hl:p.length≤11)(hF:p.length≤F+1):∀(f:Nat) (out q:List Int),Tr out→Dp p q→q.length≤f→Zn0 F f out q=Xl out (Zci F f q):=by
 intro f
 induction f with
 | zero=>intro out q _ hq hlq;have:=List.length_pos_iff.2 hq.2.1;omega
 | succ f ih=>
  intro out q ho hq hlq
  have hok:=(hq.ok hp h0 hs hn hl hF).2
  have hg:=hq.next hok
  have hok2:=(hg.ok hp h0 hs hn hl hF).2
  have hg2:=hg.next hok2
  have hok3:=(hg2.ok hp h0 hs hn hl hF).2
  unfold Zn0 Zci
  by_cases c1:(sqf F q).length=1
  ·rw [if_pos c1,if_pos c1,(Zf7 hq.1 hq.2.1 hok c1).1,Zk1 ho]
  ·rw [if_neg c1,if_neg c1]
   have lq:2≤q.length:=by
    obtain⟨f1,f2,f3,f4,f5,f6⟩:=Oi (F:=F) hq.1 hq.2.1 hok
    obtain⟨a1,a2,a3,a4,a5⟩:=Ob hq.1 hq.2.1 hok
    have l1:=List.length_pos_iff.2 f3
    have l2:=List.length_pos_iff.2 a2
    omega
   have lt1:=Zll hq.1 hq.2.1 hok lq
   obtain⟨-,-,-,-,b5⟩:=Ob hg.1 hg.2.1 hok2
   obtain⟨-,b2,b3,-,-,-⟩:=Oi (F:=F) hg.1 hg.2.1 hok2
   have lb:=List.length_pos_iff.2 b3
   by_cases c2:(sqf F (Nh F q)).length=1
   ·obtain⟨s1,s2,s3⟩:=Zf7 hg.1 hg.2.1 hok2 c2
    rw [if_pos c2,Zya hg2.1 hg2.2.1 hok3 s3]
    refine(Xz _ _).ext (Xz _ _) fun i=>Nw (fun x=>?_) i
    rw [Yg,Yg,Yg,Qw];push_cast;grind
   ·rw [if_neg c2,ih _ _ (Xz _ _) hg2 O]
    refine(Xz _ _).ext (Xz _ _) fun i=>Nw (fun x=>?_) i
    rw [Yg,Yg,Yg,Yg];grind
def Zxr(F:Nat)(p:List Int):List Int:=Lx (Xj (Zz p) 1) (sqf F p)
def rrest(F:Nat)(p:List Int):List Int:=Lx (Zz (Zxr F p)) (sqf F (Zxr F p))
def rodd(F:Nat):Nat→List Int→List Int
 | 0,p=>sqf F p
 | f+1,p=>if(sqf F p).length=1 then sqf F p else Xl (Lx (sqf F p) (sqf F (Zxr F p))) (rodd F f (rrest F p))
theorem Zkg{F:Nat}{p q:List Int}(h:Xb p=Xb q):sqf F p=sqf F q:=by unfold sqf;rw [h]
def Ct(F:Nat)(q:List Int):List Int:=Lx (sqf F q) (sqf F (Nh F q))
theorem Zak{F:Nat}{q:List Int}(hq:Tr q)(q0:q≠[])(hok:Bc F q)(hok2:Bc F (Nh F q)):pdv (sqf F q) (sqf F (Nh F q))∧sqf F q=Xl (Ct F q) (sqf F (Nh F q))∧Tr (Ct F q)∧Ct F q≠[]:=by
 obtain⟨f1,f2,f3,f4,f5,f6⟩:=Oi (F:=F) hq q0 hok
 obtain⟨a1,a2,a3,a4,a5⟩:=Ob hq q0 hok
 obtain⟨-,t2,t3,-,-,t6⟩:=Oi (F:=F) a1 a2 hok2
 exact Zu1 f2 f3 t2 t3 t6 (Zsk hq q0 hok hok2)
theorem Zqm{p a b:List Int}{n:Nat}(hp:Tr p)(h0:p≠[])(hs:Sz n p)(hl:p.length≤13)(ha:Tr a)(hb:Tr b)(e:Xb p=Xl a b):Sz (n+130) b∧b.length≤p.length∧b≠[]:=by
 have hK:kkR 24 13*(24+1)^13<2^130:=O7
 have hln:=Qq hp
 have hn0:=Zhh hp h0
 have ht:Tr (Xb p):=Oy (Yy hp)
 have a0:a≠[]:=fun e2=>hn0 (by rw [e,e2,Ix])
 have b0:b≠[]:=fun e2=>hn0 (by rw [e,e2,Zck])
 refine⟨Ah (L:=13) (R:=24) hb ha (Zpq hs) hn0 ht O O3 hK (by rw [Zbl];exact e),?_,b0⟩
 have hlq:=Po ha hb a0 b0
 rw [←e,hln]at hlq
 have:=List.length_pos_iff.2 a0
 omega
def Op(p out q:List Int):Prop:=∃a,Tr a∧Xb p=Xl a (Xl out q)
theorem Op.start{p:List Int}(hp:Tr p):Op p [1] (Xb p):=⟨[1],.inr (show cf [1] 0≠0 by decide),by
 refine(Oy (Yy hp)).ext (Xz _ _) fun i=>Nw (fun x=>?_) i
 rw [Yg,Yg,Qw];push_cast;show Zb (Xb p) x=_;grind⟩
theorem Op.next{p out q:List Int}{F:Nat}(hq:Tr q)(q0:q≠[])(hn:Xb q=q)(hok:Bc F q)(hok2:Bc F (Nh F q))(h:Op p out q):Op p (Xl out (Ct F q)) (Nh F (Nh F q)):=by
 obtain⟨a,ha,e⟩:=h
 obtain⟨-,o2,o3,o4⟩:=Zak hq q0 hok hok2
 obtain⟨a1,a2,a3,a4,a5⟩:=Ob hq q0 hok
 obtain⟨-,-,-,b4,-⟩:=Ob a1 a2 hok2
 rw [hn]at a4
 rw [a3]at b4
 refine⟨Xl a (Xl (sqf F (Nh F q)) (sqf F (Nh F q))),Xz _ _,e.trans ?_⟩
 refine(Xz _ _).ext (Xz _ _) fun i=>Nw (fun x=>?_) i
 have e1:Zb q x=Zb (sqf F q) x*Zb (Nh F q) x:=by rw [←Yg,←a4]
 have e2:Zb (sqf F q) x=Zb (Ct F q) x*Zb (sqf F (Nh F q)) x:=by rw [←Yg,←o2]
 have e3:Zb (Nh F q) x=Zb (sqf F (Nh F q)) x*Zb (Nh F (Nh F q)) x:=by rw [←Yg,←b4]
 simp only [Yg]
 rw [e1,e2]
 rw [e3]
 generalize Zb (sqf F (Nh F q)) x=A
 generalize Zb (Nh F (Nh F q)) x=B
 grind
theorem Op.sz{p out q:List Int}{n:Nat}(hp:Tr p)(h0:p≠[])(hs:Sz n p)(hl:p.length≤13)(ho:Tr out)(hq:Tr q)(h:Op p out q):Sz (n+130) out∧out.length≤p.length∧out≠[]:=by
 obtain⟨a,ha,e⟩:=h
 exact Zqm hp h0 hs hl (Xz a q) ho (e.trans ((Xz _ _).ext (Xz _ _) fun i=>Nw (fun x=>by rw [Yg,Yg,Yg,Yg];grind) i))
theorem Ycj{p:List Int}(hp:Tr p):Xl [1] p=p:=by rw [Zbl];exact Zk1 hp
theorem Zgo{xs:List Int}{F:Nat}(hx:Tr xs)(h0:xs≠[])(hC:Di F xs){s t:Rat}(hst:s≤t):Ch F xs t≤Ch F xs s:=Zid hx h0 hC hst
theorem Sqn.imp{P P':R2→R2→Prop}{hi:Rat}(hp:∀x y,P x y→P' x y):∀{lo:Rat} {l:List (R2×R2)},Sqn P hi lo l→Sqn P' hi lo l
 | _,[],h=>h
 | _,_ :: _,h=>⟨h.1,h.2.1,hp _ _ h.2.2.1,Sqn.imp hp h.2.2.2⟩
def oe(f:Nat→Int):Nat→Int
 | 0=>0
 | k+1=>err (oe f k) (f k)
def mon(d n:Nat):List Int:=mono d ((2:Int)^n)
variable {P:Program} {N:Nat} {sc:Nat→Prop} {env:Qu} {H:Hp}
end Go.Sky
namespace Go.Sky
def HD(xs ys:List Int):Prop:=Vp ys∧ys≠[]∧Ck ys∧Di 13 ys∧Aw 13 ys=Aw 13 xs
def PH(xs:List Int)(x y:R2):Prop:=(0<x.2∧bl x.1.natAbs≤506∧bl x.2.natAbs≤506)∧(0<y.2∧bl y.1.natAbs≤506∧bl y.2.natAbs≤506)∧cvc 13 xs x-cvc 13 xs y=1
def DR:R2×R2:=((0,0),(0,0))
theorem Zd9(d:Rat){h:Rat}(h1:0<h):∃n:Nat,d≤(n:Rat)*h:=by
 have h4:0<h⁻¹:=Rat.inv_pos.2 h1
 refine⟨(d*h⁻¹).ceil.toNat,?_⟩
 have h5:=@Rat.le_ceil (d*h⁻¹)
 have h6:(((d*h⁻¹).ceil:Int):Rat)≤(((d*h⁻¹).ceil.toNat:Nat):Rat):=by
  have:(d*h⁻¹).ceil≤(((d*h⁻¹).ceil.toNat:Nat):Int):=Int.self_le_toNat _
  exact_mod_cast this
 have h7:=Rat.mul_le_mul_of_nonneg_right (Rat.le_trans h5 h6) (show 0≤h by grind)
 have h8:d*h⁻¹*h=d:=O4
 grind
theorem Zl1{f:Rat→Rat}{u v:Rat}(h:crs f u v≤0)(h0:f u≠0):0<f u*f v:=by
 unfold crs at h
 by_cases h1:f u≠0∧f u*f v≤0
 ·rw [if_pos h1]at h;exact absurd h O3
 ·have:¬f u*f v≤0:=fun h2=>h1 ⟨h0,h2⟩
  grind
theorem Zbu{xs:List Int}{F:Nat}(hx:Tr xs)(h0:xs≠[])(hC:Di F xs){s t:Rat}(hst:s≤t)(hV:Ch F xs s≤Ch F xs t)(hs:Zb (sqf F xs) s≠0):∀y,s≤y→y≤t→0<Zb (sqf F xs) s*Zb (sqf F xs) y:=by
 obtain⟨h,h1,h2⟩:=Zic hx h0 hC s t
 have hcv:∀u v,s≤u→u≤v→v≤t→v-u≤h→crs (Zb (sqf F xs)) u v≤0:=fun u v a b c d=>by
  have e:=h2 u v a b c d
  have m1:Av ((Aw F xs).map Zb) u≤Av ((Aw F xs).map Zb) s:=Zid hx h0 hC a
  have m2:Av ((Aw F xs).map Zb) t≤Av ((Aw F xs).map Zb) v:=Zid hx h0 hC c
  have m3:Av ((Aw F xs).map Zb) s≤Av ((Aw F xs).map Zb) t:=hV
  omega
 generalize Zb (sqf F xs)=f at *
 have key:∀n:Nat,∀y,s≤y→y≤t→y-s≤(n:Rat)*h→0<f s*f y:=fun n=>by
  induction n with
  | zero=>
   intro y a b c
   have:y=s:=by push_cast at c;grind
   subst this
   exact Zl1 (hcv _ _ a O4 b O4) hs
  | succ n ih=>
   intro y a b c
   push_cast at c
   by_cases hy:y-s≤h
   ·exact Zl1 (hcv s y O4 a b hy) hs
   ·have i1:=ih (y-h) O4 O4 O4
    have hz:f (y-h)≠0:=fun e=>by rw [e]at i1;grind
    have i2:=Zl1 (hcv (y-h) y O4 O4 b O4) hz
    have i3:=Rat.mul_pos i1 i2
    have e1:f s*f (y-h)*(f (y-h)*f y)=(f (y-h)*f (y-h))*(f s*f y):=O4
    rw [e1]at i3
    have i4:0<f (y-h)*f (y-h):=by
     rcases(show 0<f (y-h)∨f (y-h)<0 by grind)with q | q
     ·exact Rat.mul_pos q q
     ·have:=Rat.mul_pos (a:=-f (y-h)) (b:=-f (y-h)) O4 O4;grind
    rcases(show 0<f s*f y∨f s*f y≤0 by grind)with q | q
    ·exact q
    ·have:=Rat.mul_nonneg (a:=f (y-h)*f (y-h)) (b:=-(f s*f y)) O4 O4;grind
 intro y a b
 obtain⟨n,hn⟩:∃n:Nat,y-s≤(n:Rat)*h:=by
  obtain⟨n,hn⟩:=Zd9 (y-s) h1
  exact⟨n,hn⟩
 exact key n y a b hn
theorem Zdv{p:List Int}{s t:Rat}(hst:s≤t)(hd:∀u,s≤u→u≤t→0≤Zb (ld p) u):Zb p s≤Zb p t:=by
 rcases(show Zb p s≤Zb p t∨Zb p t<Zb p s by grind)with h | h
 ·exact h
 ·exfalso
  obtain⟨M,m1,m2⟩:=Zgc s t p
  have hlt:s<t:=by
   rcases(show s<t∨s=t by grind)with h9 | h9
   ·exact h9
   ·rw [h9]at h;grind
  obtain⟨n,hn⟩:=Zd9 (M*(t-s)*(t-s)+1) (show 0<Zb p s-Zb p t by grind)
  have hn0:(0:Rat)<(n:Rat):=by
   rcases Nat.eq_zero_or_pos n with h9 | h9
   ·subst h9
    have:=Rat.mul_nonneg (a:=M*(t-s)) (b:=t-s) (Rat.mul_nonneg O4 O4) O4
    push_cast at hn;grind
   ·exact_mod_cast h9
  have hn1:(n:Rat)≠0:=fun e=>by rw [e]at hn0;exact absurd hn0 O3
  have hnn0:(n:Rat)*((t-s)/n)=t-s:=by
   rw [Rat.div_def,←Rat.mul_assoc,Rat.mul_comm (n:Rat),Rat.mul_assoc,Rat.mul_inv_cancel _ hn1,Rat.mul_one]
  have key:∀k:Nat,(k:Rat)≤(n:Rat)→-(M*((t-s)/n)*((t-s)/n))*k≤Zb p (s+k*((t-s)/n))-Zb p s:=fun k=>by
   induction k with
   | zero=>intro _;push_cast;rw [show s+0*((t-s)/n)=s by grind];grind
   | succ k ih=>
    intro hk
    push_cast at hk ⊢
    have i1:=ih O4
    have hh:0≤(t-s)/n:=by
     rw [Rat.div_def];exact Rat.mul_nonneg O4 (Rat.le_of_lt (Rat.inv_pos.2 hn0))
    have hnn:=hnn0
    generalize (t-s)/(n:Rat)=h at *
    have k0:(0:Rat)≤(k:Rat):=by exact_mod_cast Nat.zero_le k
    have b1:=Rat.mul_nonneg (a:=(k:Rat)) (b:=h) k0 hh
    have b2:=Rat.mul_nonneg (a:=(n:Rat)-(k+1)) (b:=h) O4 hh
    have j:=(m2 (s+k*h) (s+(k+1)*h) O4 O4 O4).1
    have e:=hd (s+k*h) O4 O4
    have e2:=Rat.mul_nonneg hh e
    rw [show s+(k+1)*h-(s+k*h)=h by grind]at j
    grind
  have k1:=key n O4
  have hnn:=hnn0
  rw [hnn,show s+(t-s)=t by grind]at k1
  have k2:-(M*((t-s)/n)*((t-s)/n))*n=-(M*((t-s)/n)*(t-s)):=O4
  rw [k2]at k1
  have k3:M*((t-s)/n)*(t-s)*n=M*(t-s)*(t-s):=O4
  have k4:=Rat.mul_nonneg (a:=Zb p t-Zb p s+M*((t-s)/n)*(t-s)) (b:=(n:Rat)) O4 O4
  grind
theorem Zdj(p:List Int)(x:Rat):Zb (p.map fun a=>-1*a) x=-Zb p x:=by rw [Zf];push_cast;grind
theorem Zj5{p:List Int}{s t:Rat}(hst:s<t)(hd:∀u,s<u→u≤t→0<Zb (ld p) u)(h0:0≤Zb (ld p) s):Zb p s<Zb p t:=by
 have hm:s<(s+t)/2∧(s+t)/2<t:=by constructor<;>grind
 generalize (s+t)/2=m at *
 have a1:=Zdv (p:=p) (s:=s) (t:=m) O4 (fun u a b=>by
  rcases(show s<u∨u=s by grind)with h | h
  ·exact Rat.le_of_lt (hd u h O4)
  ·rw [h];exact h0)
 obtain⟨M,m1,m2⟩:=Zgc m t p
 have hp:=hd m hm.1 O4
 obtain⟨η,q1,q2,q3⟩:=Km (show 0<t-m by grind) m1 (show 0<Zb (ld p) m/2 by grind)
 have b:=(m2 m (m+η) O4 O4 O4).1
 rw [show m+η-m=η by grind]at b
 have a2:=Zdv (p:=p) (s:=m+η) (t:=t) O4 (fun u a b=>Rat.le_of_lt (hd u O4 b))
 have c:=Rat.mul_nonneg (a:=η) (b:=Zb (ld p) m/2-η*M) O4 O4
 have d:=Rat.mul_pos q1 hp
 grind
end Go.Sky

