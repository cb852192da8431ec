/- Rules, arithmetic and contracts: part 12. No conditions but those that each theorem names. -/
import Derived.Test.YtljmhpopdmadkaaGreatLf10
import Derived.Test.YtljmhpopdmadkaaGreatLf08
set_option linter.all false
set_option maxHeartbeats 4000000
namespace Go.Sky
def Gc:Nat→List Int→Rat→Int
 | 0,_,_=>0
 | n+1,p,x=>if Zb p x≠0 then Gd (Zb p x)else Gc n (Yh p) x
theorem Zr1{x:Rat}(h:0<x):Gd x=1:=Dj h
theorem Zjd{x:Rat}(h:x<0):Gd x=-1:=Dk h
theorem Zng{x:Rat}(h:x=0):Gd x=0:=by subst h;rfl
theorem Qk(x:Rat):(0<x∧Gd x=1)∨(x<0∧Gd x=-1)∨(x=0∧Gd x=0):=by
 rcases(show 0<x∨x<0∨x=0 by grind)with h | h | h
 ·exact .inl ⟨h,Zr1 h⟩
 ·exact .inr (.inl ⟨h,Zjd h⟩)
 ·exact .inr (.inr ⟨h,Zng h⟩)
theorem Zrc(n:Nat)(p:List Int)(x:Rat)(h:Zb p x≠0)(hl:p.length≤n):Gc n p x=Gd (Zb p x):=by
 cases n with
 | zero=>have:p=[]:=List.eq_nil_of_length_eq_zero O;subst this;exact absurd rfl h
 | succ n=>unfold Gc;rw [if_pos h]
theorem Zjo(p:List Int)(x:Rat)(h:Zb p x≠0):∃δ:Rat,0<δ∧∀y,x<y→y≤x+δ→Gd (Zb p y)=Gd (Zb p x):=by
 obtain⟨L,l1,l2⟩:=Fs x (x+1) p
 have ha:0<(if 0<Zb p x then Zb p x else -Zb p x):=by split<;>grind
 obtain⟨δ,d1,d2,d3⟩:=Km (show(0:Rat)<1 by decide) (show 0<L+1 by grind) (show 0<(if 0<Zb p x then Zb p x else -Zb p x)/2 by grind)
 refine⟨δ,d1,fun y h1 h2=>?_⟩
 have l:=l2 x y O4 O4 O4
 have b:=Rat.mul_nonneg (a:=L) (b:=δ-(y-x)) O4 O4
 have c:L*(y-x)≤δ*(L+1):=O4
 rcases Qk (Zb p x)with⟨h3,h4⟩ | ⟨h3,h4⟩ | ⟨h3,h4⟩
 ·rw [if_pos h3]at d3 ha;rw [h4];exact Zr1 O4
 ·rw [if_neg O4]at d3 ha;rw [h4];exact Zjd O4
 ·exact absurd h3 h
theorem Dd:∀(n:Nat) (p:List Int) (x:Rat),p.length≤n→∃δ:Rat,0<δ∧∀y,x<y→y≤x+δ→Gd (Zb p y)=Gc n p x
 | 0,p,x,hl=>⟨1,O3,fun y _ _=>by
  have:p=[]:=List.eq_nil_of_length_eq_zero O
  subst this;exact Zng rfl⟩
 | n+1,p,x,hl=>by
  by_cases h:Zb p x≠0
  ·rw [Zrc (n+1) p x h hl];exact Zjo p x h
  ·have h0:Zb p x=0:=Classical.not_not.1 h
   have ld':=Oa p
   obtain⟨δ,d1,d2⟩:=Dd n (Yh p) x O
   have hu:Gc (n+1) p x=Gc n (Yh p) x:=by unfold Gc;rw [if_neg h];cases n<;>rfl
   have hx:Zb (ld p) x≠0→Gd (Zb (ld p) x)=Gc n (Yh p) x:=fun h9=>by
    rw [←Mr]at h9 ⊢;exact(Zrc n (Yh p) x h9 O).symm
   refine⟨δ,d1,fun y h1 h2=>?_⟩
   rw [hu]
   have hd:∀u,x<u→u≤y→Gd (Zb (ld p) u)=Gc n (Yh p) x:=fun u a b=>by rw [←Mr];exact d2 u a O4
   have hyy:=hd y h1 O4
   generalize Gc n (Yh p) x=σ at *
   rcases Qk (Zb (ld p) y)with⟨h3,h4⟩ | ⟨h3,h4⟩ | ⟨h3,h4⟩
   ·rw [h4]at hyy;subst hyy
    refine Zr1 ?_
    have:=Zj5 (p:=p) h1 (fun u a b=>by
     rcases Qk (Zb (ld p) u)with⟨h5,h6⟩ | ⟨h5,h6⟩ | ⟨h5,h6⟩
     ·exact h5
     ·have:=hd u a b;rw [h6]at this;exact absurd this O3
     ·have:=hd u a b;rw [h6]at this;exact absurd this O3) (by
     rcases Qk (Zb (ld p) x)with⟨h5,h6⟩ | ⟨h5,h6⟩ | ⟨h5,h6⟩
     ·exact Rat.le_of_lt h5
     ·have:=hx O4;rw [h6]at this;exact absurd this O3
     ·grind)
    grind
   ·rw [h4]at hyy;subst hyy
    refine Zjd ?_
    have hn:∀u,Zb (ld (p.map fun a=>-1*a)) u=-Zb (ld p) u:=fun u=>by rw [Dm];push_cast;grind
    have:=Zj5 (p:=p.map fun a=>-1*a) h1 (fun u a b=>by
     rw [hn]
     rcases Qk (Zb (ld p) u)with⟨h5,h6⟩ | ⟨h5,h6⟩ | ⟨h5,h6⟩
     ·have:=hd u a b;rw [h6]at this;exact absurd this O3
     ·grind
     ·have:=hd u a b;rw [h6]at this;exact absurd this O3) (by
     rw [hn]
     rcases Qk (Zb (ld p) x)with⟨h5,h6⟩ | ⟨h5,h6⟩ | ⟨h5,h6⟩
     ·have:=hx O4;rw [h6]at this;exact absurd this O3
     ·grind
     ·grind)
    rw [Zdj,Zdj]at this
    grind
   ·rw [h4]at hyy;subst hyy
    refine Zng ?_
    have hz:∀u,x≤u→u≤y→Zb (ld p) u=0:=fun u a b=>by
     rcases(show x<u∨u=x by grind)with h9 | h9
     ·rcases Qk (Zb (ld p) u)with⟨h5,h6⟩ | ⟨h5,h6⟩ | ⟨h5,h6⟩
      ·have:=hd u h9 b;rw [h6]at this;exact absurd this O3
      ·have:=hd u h9 b;rw [h6]at this;exact absurd this O3
      ·exact h5
     ·subst h9
      rcases Qk (Zb (ld p) u)with⟨h5,h6⟩ | ⟨h5,h6⟩ | ⟨h5,h6⟩
      ·have:=hx O4;rw [h6]at this;exact absurd this O3
      ·have:=hx O4;rw [h6]at this;exact absurd this O3
      ·exact h5
    have a1:=Zdv (p:=p) (s:=x) (t:=y) O4 (fun u a b=>by rw [hz u a b];grind)
    have a2:=Zdv (p:=p.map fun a=>-1*a) (s:=x) (t:=y) O4 (fun u a b=>by rw [Dm,hz u a b];push_cast;grind)
    rw [Zdj,Zdj]at a2
    grind
theorem Ed.mul_l{a b c:List Int}(h:Ed a b):Ed (Xl c a) (Xl c b):=by
 obtain⟨k,s,hk,e⟩:=h
 exact⟨k,s,hk,fun x=>by rw [Yg,Yg];have:=e x;grind⟩
theorem Hi{F n:Nat}{p:List Int}(hp:Tr p)(h0:p≠[])(hs:Sz n p)(hn:n≤220)(hl:p.length≤11)(hF:p.length≤F+1):∀(f:Nat) (q:List Int),Dp p q→q.length≤f→
  (∃B:List Int,∀x:Rat,Zb q x=Zb (Zci F f q) x*(Zb B x*Zb B x))∧Ed (Zci F f q) (sqf F q):=by
 intro f
 induction f with
 | zero=>intro q hq hlq;have:=List.length_pos_iff.2 hq.2.1;omega
 | succ f ih=>
  intro q hq hlq
  have hok:=(hq.ok hp h0 hs hn hl hF).2
  have hg:=hq.next hok
  have hok2:=(hg.ok hp h0 hs hn hl hF).2
  have hg2:=hg.next hok2
  unfold Zci
  by_cases c1:(sqf F q).length=1
  ·rw [if_pos c1]
   obtain⟨s1,s2,s3⟩:=Zf7 hq.1 hq.2.1 hok c1
   refine⟨⟨[1],fun x=>?_⟩,Ed.refl _⟩
   rw [s1,nrm1 hq.1 hq.2.2.1 s2,Qw];push_cast;grind
  ·rw [if_neg c1]
   have lq:2≤q.length:=by
    obtain⟨f1,f2,f3,f4,f5,f6⟩:=Oi (F:=F) hq.1 hq.2.1 hok
    obtain⟨a1,a2,a3,a4,a5⟩:=Ob hq.1 hq.2.1 hok
    have l1:=List.length_pos_iff.2 f3
    have l2:=List.length_pos_iff.2 a2
    omega
   have lt1:=Zll hq.1 hq.2.1 hok lq
   obtain⟨a1,a2,a3,a4,a5⟩:=Ob hq.1 hq.2.1 hok
   obtain⟨b1,b2,b3,b4,b5⟩:=Ob hg.1 hg.2.1 hok2
   obtain⟨-,t2,t3,-,-,-⟩:=Oi (F:=F) hg.1 hg.2.1 hok2
   have lb:=List.length_pos_iff.2 t3
   obtain⟨⟨B,hB⟩,hE⟩:=ih _ hg2 O
   obtain⟨-,o2,o3,o4⟩:=Zak hq.1 hq.2.1 hok hok2
   have hok3:=(hg2.ok hp h0 hs hn hl hF).2
   rw [hq.2.2.1]at a4
   rw [a3]at b4
   have e1:∀x,Zb q x=Zb (sqf F q) x*Zb (Nh F q) x:=fun x=>by rw [←Yg,←a4]
   have e2:∀x,Zb (sqf F q) x=Zb (Ct F q) x*Zb (sqf F (Nh F q)) x:=fun x=>by rw [←Yg,←o2]
   have e3:∀x,Zb (Nh F q) x=Zb (sqf F (Nh F q)) x*Zb (Nh F (Nh F q)) x:=fun x=>by rw [←Yg,←b4]
   refine⟨⟨Xl (sqf F (Nh F q)) B,fun x=>?_⟩,?_⟩
   ·rw [Yg,Yg,e1 x,e2 x,e3 x,hB x]
    show _=Zb (Ct F q) x*_*_
    generalize Zb (sqf F (Nh F q)) x=S
    generalize Zb B x=C
    grind
   ·have h9:Ed (Zci F f (Nh F (Nh F q))) (sqf F (Nh F q)):=hE.trans (Zsk hg.1 hg.2.1 hok2 hok3)
    have h8:=h9.mul_l (c:=Ct F q)
    rw [←o2]at h8
    exact h8
theorem Znw{F n:Nat}{p:List Int}(hp:Tr p)(h0:p≠[])(hs:Sz n p)(hn:n≤220)(hl:p.length≤11)(hF:p.length≤F+1){o:List Int}(ho:Tr o)(o0:o≠[])(hok:Bc F o)(hpk:Bc F p)(h:Ed o (sqf F p)):(Nh F o).length=1∧sqf F o=Xb o:=by
 obtain⟨a1,a2,a3,a4,a5⟩:=Ob ho o0 hok
 obtain⟨f1,f2,f3,f4,f5,f6⟩:=Oi (F:=F) hp h0 hpk
 obtain⟨-,s2,s3,s4,s5,s6⟩:=Oi (F:=F) ho o0 hok
 have ht:Tr (Xb o):=Oy (Yy ho)
 have hd:=Zbm ht (Oh ht) hok
 have e1:Ed (Nh F o) (Xb o):=hd.1.ed
 have e2:Ed (Nh F o) (ld (Xb o)):=(hd.2.ed:Ed (Nh F o) (Yh (Xb o))).congr fun x=>Mr _ x
 have hsim:Sim (Xb o) o:=(Lq (Zz o)).trans (Qd ho)
 obtain⟨k,w,hk,hkw⟩:Ed (Xb o) (sqf F p):=by
  obtain⟨k,w,hk,e⟩:=h
  obtain⟨c,d,hc,hd',hcd⟩:=hsim
  have hcd':∀x:Rat,(c:Rat)*Zb (Xb o) x=(d:Rat)*Zb o x:=fun x=>by
   rw [←Zf,←Zf];exact Nx x _ _ fun i=>by rw [Xw,Xw];exact hcd i
  exact⟨d*k,w.map fun a=>c*a,Int.mul_ne_zero hd' hk,fun x=>by
   rw [Zf];have a:=e x;have b:=hcd' x;push_cast;grind⟩
 have hlen:(Nh F o).length≤1:=by
  refine Zdd hp h0 hpk a1 (e1.trans ⟨k,w,hk,hkw⟩) ?_
  have h1:Ed (Nh F o) (Qc w (ld (Xb o))):=by
   obtain⟨m,z,hm,e⟩:=e2
   exact⟨m,Qc w z,hm,fun x=>by rw [Zn,Zn];have:=e x;grind⟩
  have h2:Ed (Nh F o) (ld (sqf F p)):=Ed.lin e1 h1 (ld w) k hk fun x=>by
   have:=Fd (p:=(sqf F p).map fun a=>k*a) (q:=Qc w (Xb o)) (fun y=>by rw [Zf,Zn];exact hkw y) x
   rw [Dm,Fv]at this
   rw [Zn,this]
  exact h2.congr fun x=>(Mr _ x).symm
 have hl1:(Nh F o).length=1:=by have:=List.length_pos_iff.2 a2;omega
 refine⟨hl1,?_⟩
 rw [nrm1 a1 a3 hl1,Zk1 s2]at a4
 exact a4.symm
theorem Zdf{a b:List Int}(h:Sim a b):∃c d:Int,c≠0∧d≠0∧∀x:Rat,(c:Rat)*Zb a x=(d:Rat)*Zb b x:=by
 obtain⟨c,d,hc,hd,e⟩:=h
 exact⟨c,d,hc,hd,fun x=>by rw [←Zf,←Zf];exact Nx x _ _ fun i=>by rw [Xw,Xw];exact e i⟩
theorem Ih{x:Rat}(h:x≠0):0<x*x:=by
 rcases(show 0<x∨x<0 by grind)with q | q
 ·exact Rat.mul_pos q q
 ·have:=Rat.mul_pos (a:=-x) (b:=-x) O4 O4;grind
theorem Ql{c:Int}(h:c≠0):(c:Rat)≠0:=fun e=>h (by exact_mod_cast e)
theorem Zdq{a b a' b' c d:Rat}(hc:c≠0)(hd:d≠0)(e1:c*a'=d*a)(e2:c*b'=d*b)(h:a*b<0):a'*b'<0:=by
 have h1:(c*c)*(a'*b')=(d*d)*(a*b):=O4
 have h2:=Ih hc
 have h3:=Ih hd
 rcases(show a'*b'<0∨0≤a'*b' by grind)with q | q
 ·exact q
 ·have h4:=Rat.mul_nonneg (a:=c*c) (b:=a'*b') O4 q
  have h5:=Rat.mul_pos (a:=d*d) (b:=-(a*b)) h3 O4
  grind
theorem Zyj{o1 o2 B1 B2:Rat}(h:o1*(B1*B1)*(o2*(B2*B2))<0):o1*o2<0:=by
 rcases(show o1*o2<0∨0≤o1*o2 by grind)with q | q
 ·exact q
 ·have h1:0≤B1*B2*(B1*B2):=by
   by_cases hz:B1*B2=0
   ·rw [hz];grind
   ·exact Rat.le_of_lt (Ih hz)
  have h2:=Rat.mul_nonneg q h1
  grind
theorem Zjn{F n:Nat}{p o:List Int}(hp:Tr p)(h0:p≠[])(hs:Sz n p)(hn:n≤220)(hl:p.length≤11)(hF:p.length≤F+1)(ho:o=Zci F p.length (Xb p))(hot:Tr o)(o0:o≠[])(hC:Di F o){a b:Rat}(hab:a<b)(h1:Gc p.length p a=1)(h2:Zb p b<0):Ch F o b<Ch F o a:=by
 have hD:=Dp.start hp h0
 have hokn:=(hD.ok hp h0 hs hn hl hF).2
 have hokp:Bc F p:=by unfold Bc at hokn ⊢;rwa [hD.2.2.1]at hokn
 obtain⟨⟨B,hB⟩,hE⟩:=Hi hp h0 hs hn hl hF p.length (Xb p) hD (by rw [Qq hp];exact Nat.le_refl _)
 rw [←ho]at hB hE
 rw [Zkg hD.2.2.1]at hE
 obtain⟨-,hsq⟩:=Znw hp h0 hs hn hl hF hot o0 hC.1.2.2.1 hokp hE
 obtain⟨δ,d1,d2⟩:=Dd p.length p a (Nat.le_refl _)
 obtain⟨s,s1,s2,s3⟩:∃s,a<s∧s≤a+δ∧s<b:=by
  rcases(show a+δ<b∨b≤a+δ by grind)with q | q
  ·exact⟨a+δ,O4,O4,q⟩
  ·exact⟨(a+b)/2,O4,O4,O4⟩
 have hps:0<Zb p s:=by
  have:=d2 s s1 s2
  rw [h1]at this
  rcases Qk (Zb p s)with⟨h5,h6⟩ | ⟨h5,h6⟩ | ⟨h5,h6⟩
  ·exact h5
  ·rw [h6]at this;exact absurd this O3
  ·rw [h6]at this;exact absurd this O3
 have k1:Zb p s*Zb p b<0:=by have:=Rat.mul_pos (a:=Zb p s) (b:=-Zb p b) hps O4;grind
 obtain⟨c,d,hc,hd,e⟩:=Zdf ((Lq (Zz p)).trans (Qd hp):Sim (Xb p) p)
 have k2:Zb (Xb p) s*Zb (Xb p) b<0:=Zdq (Ql hc) (Ql hd) (e s) (e b) k1
 rw [hB s,hB b]at k2
 have k3:=Zyj k2
 obtain⟨c',d',hc',hd',e'⟩:=Zdf ((Lq (Zz o)).trans (Qd hot):Sim (Xb o) o)
 have k4:Zb (Xb o) s*Zb (Xb o) b<0:=Zdq (Ql hc') (Ql hd') (e' s) (e' b) k3
 rw [←hsq]at k4
 have m1:=Zgo hot o0 hC (Rat.le_of_lt s1)
 rcases Int.lt_or_le (Ch F o b) (Ch F o s)with q | q
 ·exact Int.lt_of_lt_of_le q m1
 ·exfalso
  have hz:Zb (sqf F o) s≠0:=fun e9=>by rw [e9]at k4;grind
  have:=Zbu hot o0 hC (Rat.le_of_lt s3) q hz b (Rat.le_of_lt s3) O4
  grind
theorem Zea:∀(n:Nat) (p:List Int) (x:Rat),Tr p→p≠[]→p.length≤n→Gc n p x≠0
 | 0,p,x,_,h0,hl=>absurd (List.eq_nil_of_length_eq_zero O) h0
 | n+1,p,x,hp,h0,hl=>by
  unfold Gc
  by_cases h:Zb p x≠0
  ·rw [if_pos h]
   rcases Qk (Zb p x)with⟨h5,h6⟩ | ⟨h5,h6⟩ | ⟨h5,h6⟩
   ·rw [h6];decide
   ·rw [h6];decide
   ·exact absurd h5 h
  ·rw [if_neg h]
   have hz:Zb p x=0:=Classical.not_not.1 h
   have ld':=Oa p
   refine Zea n (Yh p) x (Oh hp) (fun e=>?_) O
   rw [e]at ld'
   have l0:=List.length_pos_iff.2 h0
   have hl1:p.length=1:=by simp at ld';omega
   match p,hl1 with
   | [c],_=>
    have hc:c≠0:=hp.mem O5
    rw [Qw]at hz
    exact Ql hc hz
theorem Zml(n:Nat)(p:List Int)(x:Rat):-1≤Gc n p x∧Gc n p x≤1:=by
 induction n generalizing p with
 | zero=>show -1≤(0:Int)∧(0:Int)≤1;decide
 | succ n ih=>unfold Gc;split;exact Zxm _;exact ih _
def Dy(F:Nat)(o:List Int)(a b:Rat):Prop:=0<Ch F o a-Ch F o b-(if Zb o b=0 then 1 else 0)
theorem Zyq{F n:Nat}{p o:List Int}(hp:Tr p)(h0:p≠[])(hs:Sz n p)(hn:n≤220)(hl:p.length≤11)(hF:p.length≤F+1)(ho:o=Zci F p.length (Xb p))(hot:Tr o)(o0:o≠[])(hC:Di F o){a b:Rat}(hab:a<b) :
  (Zb p a<0∨Zb p b<0∨Gc p.length p a<0∨Dy F o a b)↔(Gc p.length p a<0∨Dy F o a b):=by
 constructor
 ·rintro(h | h | h | h)
  ·left
   rw [Zrc p.length p a O4 (Nat.le_refl _),Zjd h];decide
  ·have r:=Zml p.length p a
   have r0:=Zea p.length p a hp h0 (Nat.le_refl _)
   rcases(show Gc p.length p a<0∨Gc p.length p a=1 by omega)with h1 | h1
   ·exact .inl h1
   ·right
    have hv:=Zjn hp h0 hs hn hl hF ho hot o0 hC hab h1 h
    have hD:=Dp.start hp h0
    obtain⟨⟨B,hB⟩,-⟩:=Hi hp h0 hs hn hl hF p.length (Xb p) hD (by rw [Qq hp];exact Nat.le_refl _)
    rw [←ho]at hB
    obtain⟨c,d,hc,hd,e⟩:=Zdf ((Lq (Zz p)).trans (Qd hp):Sim (Xb p) p)
    have hob:Zb o b≠0:=fun e9=>by
     have h5:(c:Rat)*Zb (Xb p) b=(d:Rat)*Zb p b:=e b
     rw [hB b,e9]at h5
     have h6:=Ql hd
     have h7:(d:Rat)*Zb p b=0:=by rw [←h5];grind
     rcases Rat.mul_eq_zero.1 h7 with q | q
     ·exact h6 q
     ·rw [q]at h;grind
    unfold Dy
    rw [if_neg hob]
    omega
  ·exact .inl h
  ·exact .inr h
 ·rintro(h | h)
  ·exact .inr (.inr (.inl h))
  ·exact .inr (.inr (.inr h))
theorem Zvo(p:List Int)(x:Rat)(h:Zb p x≠0):∃δ:Rat,0<δ∧∀y,x-δ≤y→y≤x→Gd (Zb p y)=Gd (Zb p x):=by
 obtain⟨L,l1,l2⟩:=Fs (x-1) x p
 have ha:0<(if 0<Zb p x then Zb p x else -Zb p x):=by split<;>grind
 obtain⟨δ,d1,d2,d3⟩:=Km (show(0:Rat)<1 by decide) (show 0<L+1 by grind) (show 0<(if 0<Zb p x then Zb p x else -Zb p x)/2 by grind)
 refine⟨δ,d1,fun y h1 h2=>?_⟩
 have l:=l2 y x O4 O4 O4
 have b:=Rat.mul_nonneg (a:=L) (b:=δ-(x-y)) O4 O4
 have c:L*(x-y)≤δ*(L+1):=O4
 rcases Qk (Zb p x)with⟨h3,h4⟩ | ⟨h3,h4⟩ | ⟨h3,h4⟩
 ·rw [if_pos h3]at d3 ha;rw [h4];exact Zr1 O4
 ·rw [if_neg O4]at d3 ha;rw [h4];exact Zjd O4
 ·exact absurd h3 h
theorem rsg_1{x:Rat}(h:Gd x=1):0<x:=by
 rcases Qk x with⟨h5,h6⟩ | ⟨h5,h6⟩ | ⟨h5,h6⟩
 ·exact h5
 ·rw [h6]at h;exact absurd h O3
 ·rw [h6]at h;exact absurd h O3
theorem Zkm{x:Rat}(h:Gd x=-1):x<0:=by
 rcases Qk x with⟨h5,h6⟩ | ⟨h5,h6⟩ | ⟨h5,h6⟩
 ·rw [h6]at h;exact absurd h O3
 ·exact h5
 ·rw [h6]at h;exact absurd h O3
def Zwd(p:List Int)(a b:Rat):Prop:=∃x,a≤x∧x≤b∧Zb p x<0
theorem Zzw {xs:List Int} {F:Nat} (hx:Tr xs) (h0:xs≠[]) (hC:Di F xs) {a b σ:Rat} (hσ:σ≠0) (hab:a<b)
  (hpos:∀x,a≤x→x<b→∃δ:Rat,0<δ∧∀y,x<y→y≤x+δ→y≤b→0<σ*Zb (sqf F xs) y) :
  Ch F xs a-Ch F xs b≤(if Zb (sqf F xs) b=0 then 1 else 0):=by
 obtain⟨h,h1,h2⟩:=Zic hx h0 hC a b
 have hge:∀x,a≤x→x<b→0≤σ*Zb (sqf F xs) x:=fun x ha hb=>by
  rcases(show 0≤σ*Zb (sqf F xs) x∨σ*Zb (sqf F xs) x<0 by grind)with q | q
  ·exact q
  ·exfalso
   have hz:Zb (sqf F xs) x≠0:=fun e=>by rw [e]at q;grind
   obtain⟨δ,d1,d2⟩:=hpos x ha hb
   obtain⟨ε,e1,e2⟩:=Zjo (sqf F xs) x hz
   obtain⟨y,y1,y2,y3,y4⟩:∃y,x<y∧y≤x+δ∧y≤x+ε∧y≤b:=by
    rcases(show δ≤ε∨ε≤δ by grind)with w | w
    ·rcases(show x+δ≤b∨b≤x+δ by grind)with v | v
     ·exact⟨x+δ,O4,O4,O4,v⟩
     ·exact⟨b,O4,O4,O4,O4⟩
    ·rcases(show x+ε≤b∨b≤x+ε by grind)with v | v
     ·exact⟨x+ε,O4,O4,O4,v⟩
     ·exact⟨b,O4,O4,O4,O4⟩
   have k1:=d2 y y1 y2 y4
   have k2:=e2 y y1 y3
   rcases Qk (Zb (sqf F xs) x)with⟨h5,h6⟩ | ⟨h5,h6⟩ | ⟨h5,h6⟩
   ·rw [h6]at k2
    have k3:=rsg_1 k2
    rcases(show σ<0∨0<σ by grind)with s | s
    ·have:=Rat.mul_pos (a:=-σ) (b:=Zb (sqf F xs) y) O4 k3;grind
    ·have:=Rat.mul_pos s h5;grind
   ·rw [h6]at k2
    have k3:=Zkm k2
    rcases(show σ<0∨0<σ by grind)with s | s
    ·have:=Rat.mul_pos (a:=-σ) (b:=-Zb (sqf F xs) x) O4 O4;grind
    ·have:=Rat.mul_pos (a:=σ) (b:=-Zb (sqf F xs) y) s O4;grind
   ·exact hz h5
 have hgb:0≤σ*Zb (sqf F xs) b:=by
  rcases(show 0≤σ*Zb (sqf F xs) b∨σ*Zb (sqf F xs) b<0 by grind)with q | q
  ·exact q
  ·exfalso
   have hz:Zb (sqf F xs) b≠0:=fun e=>by rw [e]at q;grind
   obtain⟨ε,e1,e2⟩:=Zvo (sqf F xs) b hz
   obtain⟨y,y1,y2,y3⟩:∃y,a≤y∧y<b∧b-ε≤y:=by
    rcases(show a≤b-ε∨b-ε≤a by grind)with v | v
    ·exact⟨b-ε,v,O4,O4⟩
    ·exact⟨a,O4,hab,v⟩
   obtain⟨δ,d1,d2⟩:=hpos y y1 y2
   obtain⟨z,z1,z2,z3⟩:∃z,y<z∧z≤y+δ∧z≤b:=by
    rcases(show y+δ≤b∨b≤y+δ by grind)with v | v
    ·exact⟨y+δ,O4,O4,v⟩
    ·exact⟨b,y2,O4,O4⟩
   have k1:=d2 z z1 z2 z3
   have k2:=e2 z O4 z3
   rcases Qk (Zb (sqf F xs) b)with⟨h5,h6⟩ | ⟨h5,h6⟩ | ⟨h5,h6⟩
   ·rw [h6]at k2
    have k3:=rsg_1 k2
    rcases(show σ<0∨0<σ by grind)with s | s
    ·have:=Rat.mul_pos (a:=-σ) (b:=Zb (sqf F xs) z) O4 k3;grind
    ·have:=Rat.mul_pos s h5;grind
   ·rw [h6]at k2
    have k3:=Zkm k2
    rcases(show σ<0∨0<σ by grind)with s | s
    ·have:=Rat.mul_pos (a:=-σ) (b:=-Zb (sqf F xs) b) O4 O4;grind
    ·have:=Rat.mul_pos (a:=σ) (b:=-Zb (sqf F xs) z) s O4;grind
   ·exact hz h5
 have hstep:∀u v,a≤u→u≤v→v≤b→v-u≤h/2→Ch F xs u-Ch F xs v≤(if v=b∧Zb (sqf F xs) b=0 then 1 else 0):=fun u v c1 c2 c3 c4=>by
  have e:=h2 u v c1 c2 c3 O4
  have e':Ch F xs u-Ch F xs v=crs (Zb (sqf F xs)) u v:=e
  rw [e']
  unfold crs
  by_cases hc:Zb (sqf F xs) u≠0∧Zb (sqf F xs) u*Zb (sqf F xs) v≤0
  ·rw [if_pos hc]
   have hub:u<b:=by
    rcases(show u<b∨u=b by grind)with q | q
    ·exact q
    ·exfalso
     have:v=u:=O4
     subst this
     have:=Ih hc.1;grind
   have g1:=hge u c1 hub
   have g2:0≤σ*Zb (sqf F xs) v:=by
    rcases(show v<b∨v=b by grind)with q | q
    ·exact hge v O4 q
    ·rw [q];exact hgb
   have hv0:Zb (sqf F xs) v=0:=by
    rcases(show Zb (sqf F xs) v=0∨Zb (sqf F xs) v≠0 by grind)with q | q
    ·exact q
    ·exfalso
     have m1:=Rat.mul_nonneg g1 g2
     have m2:=Ih hσ
     have m3:(σ*σ)*(Zb (sqf F xs) u*Zb (sqf F xs) v)≥0:=O4
     rcases(show Zb (sqf F xs) u*Zb (sqf F xs) v<0∨Zb (sqf F xs) u*Zb (sqf F xs) v=0 by grind)with w | w
     ·have:=Rat.mul_pos m2 (show 0 < -(Zb (sqf F xs) u*Zb (sqf F xs) v) by grind);grind
     ·rcases Rat.mul_eq_zero.1 w with z | z
      ·exact hc.1 z
      ·exact q z
   rcases(show v<b∨v=b by grind)with q | q
   ·exfalso
    obtain⟨δ,d1,d2⟩:=hpos v O4 q
    obtain⟨z,z1,z2,z3,z4⟩:∃z,v<z∧z≤v+δ∧z≤b∧z-v≤h/2:=by
     rcases(show δ≤h/2∨h/2≤δ by grind)with w | w
     ·rcases(show v+δ≤b∨b≤v+δ by grind)with t | t
      ·exact⟨v+δ,O4,O4,t,O4⟩
      ·exact⟨b,q,O4,O4,O4⟩
     ·rcases(show v+h/2≤b∨b≤v+h/2 by grind)with t | t
      ·exact⟨v+h/2,O4,O4,t,O4⟩
      ·exact⟨b,q,O4,O4,O4⟩
    have k1:=d2 z z1 z2 z3
    have a1:=h2 u z c1 O4 z3 O4
    have a2:=h2 v z O4 O4 z3 O4
    have r1:crs (Zb (sqf F xs)) u z=0:=by
     unfold crs
     rw [if_neg]
     rintro⟨w1,w2⟩
     have g3:0<σ*Zb (sqf F xs) u:=by
      rcases(show σ*Zb (sqf F xs) u=0∨0<σ*Zb (sqf F xs) u by grind)with t | t
      ·rcases Rat.mul_eq_zero.1 t with t | t
       ·exact absurd t hσ
       ·exact absurd t w1
      ·exact t
     have m1:=Rat.mul_pos g3 k1
     have m2:=Ih hσ
     have m3:0<(σ*σ)*(Zb (sqf F xs) u*Zb (sqf F xs) z):=O4
     have m4:=Rat.mul_nonneg (a:=σ*σ) (b:=-(Zb (sqf F xs) u*Zb (sqf F xs) z)) O4 O4
     grind
    have r2:crs (Zb (sqf F xs)) v z=0:=by unfold crs;rw [if_neg];rintro⟨w1,w2⟩;exact w1 hv0
    have r3:crs (Zb (sqf F xs)) u v=1:=by unfold crs;rw [if_pos hc]
    rw [r1]at a1;rw [r2]at a2;rw [r3]at e
    omega
   ·rw [q]at hv0
    rw [if_pos ⟨q,hv0⟩];decide
  ·rw [if_neg hc]
   split<;>decide
 have key:∀n:Nat,∀u,a≤u→u≤b→b-u≤(n:Rat)*(h/2)→Ch F xs u-Ch F xs b≤(if Zb (sqf F xs) b=0 then 1 else 0):=fun n=>by
  induction n with
  | zero=>
   intro u c1 c2 c3
   have:u=b:=by push_cast at c3;grind
   subst this
   rw [Int.sub_self]
   split<;>decide
  | succ n ih=>
   intro u c1 c2 c3
   push_cast at c3
   by_cases hy:b-u≤h/2
   ·have:=hstep u b c1 c2 O4 hy
    by_cases hz:Zb (sqf F xs) b=0
    ·rw [if_pos ⟨rfl,hz⟩]at this;rw [if_pos hz];exact this
    ·rw [if_neg (fun e=>hz e.2)]at this;rw [if_neg hz];exact this
   ·have i1:=ih (u+h/2) O4 O4 O4
    have i2:=hstep u (u+h/2) c1 O4 O4 O4
    rw [if_neg (fun e=>by have:=e.1;grind)]at i2
    generalize (if Zb (sqf F xs) b=0 then(1:Int)else 0)=t at *
    omega
 obtain⟨n,hn⟩:=Zd9 (b-a) (show 0<h/2 by grind)
 exact key n a O4 O4 hn
structure Odp (F n:Nat) (p o:List Int):Prop where
 tr:Tr p
 ne:p≠[]
 sz:Sz n p
 hn:n≤220
 hl:p.length≤11
 hF:p.length≤F+1
 eq:o=Zci F p.length (Xb p)
 otr:Tr o
 one:o≠[]
 ok:Di F o
theorem Odp.sq{F n:Nat}{p o:List Int}(h:Odp F n p o):∃(c d:Int) (B:List Int),c≠0∧d≠0∧∀x:Rat,(d:Rat)*Zb p x=(c:Rat)*(Zb o x*(Zb B x*Zb B x)):=by
 have hD:=Dp.start h.tr h.ne
 obtain⟨⟨B,hB⟩,-⟩:=Hi h.tr h.ne h.sz h.hn h.hl h.hF p.length (Xb p) hD (by rw [Qq h.tr];exact Nat.le_refl _)
 rw [←h.eq]at hB
 obtain⟨c,d,hc,hd,e⟩:=Zdf ((Lq (Zz p)).trans (Qd h.tr):Sim (Xb p) p)
 exact⟨c,d,B,hc,hd,fun x=>by rw [←hB x];exact(e x).symm⟩
theorem Odp.sqf{F n:Nat}{p o:List Int}(h:Odp F n p o):Go.Sky.sqf F o=Xb o:=by
 have hD:=Dp.start h.tr h.ne
 have hokn:=(hD.ok h.tr h.ne h.sz h.hn h.hl h.hF).2
 have hokp:Bc F p:=by unfold Bc at hokn ⊢;rwa [hD.2.2.1]at hokn
 obtain⟨-,hE⟩:=Hi h.tr h.ne h.sz h.hn h.hl h.hF p.length (Xb p) hD (by rw [Qq h.tr];exact Nat.le_refl _)
 rw [←h.eq]at hE
 rw [Zkg hD.2.2.1]at hE
 exact(Znw h.tr h.ne h.sz h.hn h.hl h.hF h.otr h.one h.ok.1.2.2.1 hokp hE).2
theorem Odp.srt{F n:Nat}{p o:List Int}(h:Odp F n p o):∃c d:Int,c≠0∧d≠0∧∀x:Rat,(c:Rat)*Zb (Go.Sky.sqf F o) x=(d:Rat)*Zb o x:=by
 rw [h.sqf]
 exact Zdf ((Lq (Zz o)).trans (Qd h.otr):Sim (Xb o) o)
theorem Odp.zero{F n:Nat}{p o:List Int}(h:Odp F n p o)(x:Rat):Zb (Go.Sky.sqf F o) x=0↔Zb o x=0:=by
 obtain⟨c,d,hc,hd,e⟩:=h.srt
 have e1:=e x
 constructor
 ·intro z;rw [z]at e1;rcases Rat.mul_eq_zero.1 (show(d:Rat)*Zb o x=0 by grind)with q | q
  ·exact absurd q (Ql hd)
  ·exact q
 ·intro z;rw [z]at e1;rcases Rat.mul_eq_zero.1 (show(c:Rat)*Zb (Go.Sky.sqf F o) x=0 by grind)with q | q
  ·exact absurd q (Ql hc)
  ·exact q
theorem Odp.nz{F n:Nat}{p o:List Int}(h:Odp F n p o){x:Rat}(hx:Zb p x≠0):Zb o x≠0:=fun z=>by
 obtain⟨c,d,B,hc,hd,e⟩:=h.sq
 have e1:=e x
 rw [z]at e1
 rcases Rat.mul_eq_zero.1 (show(d:Rat)*Zb p x=0 by grind)with q | q
 ·exact Ql hd q
 ·exact hx q
theorem Odp.opp{F n:Nat}{p o:List Int}(h:Odp F n p o){x y:Rat}(hxy:Zb p x*Zb p y<0):Zb o x*Zb o y<0∧Zb (Go.Sky.sqf F o) x*Zb (Go.Sky.sqf F o) y<0:=by
 obtain⟨c,d,B,hc,hd,e⟩:=h.sq
 have k1:(Zb o x*(Zb B x*Zb B x))*(Zb o y*(Zb B y*Zb B y))<0:=Zdq (Ql hc) (Ql hd) (e x).symm (e y).symm hxy
 have k2:=Zyj k1
 obtain⟨c',d',hc',hd',e'⟩:=h.srt
 exact⟨k2,Zdq (Ql hc') (Ql hd') (e' x) (e' y) k2⟩
theorem Odp.sem{F n:Nat}{p o:List Int}(h:Odp F n p o){a b:Rat}(hab:a<b):(Gc p.length p a<0∨Dy F o a b)↔Zwd p a b:=by
 have hsame:=Zyq h.tr h.ne h.sz h.hn h.hl h.hF h.eq h.otr h.one h.ok hab
 constructor
 ·rintro(h1 | h1)
  ·obtain⟨δ,d1,d2⟩:=Dd p.length p a (Nat.le_refl _)
   have r:=Zml p.length p a
   have hm:Gc p.length p a=-1:=O
   rcases(show a+δ≤b∨b≤a+δ by grind)with q | q
   ·exact⟨a+δ,O4,q,Zkm (by rw [d2 (a+δ) O4 O4,hm])⟩
   ·exact⟨b,O4,O4,Zkm (by rw [d2 b hab q,hm])⟩
  ·rcases Classical.em (Zwd p a b)with q | q
   ·exact q
   ·exfalso
    have hge:∀x,a≤x→x≤b→0≤Zb p x:=fun x u v=>by
     rcases(show 0≤Zb p x∨Zb p x<0 by grind)with w | w
     ·exact w
     ·exact absurd ⟨x,u,v,w⟩ q
    have haft:∀x,a≤x→x<b→∃δ:Rat,0<δ∧∀y,x<y→y≤x+δ→y≤b→0<Zb p y:=fun x u v=>by
     obtain⟨δ,d1,d2⟩:=Dd p.length p x (Nat.le_refl _)
     have r:=Zml p.length p x
     have r0:=Zea p.length p x h.tr h.ne (Nat.le_refl _)
     refine⟨δ,d1,fun y c1 c2 c3=>?_⟩
     have s:=d2 y c1 c2
     rcases Qk (Zb p y)with⟨h5,h6⟩ | ⟨h5,h6⟩ | ⟨h5,h6⟩
     ·exact h5
     ·have:=hge y O4 c3;grind
     ·rw [h6]at s;exact absurd s.symm r0
    obtain⟨δ,d1,d2⟩:=haft a O4 hab
    obtain⟨z,z1,z2,z3⟩:∃z,a<z∧z≤a+δ∧z≤b:=by
     rcases(show a+δ≤b∨b≤a+δ by grind)with w | w
     ·exact⟨a+δ,O4,O4,w⟩
     ·exact⟨b,hab,w,O4⟩
    have hz:=d2 z z1 z2 z3
    have hσ:Zb (Go.Sky.sqf F o) z≠0:=fun e=>h.nz (x:=z) O4 ((h.zero z).1 e)
    have hf:=Zzw h.otr h.one h.ok (σ:=Zb (Go.Sky.sqf F o) z) hσ hab (fun x u v=>by
     obtain⟨ε,e1,e2⟩:=haft x u v
     refine⟨ε,e1,fun y c1 c2 c3=>?_⟩
     have hy:=e2 y c1 c2 c3
     have hyn:Zb (Go.Sky.sqf F o) y≠0:=fun e=>h.nz (x:=y) O4 ((h.zero y).1 e)
     rcases(show 0<Zb (Go.Sky.sqf F o) z*Zb (Go.Sky.sqf F o) y∨Zb (Go.Sky.sqf F o) z*Zb (Go.Sky.sqf F o) y<0∨Zb (Go.Sky.sqf F o) z*Zb (Go.Sky.sqf F o) y=0 by grind)with w | w | w
     ·exact w
     ·exfalso
      obtain⟨c,d,B,hc,hd,e⟩:=h.sq
      obtain⟨c',d',hc',hd',e'⟩:=h.srt
      have w1:Zb o z*Zb o y<0:=Zdq (Ql hd') (Ql hc') (e' z).symm (e' y).symm w
      have p1:=Rat.mul_pos hz hy
      have q1:((d:Rat)*(d:Rat))*(Zb p z*Zb p y)=((c:Rat)*(c:Rat))*((Zb o z*Zb o y)*((Zb B z*Zb B y)*(Zb B z*Zb B y))):=by
       have a1:=e z
       have a2:=e y
       have:((d:Rat)*Zb p z)*((d:Rat)*Zb p y)=((c:Rat)*(Zb o z*(Zb B z*Zb B z)))*((c:Rat)*(Zb o y*(Zb B y*Zb B y))):=by rw [a1,a2]
       grind
      have q2:=Rat.mul_pos (Ih (Ql hd)) p1
      have q3:0≤(Zb B z*Zb B y)*(Zb B z*Zb B y):=by
       by_cases t:Zb B z*Zb B y=0
       ·rw [t];grind
       ·exact Rat.le_of_lt (Ih t)
      have q4:=Rat.mul_nonneg (Rat.le_of_lt (Ih (Ql hc))) (Rat.mul_nonneg (show 0≤-(Zb o z*Zb o y) by grind) q3)
      grind
     ·rcases Rat.mul_eq_zero.1 w with t | t
      ·exact absurd t hσ
      ·exact absurd t hyn)
    unfold Dy at h1
    by_cases hb0:Zb o b=0
    ·rw [if_pos hb0]at h1;rw [if_pos ((h.zero b).2 hb0)]at hf;omega
    ·rw [if_neg hb0]at h1;rw [if_neg (fun e=>hb0 ((h.zero b).1 e))]at hf;omega
 ·rintro⟨x,x1,x2,x3⟩
  rcases(show x=a∨x=b∨(a<x∧x<b) by grind)with q | q | ⟨q1,q2⟩
  ·subst q;exact hsame.1 (.inl x3)
  ·subst q;exact hsame.1 (.inr (.inl x3))
  ·have r:=Zml p.length p a
   have r0:=Zea p.length p a h.tr h.ne (Nat.le_refl _)
   rcases(show Gc p.length p a<0∨Gc p.length p a=1 by omega)with h1 | h1
   ·exact .inl h1
   ·right
    have hv:=Zjn h.tr h.ne h.sz h.hn h.hl h.hF h.eq h.otr h.one h.ok q1 h1 x3
    have m1:=Zgo h.otr h.one h.ok (Rat.le_of_lt q2)
    unfold Dy
    by_cases hb0:Zb o b=0
    ·rw [if_pos hb0]
     have hx:Zb (Go.Sky.sqf F o) x≠0:=fun e=>h.nz (x:=x) O4 ((h.zero x).1 e)
     rcases Int.lt_or_le (Ch F o b) (Ch F o x)with w | w
     ·omega
     ·exfalso
      have:=Zbu h.otr h.one h.ok (Rat.le_of_lt q2) w hx b (Rat.le_of_lt q2) O4
      rw [(h.zero b).2 hb0]at this
      grind
    ·rw [if_neg hb0];omega
theorem Zoh(g:Rat→Rat){h:Rat}(hh:0<h):∀(n:Nat) (u v:Rat),u<v→v-u≤(n:Rat)*h→g u*g v<0→∃x y,u≤x∧x<y∧y≤v∧y-x≤h∧g x≠0∧g x*g y≤0
 | 0,u,v,a,b,_=>by push_cast at b;grind
 | n+1,u,v,a,b,c=>by
  push_cast at b
  have hu:g u≠0:=fun e=>by rw [e]at c;grind
  by_cases hd:v-u≤h
  ·exact⟨u,v,O4,a,O4,hd,hu,O4⟩
  ·rcases(show g u*g (u+h)≤0∨0<g u*g (u+h) by grind)with q | q
   ·exact⟨u,u+h,O4,O4,O4,O4,hu,q⟩
   ·have hz:g (u+h)*g v<0:=by
     have s1:=Ih hu
     rcases(show g (u+h)*g v<0∨0≤g (u+h)*g v by grind)with w | w
     ·exact w
     ·have m1:=Rat.mul_pos q (show 0 < -(g u*g v) by grind)
      have m2:=Rat.mul_nonneg (Rat.le_of_lt s1) w
      grind
    obtain⟨x,y,i1,i2,i3,i4,i5,i6⟩:=Zoh g hh n (u+h) v O4 O4 hz
    exact⟨x,y,O4,i2,i3,i4,i5,i6⟩
theorem Zjm{a b c:Rat}(h:a*b<0)(h1:a-b≤c)(h2:b-a≤c):-c≤a∧a≤c:=by
 rcases(show 0<a∨a<0∨a=0 by grind)with q | q | q
 ·have:b<0:=by
   rcases(show b<0∨0≤b by grind)with w | w
   ·exact w
   ·have:=Rat.mul_nonneg (Rat.le_of_lt q) w;grind
  grind
 ·have:0<b:=by
   rcases(show 0<b∨b≤0 by grind)with w | w
   ·exact w
   ·have:=Rat.mul_nonneg (show 0≤-a by grind) (show 0≤-b by grind);grind
  grind
 ·rw [q]at h;grind
theorem Zop{xs o:List Int}{F:Nat}(hx:Tr xs)(h0:xs≠[])(hC:Di F xs)(ho:Tr o)(o0:o≠[])(hE:Ed o (sqf F xs)){u v:Rat}(huv:u<v)(hu:Zb (sqf F xs) u≠0)(h:Zb o u*Zb o v<0):Ch F xs v<Ch F xs u:=by
 rcases Int.lt_or_le (Ch F xs v) (Ch F xs u)with q | q
 ·exact q
 ·exfalso
  have hk:=Zbu hx h0 hC (Rat.le_of_lt huv) q hu
  obtain⟨k,w,k0,hw⟩:=hE
  have hkr:=Ql k0
  have hcop:∀d,Tr d→Ed d o→Ed d (tzl w)→d.length≤1:=fun d hd e1 e2=>by
   obtain⟨k1,s1,c1,r1⟩:=e1
   obtain⟨k2,s2,c2,r2⟩:=e2
   refine Zdd hx h0 hC.1.2.2.1 hd ⟨k*k1,Qc w s1,Int.mul_ne_zero k0 c1,fun x=>?_⟩ ⟨k*k1*k2,Nu ((Qc (ld w) s1).map fun a=>k2*a) ((Qc s2 (ld o)).map fun a=>k1*a),Int.mul_ne_zero (Int.mul_ne_zero k0 c1) c2,fun x=>?_⟩
   ·rw [Zn];have a1:=hw x;have a2:=r1 x;push_cast;grind
   ·rw [Yz,Zf,Zf,Zn,Zn,Mr]
    have a0:=Fd (p:=(sqf F xs).map fun a=>k*a) (q:=Qc w o) (fun y=>by rw [Zf,Zn];exact hw y) x
    rw [Dm,Fv]at a0
    have a2:=r1 x
    have a3:=r2 x
    rw [Ni]at a3
    push_cast
    have b1:(k:Rat)*k1*k2*Zb (ld (sqf F xs)) x=(k1:Rat)*k2*(Zb (ld w) x*Zb o x+Zb w x*Zb (ld o) x):=by rw [←a0];grind
    rw [b1]
    have b2:(k1:Rat)*k2*(Zb (ld w) x*Zb o x+Zb w x*Zb (ld o) x)=(k2:Rat)*(Zb (ld w) x*((k1:Rat)*Zb o x))+(k1:Rat)*(((k2:Rat)*Zb w x)*Zb (ld o) x):=O4
    rw [b2,a2,a3]
    grind
  obtain⟨ε,e1,e2⟩:=Zts ho (Qo w) o0 hcop u v
  obtain⟨L1,l1,l2⟩:=Fs u v o
  obtain⟨L2,m1,m2⟩:=Fs u v w
  obtain⟨h',d1,-,d3⟩:=Km (show(0:Rat)<1 by decide) (show 0<L1+L2 by grind) (show 0<ε/2 by grind)
  obtain⟨n,hn⟩:=Zd9 (v-u) d1
  obtain⟨x,y,x1,x2,x3,x4,x5,x6⟩:=Zoh (Zb o) d1 n u v huv hn h
  have sx:=hk x x1 O4
  have sy:=hk y O4 x3
  have ox:=hw x
  have oy:=hw y
  have hy0:Zb o y≠0:=fun e=>by
   rw [e]at oy
   rcases Rat.mul_eq_zero.1 (show(k:Rat)*Zb (sqf F xs) y=0 by grind)with t | t
   ·exact hkr t
   ·rw [t]at sy;grind
  have hoo:Zb o x*Zb o y<0:=by
   rcases(show Zb o x*Zb o y<0∨Zb o x*Zb o y=0 by grind)with t | t
   ·exact t
   ·rcases Rat.mul_eq_zero.1 t with t | t
    ·exact absurd t x5
    ·exact absurd t hy0
  have sxy:0<Zb (sqf F xs) x*Zb (sqf F xs) y:=by
   have a1:=Rat.mul_pos sx sy
   have a2:=Ih hu
   rcases(show 0<Zb (sqf F xs) x*Zb (sqf F xs) y∨Zb (sqf F xs) x*Zb (sqf F xs) y≤0 by grind)with t | t
   ·exact t
   ·have:=Rat.mul_nonneg (Rat.le_of_lt a2) (show 0≤-(Zb (sqf F xs) x*Zb (sqf F xs) y) by grind);grind
  have hww:Zb w x*Zb w y<0:=by
   have a1:(k:Rat)*k*(Zb (sqf F xs) x*Zb (sqf F xs) y)=(Zb w x*Zb w y)*(Zb o x*Zb o y):=by
    have:((k:Rat)*Zb (sqf F xs) x)*((k:Rat)*Zb (sqf F xs) y)=(Zb w x*Zb o x)*(Zb w y*Zb o y):=by rw [ox,oy]
    grind
   have a2:=Rat.mul_pos (Ih hkr) sxy
   rcases(show Zb w x*Zb w y<0∨0≤Zb w x*Zb w y by grind)with t | t
   ·exact t
   ·have:=Rat.mul_nonneg t (show 0≤-(Zb o x*Zb o y) by grind);grind
  have c1:=l2 x y x1 O4 x3
  have c2:=m2 x y x1 O4 x3
  have n1:=Rat.mul_nonneg (a:=L1) (b:=h'-(y-x)) O4 O4
  have n2:=Rat.mul_nonneg (a:=L2) (b:=h'-(y-x)) O4 O4
  have n3:=Rat.mul_nonneg (a:=L1) (b:=h') O4 O4
  have n4:=Rat.mul_nonneg (a:=L2) (b:=h') O4 O4
  obtain⟨b1,b2⟩:=Zjm (c:=ε/2) hoo O4 O4
  obtain⟨b3,b4⟩:=Zjm (c:=ε/2) hww O4 O4
  rcases e2 x x1 O4 with t | t
  ·unfold Big at t;grind
  ·unfold Big at t;rw [Ni]at t;grind
theorem Zjf{xs:List Int}{F:Nat}(hx:Tr xs)(h0:xs≠[])(hC:Di F xs){u v:Rat}(huv:u<v)(hu:Zb (sqf F xs) u≠0)(hv:Zb (sqf F xs) v=0):Ch F xs v<Ch F xs u:=by
 rcases Int.lt_or_le (Ch F xs v) (Ch F xs u)with q | q
 ·exact q
 ·exfalso
  have:=Zbu hx h0 hC (Rat.le_of_lt huv) q hu v (Rat.le_of_lt huv) O4
  rw [hv]at this;grind
theorem Odp.ed{F n:Nat}{p o:List Int}(h:Odp F n p o):Ed o (Go.Sky.sqf F p):=by
 have hD:=Dp.start h.tr h.ne
 obtain⟨-,hE⟩:=Hi h.tr h.ne h.sz h.hn h.hl h.hF p.length (Xb p) hD (by rw [Qq h.tr];exact Nat.le_refl _)
 rw [←h.eq]at hE
 rwa [Zkg hD.2.2.1]at hE
theorem Zw1{xs:List Int}{F:Nat}(hx:Tr xs)(h0:xs≠[])(hC:Di F xs)(x:Rat):Zb xs x=0↔Zb (sqf F xs) x=0:=by
 constructor
 ·intro h
  have hd:(x.den:Int)≠0:=by exact_mod_cast x.den_nz
  have e:((x.num:Int):Rat)/((x.den:Int):Rat)=x:=by rw [←Rat.divInt_eq_div];exact Rat.num_divInt_den x
  have:=Zw3 hx h0 hC.1.2.2.1 hd (r:=x.num) (by rw [e];exact h)
  rwa [e]at this
 ·intro h
  obtain⟨g,hg⟩:=Yb9 hx h0 hC.1.2.2.1
  rw [hg x,h];grind
theorem Ycv {F n:Nat} {p o:List Int} (h:Odp F n p o) (hC:Di F p) {K:Nat} {e:Nat} (sep:∀u v:Rat,-(K:Rat)≤u→u≤v→v≤(K:Rat)→v-u≤1/((2^e:Nat):Rat)→Ch F p u-Ch F p v≤1)
  {s t:Rat} (h1:-(K:Rat)+1≤s) (h2:t≤(K:Rat)) (hs:0≤Zb p s) (ht:0≤Zb p t) (hn:Zwd p s t):1/((2^(e+1):Nat):Rat)<t-s:=by
 obtain⟨x,x1,x2,x3⟩:=hn
 have y1:s<x:=by rcases(show s<x∨s=x by grind)with q | q;exact q;subst q;grind
 have y2:x<t:=by rcases(show x<t∨x=t by grind)with q | q;exact q;subst q;grind
 obtain⟨f1,f2,f3,f4,f5,f6⟩:=Oi (F:=F) h.tr h.ne hC.1.2.2.1
 have hx0:Zb (Go.Sky.sqf F p) x≠0:=fun z=>by have:=(Zw1 h.tr h.ne hC x).2 z;grind
 rcases(show 1/((2^(e+1):Nat):Rat)<t-s∨t-s≤1/((2^(e+1):Nat):Rat) by grind)with q | q
 ·exact q
 ·exfalso
  have hp:=two_pow_pos e
  have hp1:=two_pow_pos (e+1)
  have e2:((2^(e+1):Nat):Rat)=2*((2^e:Nat):Rat):=by rw [Nat.pow_succ];push_cast;grind
  have hi:0<((2^e:Nat):Rat)⁻¹:=Rat.inv_pos.2 hp
  have h2e:1/((2^(e+1):Nat):Rat)=((2^e:Nat):Rat)⁻¹/2:=by rw [e2];grind
  have h1e:1/((2^e:Nat):Rat)=((2^e:Nat):Rat)⁻¹:=O4
  have hle:((2^e:Nat):Rat)⁻¹≤1:=by
   have g1:(1:Rat)≤((2^e:Nat):Rat):=by have:1≤2^e:=Nat.two_pow_pos e;exact_mod_cast this
   have g2:=Rat.mul_nonneg (a:=((2^e:Nat):Rat)-1) (b:=((2^e:Nat):Rat)⁻¹) O4 O4
   have g3:((2^e:Nat):Rat)*((2^e:Nat):Rat)⁻¹=1:=Rat.mul_inv_cancel _ O4
   grind
  obtain⟨u,u1,u2,u3⟩:∃u,s-((2^e:Nat):Rat)⁻¹/2≤u∧u≤s∧Ch F p x<Ch F p u:=by
   by_cases z:Zb (Go.Sky.sqf F p) s=0
   ·obtain⟨δ,d1,d2⟩:=Dd (Go.Sky.sqf F p).length (Go.Sky.sqf F p) (s-((2^e:Nat):Rat)⁻¹/2) (Nat.le_refl _)
    have a0:=Zea (Go.Sky.sqf F p).length (Go.Sky.sqf F p) (s-((2^e:Nat):Rat)⁻¹/2) f2 f3 (Nat.le_refl _)
    obtain⟨u,w1,w2,w3⟩:∃u,s-((2^e:Nat):Rat)⁻¹/2<u∧u≤s-((2^e:Nat):Rat)⁻¹/2+δ∧u<s:=by
     rcases(show s-((2^e:Nat):Rat)⁻¹/2+δ<s∨s≤s-((2^e:Nat):Rat)⁻¹/2+δ by grind)with w | w
     ·exact⟨_,O4,Rat.le_refl,w⟩
     ·exact⟨s-((2^e:Nat):Rat)⁻¹/4,O4,O4,O4⟩
    have hu:Zb (Go.Sky.sqf F p) u≠0:=fun c=>by have:=d2 u w1 w2;rw [c]at this;exact a0 this.symm
    have m1:=Zjf h.tr h.ne hC w3 hu z
    have m2:=Zgo h.tr h.ne hC (Rat.le_of_lt y1)
    exact⟨u,O4,O4,O⟩
   ·have hp0:0<Zb p s:=by
     have:Zb p s≠0:=fun c=>z ((Zw1 h.tr h.ne hC s).1 c)
     grind
    have k:=h.opp (x:=s) (y:=x) (by have:=Rat.mul_pos hp0 (show 0 < -Zb p x by grind);grind)
    exact⟨s,O4,O4,Zop h.tr h.ne hC h.otr h.one h.ed y1 z k.1⟩
  have u4:Ch F p t<Ch F p x:=by
   by_cases z:Zb (Go.Sky.sqf F p) t=0
   ·exact Zjf h.tr h.ne hC y2 hx0 z
   ·have hp0:0<Zb p t:=by
     have:Zb p t≠0:=fun c=>z ((Zw1 h.tr h.ne hC t).1 c)
     grind
    have k:=h.opp (x:=x) (y:=t) (by have:=Rat.mul_pos hp0 (show 0 < -Zb p x by grind);grind)
    exact Zop h.tr h.ne hC h.otr h.one h.ed y2 hx0 k.1
  have:=sep u t O4 O4 h2 O4
  omega
def Zaf(xs:List Int)(m:Nat):Prop:=xs.length=0∨(xs.length+2)*(xs.length+2)*(Pi xs+m+2*(xs.length-1)+32)≤65536
instance (xs:List Int) (m:Nat):Decidable (Zaf xs m):=by unfold Zaf;infer_instance
theorem sgf_t{xs:List Int}{m:Nat}(h:xs.length=0):Value.bool (decide (Zaf xs m))= .bool true:=congrArg Value.bool (decide_eq_true (.inl h))
theorem sgf_i{xs:List Int}{m:Nat}{n:Int}(h:xs.length≠0)(hn:n=(((xs.length+2)*(xs.length+2)*(Pi xs+m+2*(xs.length-1)+32):Nat):Int)):Value.bool (decide (Zaf xs m))= .bool (decide (n≤65536)):=congrArg Value.bool (decide_eq_decide.2 (by
 subst hn
 show(xs.length=0∨_≤65536)↔_
 constructor
 ·intro h1;rcases h1 with h1 | h1
  ·exact absurd h1 h
  ·exact Int.ofNat_le.2 h1
 ·intro h1;exact .inr (Int.ofNat_le.1 h1)))
def efit(z:R2):Bool:=decide (max (bl z.1.natAbs) (bl z.2.natAbs)≤512)
def Zln:List Int→Int
 | []=>0
 | x :: r=>if x=0 then Zln r else x
theorem Zoj{s:Int}(h:s≠0):∀{L:List Int} {i:Nat},i<L.length→(∀k,k<i→L.getD k 0=0)→L.getD i 0=s→Zln L=s
 | [],i,hi,_,_=>absurd hi O5
 | x :: r,0,_,_,hs=>by have e:x=s:=hs;subst e;unfold Zln;rw [if_neg h]
 | x :: r,i+1,hi,hz,hs=>by
  have e:x=0:=hz 0 O
  unfold Zln;rw [if_pos e]
  exact Zoj h (L:=r) (i:=i) (by simpa using hi) (fun k hk=>hz (k+1) O) hs
theorem Zjw:∀{L:List Int},(∀k,k<L.length→L.getD k 0=0)→Zln L=0
 | [],_=>rfl
 | x :: r,hz=>by
  have e:x=0:=hz 0 O5
  unfold Zln;rw [if_pos e]
  exact Zjw fun k hk=>hz (k+1) (by simpa using hk)
def aft(Ls:List (List Int))(m:R2):Int:=Zln (Ls.map (fat m.1 m.2))
def vlu(Ls:List (List Int))(m:R2):Int:=if Ls.length=0 then 0 else fat m.1 m.2 (Ls.getD 0 [])
def chv(Ls:List (List Int))(m:R2):Int:=chg (Ls.map (fat m.1 m.2))
def crb(Ls:List (List Int))(a b:R2):Bool:=if Ls.length=0 then false else decide (0<chv Ls a-chv Ls b-if fat b.1 b.2 (Ls.getD 0 [])=0 then 1 else 0)
def cmp(a b:R2):Int:=(a.1*b.2-b.1*a.2).sign
def ngb(ds cs:List (List Int))(a b:R2):Bool:=if cmp a b=0 then decide (vlu ds a<0)else(decide (aft ds a<0) || crb cs a b)
theorem Zug(ls:List (SL×List Int))(x y:Int):aft (ls.map Prod.snd) (x,y)=Zln (sgx ls (fat x y)):=by unfold aft;rw [Zrt rfl]
theorem Yd4(ls:List (SL×List Int))(x y:Int):chv (ls.map Prod.snd) (x,y)=chg (sgx ls (fat x y)):=by unfold chv;rw [Zrt rfl]
theorem Zel(ls:List (SL×List Int)){i:Nat}(h:i<ls.length):(ls.map Prod.snd).getD i []=(ls.getD i Z0).2:=by
 rw [List.getD_eq_getElem?_getD,List.getD_eq_getElem?_getD,List.getElem?_map,List.getElem?_eq_getElem h];rfl
theorem chv_r(Ls:List (List Int))(m:R2):0≤chv Ls m∧chv Ls m≤(Ls.length:Int):=by
 have:=Ze5 (Ls.map (fat m.1 m.2));rw [List.length_map]at this;exact this
theorem Znf{x:Rat}(h:Gd x=0):x=0:=by
 rcases Qk x with⟨h5,h6⟩ | ⟨h5,h6⟩ | ⟨h5,h6⟩
 ·rw [h6]at h;exact absurd h O3
 ·rw [h6]at h;exact absurd h O3
 ·exact h5
theorem sgm_i{x l:Int}(hx:-1≤x∧x≤1)(hl:-1≤l∧l≤1):Xo (x*l):=by
 rcases(show x=-1∨x=0∨x=1 by omega)with h | h | h<;>subst h
 ·exact⟨O,O⟩
 ·exact⟨O,O⟩
 ·exact⟨O,O⟩
theorem Zrv{x l:Int}(hx:-1≤x∧x≤1)(hl:-1≤l∧l≤1)(h:x*l<0):x=-l:=by
 rcases(show x=-1∨x=0∨x=1 by omega)with h | h | h<;>subst h<;>omega
theorem Zru{x l:Int}(hx:-1≤x∧x≤1)(hl:-1≤l∧l≤1)(h:¬x*l<0)(h0:x≠0):¬x=-l:=by
 rcases(show x=-1∨x=0∨x=1 by omega)with h | h | h<;>subst h<;>omega
theorem Zrw{x l:Int}(h:x=0):¬x*l<0:=by subst h;omega
theorem crb_t{cs:List (SL×List Int)}{x y x2 y2:Int}(h:cs.length≠0)(h0:fat x2 y2 (cs.getD 0 Z0).2=0):Value.bool (crb (cs.map Prod.snd) (x,y) (x2,y2))= .bool (decide (0<chv (cs.map Prod.snd) (x,y)-chv (cs.map Prod.snd) (x2,y2)-1)):=by
 unfold crb;rw [List.length_map,if_neg h,Zel _ O,if_pos h0]
theorem crb_f{cs:List (SL×List Int)}{x y x2 y2:Int}(h:cs.length≠0)(h0:¬fat x2 y2 (cs.getD 0 Z0).2=0):Value.bool (crb (cs.map Prod.snd) (x,y) (x2,y2))= .bool (decide (0<chv (cs.map Prod.snd) (x,y)-chv (cs.map Prod.snd) (x2,y2))):=by
 unfold crb;rw [List.length_map,if_neg h,Zel _ O,if_neg h0,Int.sub_zero]
theorem ngb_t{ds cs:List (List Int)}{a b:R2}(h:¬cmp a b=0)(h0:aft ds a<0):Value.bool (ngb ds cs a b)= .bool true:=by
 unfold ngb;rw [if_neg h,decide_eq_true h0];rfl
theorem ngb_f{ds cs:List (List Int)}{a b:R2}(h:¬cmp a b=0)(h0:¬aft ds a<0):Value.bool (ngb ds cs a b)= .bool (crb cs a b):=by
 unfold ngb;rw [if_neg h,decide_eq_false h0];rfl
def Zcw:Nat→List Int→List (List Int)
 | 0,_=>[]
 | n+1,p=>if p.length=0 then []else p :: Zcw n (Yh p)
theorem Zou{m:R2}(hm:0<m.2):∀(n:Nat) (p:List Int),p.length≤n→aft (Zcw n p) m=Gc n p (qv m)
 | 0,p,hl=>rfl
 | n+1,p,hl=>by
  unfold Zcw
  by_cases h0:p.length=0
  ·rw [if_pos h0]
   have:p=[]:=List.eq_nil_of_length_eq_zero h0
   subst this
   have hz:∀n,Gc n [] (qv m)=0:=fun n=>by
    induction n with
    | zero=>rfl
    | succ n ih=>unfold Gc;rw [if_neg (by show ¬(0:Rat)≠0;simp)];exact ih
   rw [hz];rfl
  ·rw [if_neg h0]
   have ld':=Oa p
   have ih:=Zou hm n (Yh p) O
   unfold aft at ih ⊢
   rw [List.map_cons]
   unfold Zln Gc
   have hf:fat m.1 m.2 p=Gd (Zb p (qv m)):=Zlp hm p
   rw [hf]
   by_cases hz:Zb p (qv m)=0
   ·rw [if_pos (Zng hz),if_neg (by simpa using hz)];exact ih
   ·rw [if_neg (fun e=>hz (Znf e)),if_pos hz]
structure Cvd (xs:List Int):Prop where
 v:Vp xs
 s:Sz 185 xs
 l:xs.length≤9
theorem Ztf{xs r:List Int}(h:Cvd xs)(h0:xs≠[])(hr:Dp xs r):Sz 315 r∧r.length≤9:=by
 obtain⟨s1,s2⟩:=hr.sz h.v.tr h0 h.s (by have:=h.l;omega)
 exact⟨s1,by have:=h.l;omega⟩
theorem Zge{xs r:List Int}(h:Cvd xs)(h0:xs≠[])(hr:Dp xs r) :
  Vp r∧r≠[]∧(∀i,bl (cf r (i+1)*((i:Int)+1)).natAbs≤65536)∧Vp (Yh r)∧¬Zju r (Yh r)∧eok 13 (gA r (Yh r)) (gB r (Yh r))∧Na 13 r (Yh r)=Nh 13 r∧Vp (Nh 13 r)∧
  Ea r (Nh 13 r)=0∧pdv r (Nh 13 r)∧Lx r (Nh 13 r)=sqf 13 r∧Vp (sqf 13 r)∧Sz 445 (sqf 13 r)∧(sqf 13 r).length≤9∧Dp xs (Nh 13 r)∧sqf 13 r≠[]∧((sqf 13 r).length≠1→(Nh 13 r).length<r.length)∧Bc 13 r:=by
 obtain⟨s1,s2⟩:=Ztf h h0 hr
 have hv:Vp r:=⟨s1.mono O,hr.1,O⟩
 have hok:=hr.ok h.v.tr h0 h.s O (by have:=h.l;omega) (show xs.length≤13+1 by have:=h.l;omega)
 obtain⟨⟨q1,q2,q3,q4,q5⟩,-,-⟩:=hok.1
 have hn:=hr.2.2.1
 have hs9:=(chG 13 hr.1 hr.2.1 s1 O O O).2.1
 have hl9:=(chG 13 hr.1 hr.2.1 s1 O O O).2.2.1
 have hvs:=Zpl hv hr.2.1 hok.1.1
 have hg:Nh 13 r=Na 13 r (Yh r):=by unfold Nh;rw [hn]
 have hd:=hr.next hok.2
 have hvg:Vp (Nh 13 r):=by obtain⟨t1,t2⟩:=Ztf h h0 hd;exact⟨t1.mono O,hd.1,O⟩
 have hsq:sqf 13 r=Lx r (Nh 13 r):=by unfold sqf Nh;rw [hn]
 obtain⟨f1,f2,f3,f4,f5,f6⟩:=Oi (F:=13) hr.1 hr.2.1 hok.2
 have hq1:∀i,bl (cf r (i+1)*((i:Int)+1)).natAbs≤65536:=fun i=>by
  by_cases hi:i<r.length
  ·have:=q1 i hi;rwa [hn]at this
  ·rw [Yd O];simp [Lj]
 rw [hn]at q2 q3 q4 q5
 rw [←hg]at q4 q5
 refine⟨hv,hr.2.1,hq1,Zc4 hv (fun i _=>hq1 i),q2,q3,hg.symm,hvg,q4,q5,hsq.symm,hvs,hs9,O,hd,f3,fun hne=>?_,hok.2⟩
 refine Zll hr.1 hr.2.1 hok.2 ?_
 have:=Ob hr.1 hr.2.1 hok.2
 have l1:=List.length_pos_iff.2 f3
 have l2:=List.length_pos_iff.2 this.2.1
 omega
def Ku(xs:List Int):List Int:=Zn0 13 xs.length [1] (Xb xs)
structure OddI (xs:List Int) (t:Nat) (rest out before:List Int):Prop where
 ex:∃f q,Dp xs q∧q.length≤f∧Zn0 13 f out q=Ku xs∧Tr out∧Op xs out q∧((t%2=1∧rest=q)∨(t%2=0∧rest=Nh 13 q∧before=sqf 13 q∧(sqf 13 q).length≠1))
theorem OddI.start{xs b:List Int}(h:Cvd xs)(h0:xs≠[]):OddI xs 1 (Xb xs) [1] b:=
 ⟨xs.length,Xb xs,Dp.start h.v.tr h0,by rw [Qq h.v.tr];exact Nat.le_refl _,rfl,.inr O3,Op.start h.v.tr,.inl ⟨rfl,rfl⟩⟩
theorem OddI.dp{xs:List Int}{t:Nat}{rest out before:List Int}(h:Cvd xs)(h0:xs≠[])(hI:OddI xs t rest out before):Dp xs rest:=by
 obtain⟨f,q,h1,h2,h3,h4,h5,h6 | ⟨-,rfl,-⟩⟩:=hI.ex
 ·rw [h6.2];exact h1
 ·exact(Zge h h0 h1).2.2.2.2.2.2.2.2.2.2.2.2.2.2.1
theorem OddI.out{xs:List Int}{t:Nat}{rest out before:List Int}(h:Cvd xs)(h0:xs≠[])(hI:OddI xs t rest out before):Vp out∧Sz 315 out∧out.length≤9:=by
 obtain⟨f,q,h1,h2,h3,h4,h5,-⟩:=hI.ex
 obtain⟨s1,s2,s3⟩:=h5.sz h.v.tr h0 h.s (by have:=h.l;omega) h4 h1.1
 have:=h.l
 exact⟨⟨s1.mono O,h4,O⟩,s1,O⟩
theorem OddI.odd_end{xs:List Int}{t:Nat}{rest out before:List Int}(h:Cvd xs)(h0:xs≠[])(hI:OddI xs t rest out before)(ht:t%2=1)(hl:(sqf 13 rest).length=1):out=Ku xs:=by
 obtain⟨f,q,h1,h2,h3,h4,h5,⟨-,rfl⟩ | ⟨h7,-⟩⟩:=hI.ex
 ·cases f with
  | zero=>exact absurd (List.length_pos_iff.2 h1.2.1) O
  | succ f=>unfold Zn0 at h3;rw [if_pos hl]at h3;exact h3
 ·omega
theorem OddI.odd_next{xs:List Int}{t:Nat}{rest out before:List Int}(hI:OddI xs t rest out before)(ht:t%2=1)(hl:(sqf 13 rest).length≠1):OddI xs (t+1) (Nh 13 rest) out (sqf 13 rest):=by
 obtain⟨f,q,h1,h2,h3,h4,h5,⟨-,rfl⟩ | ⟨h7,-⟩⟩:=hI.ex
 ·exact⟨f,rest,h1,h2,h3,h4,h5,.inr ⟨O,rfl,rfl,hl⟩⟩
 ·omega
theorem OddI.even{xs:List Int}{t:Nat}{rest out before:List Int}(h:Cvd xs)(h0:xs≠[])(hI:OddI xs t rest out before)(ht:t%2=0) :
  Vp before∧Ea before (sqf 13 rest)=0∧pdv before (sqf 13 rest)∧Vp (Lx before (sqf 13 rest))∧¬Aa out (Lx before (sqf 13 rest))∧
  ((sqf 13 rest).length=1→Xl out (Lx before (sqf 13 rest))=Ku xs)∧((sqf 13 rest).length≠1→OddI xs (t+1) (Nh 13 rest) (Xl out (Lx before (sqf 13 rest))) (sqf 13 rest))∧Vp (Xl out (Lx before (sqf 13 rest))):=by
 obtain⟨f,q,h1,h2,h3,h4,h5,⟨h7,-⟩ | ⟨-,rfl,rfl,hq⟩⟩:=hI.ex
 ·omega
 obtain⟨a1,a2,a3,a4,a5,a6,a7,a8,a9,a10,a11,a12,a13,a14,a15,a16,a17,a18⟩:=Zge h h0 h1
 obtain⟨b1,b2,b3,b4,b5,b6,b7,b8,b9,b10,b11,b12,b13,b14,b15,b16,b17,b18⟩:=Zge h h0 a15
 obtain⟨c1,c2,c3,c4⟩:=Zak h1.1 h1.2.1 a18 b18
 have hO:=h5.next h1.1 h1.2.1 h1.2.2.1 a18 b18
 have ho:=h.l
 obtain⟨s1,s2,s3⟩:=hO.sz h.v.tr h0 h.s O (Xz _ _) b15.1
 obtain⟨o1,o2,o3⟩:=h5.sz h.v.tr h0 h.s O h4 h1.1
 have hol:(Ct 13 q).length≤9:=by
  have e:=congrArg List.length c2
  rw [Po c3 b12.tr c4 b16]at e
  have:=List.length_pos_iff.2 b16
  omega
 have hos:Sz 450 (Ct 13 q):=by
  obtain⟨a,ha,e⟩:=hO
  have e2:Xb xs=Xl (Xl (Xl a (Nh 13 (Nh 13 q))) out) (Ct 13 q):=e.trans ((Xz _ _).ext (Xz _ _) fun i=>Nw (fun x=>by simp only [Yg];grind) i)
  exact(Zqm h.v.tr h0 h.s O (Xz _ _) c3 e2).1.mono O
 have hd:Ea (sqf 13 q) (sqf 13 (Nh 13 q))=0:=by
  have m1:=Pj a13
  have m2:=Pj b13
  have l1:=List.length_pos_iff.2 b16
  unfold Ea
  rw [if_neg O]
  split
  ·rfl
  ·have:((sqf 13 q).length-(sqf 13 (Nh 13 q)).length+1)*(Pi (sqf 13 (Nh 13 q))+1)≤10*446:=Nat.mul_le_mul O O
   rw [if_neg O]
 have hvo:Vp (Ct 13 q):=⟨hos.mono O,c3,O⟩
 have hm:¬Aa out (Ct 13 q):=fun hF=>by
  have m1:=Pj o1
  have m2:=Pj hos
  rcases hF.2.2 with w | w<;>omega
 refine⟨a12,hd,c1,hvo,hm,fun hl=>?_,fun hl=>?_,⟨s1.mono O,Xz _ _,Nat.le_trans s2 O⟩⟩
 ·cases f with
  | zero=>exact absurd (List.length_pos_iff.2 h1.2.1) O
  | succ f=>unfold Zn0 at h3;rw [if_neg hq,if_pos hl]at h3;exact h3
 ·cases f with
  | zero=>exact absurd (List.length_pos_iff.2 h1.2.1) O
  | succ f=>
   unfold Zn0 at h3;rw [if_neg hq,if_neg hl]at h3
   have l1:=a17 hq
   have l2:=b17 hl
   exact⟨f,Nh 13 (Nh 13 q),b15,O,h3,Xz _ _,hO,.inl ⟨O,rfl⟩⟩
theorem Zu9{xs:List Int}(h:Cvd xs)(h0:xs≠[]):Ku xs=Zci 13 xs.length (Xb xs):=by
 have hD:=Dp.start h.v.tr h0
 have hl:=h.l
 have hok:=(hD.ok h.v.tr h0 h.s O O (show xs.length≤13+1 by omega)).2
 unfold Ku
 rw [Ycs h.v.tr h0 h.s O O O xs.length [1] (Xb xs) (.inr (show cf [1] 0≠0 by decide)) hD (by rw [Qq h.v.tr];exact Nat.le_refl _),Ycj (Zsc (p:=xs) hD.1 hD.2.1 hok)]
theorem Zdr{xs:List Int}(h:Cvd xs)(h0:xs≠[]):Odp 13 185 xs (Ku xs)∧Vp (Ku xs)∧Sz 315 (Ku xs)∧(Ku xs).length≤xs.length∧Ck (Ku xs):=by
 have hD:=Dp.start h.v.tr h0
 have hl:=h.l
 have hok:=(hD.ok h.v.tr h0 h.s O O (show xs.length≤13+1 by omega)).2
 have he:=Zu9 h h0
 have ht:Tr (Ku xs):=by rw [he];exact Zsc (p:=xs) hD.1 hD.2.1 hok
 obtain⟨⟨B,hB⟩,-⟩:=Hi h.v.tr h0 h.s O O (show xs.length≤13+1 by omega) xs.length (Xb xs) hD (by rw [Qq h.v.tr];exact Nat.le_refl _)
 rw [←he]at hB
 have e:Xb xs=Xl (Xl B B) (Ku xs):=hD.1.ext (Xz _ _) fun i=>Nw (fun x=>by rw [hB x,Yg,Yg];grind) i
 obtain⟨s1,s2,s3⟩:=Zqm h.v.tr h0 h.s O (Xz _ _) ht e
 have hC:=(chG 13 ht s3 s1 O O O).1
 refine⟨⟨h.v.tr,h0,h.s,O,O,O,he,ht,s3,hC⟩,⟨s1.mono O,ht,O⟩,s1,s2,.inr ?_⟩
 have m1:=Pj s1
 have g1:((Ku xs).length+2)*((Ku xs).length+2)≤11*11:=Nat.mul_le_mul O O
 have g2:((Ku xs).length+2)*((Ku xs).length+2)*(Pi (Ku xs)+16)≤11*11*331:=Nat.mul_le_mul g1 O
 omega
def chx(xs:List Int):List (List Int):=if xs.length=0 then []else Aw 13 (Ku xs)
def Pq(xs:List Int):List (List Int):=Zcw xs.length xs
theorem Zot:∀(n k:Nat) (p:List Int),Tr p→p.length≤25→Sz k p→∀q∈Zcw n p,Tr q∧q.length≤p.length∧Sz (k+5*n) q
 | 0,_,_,_,_,_,q,hq=>absurd hq (by simp [Zcw])
 | n+1,k,p,ht,hl,hs,q,hq=>by
  unfold Zcw at hq
  by_cases h0:p.length=0
  ·rw [if_pos h0]at hq;exact absurd hq O5
  ·rw [if_neg h0]at hq
   rcases List.mem_cons.1 hq with rfl | hq
   ·exact⟨ht,Nat.le_refl _,hs.mono O⟩
   ·have ld':=Oa p
    obtain⟨a1,a2,a3⟩:=Zot n (k+5) (Yh p) (Oh ht) O (Ep hs hl) q hq
    exact⟨a1,O,a3.mono O⟩
theorem Gq{xs:List Int}(h:Cvd xs):∀q∈Pq xs,Vp q∧Pi q≤11400∧q.length≤9:=fun q hq=>by
 have hl:=h.l
 obtain⟨a1,a2,a3⟩:=Zot xs.length 185 xs h.v.tr O h.s q hq
 have:=Pj a3
 exact⟨⟨a3.mono O,a1,O⟩,O,O⟩
theorem Zd6{xs:List Int}(h:Cvd xs):∀q∈chx xs,Vp q∧Pi q≤11400∧q.length≤9:=fun q hq=>by
 have hl:=h.l
 unfold chx at hq
 by_cases h0:xs.length=0
 ·rw [if_pos h0]at hq;exact absurd hq O5
 ·rw [if_neg h0]at hq
  have h0':xs≠[]:=fun e=>h0 (by rw [e];rfl)
  obtain⟨a1,a2,a3,a4,a5⟩:=Zdr h h0'
  obtain⟨b1,b2,b3,b4⟩:=chG 13 a1.otr a1.one a3 O O (show(Ku xs).length≤13+1 by omega)
  exact⟨vp_chn a2 a1.one b1 q hq,(b4 q hq).1,by have:=(b4 q hq).2;omega⟩
theorem Zl7(xs:List Int):(chx xs).length≤1000:=by
 unfold chx
 split
 ·exact Nat.zero_le _
 ·have:=Zca 13 (sqf 13 (Ku xs)) (Zz (Yh (sqf 13 (Ku xs))));unfold Aw;omega
theorem Zm5{p:List Int}{m:R2}(h1:Pi p≤11400)(h2:p.length≤9)(a:bl m.1.natAbs≤5700)(b:bl m.2.natAbs≤5700):¬Ml p m.1 m.2:=fun hF=>by
 have h3:Pi [m.1,m.2]≤5700:=by show max (bl m.1.natAbs) (max (bl m.2.natAbs) 0)≤5700;omega
 have h4:(p.length-1)*Pi [m.1,m.2]≤8*5700:=Nat.mul_le_mul O h3
 have:=hF.2
 omega
theorem Za4{xs:List Int}(h:Cvd xs){m:R2}(a:bl m.1.natAbs≤5700)(b:bl m.2.natAbs≤5700):(∀p∈Pq xs,¬Ml p m.1 m.2)∧(∀p∈chx xs,¬Ml p m.1 m.2):=
 ⟨fun p hp=>Zm5 (Gq h p hp).2.1 (Gq h p hp).2.2 a b,fun p hp=>Zm5 (Zd6 h p hp).2.1 (Zd6 h p hp).2.2 a b⟩
theorem Zx1{a b:R2}(ha:0<a.2)(hb:0<b.2):((a.1*b.2-b.1*a.2:Int):Rat)=(qv a-qv b)*((a.2:Rat)*(b.2:Rat)):=by
 have h1:=Kt ha
 have h2:=Kt hb
 unfold qv
 push_cast
 grind
theorem Ydw{a b:R2}(ha:0<a.2)(hb:0<b.2):cmp a b<0↔qv a<qv b:=by
 have e:=Zx1 ha hb
 have hp:=Rat.mul_pos (Kt ha) (Kt hb)
 unfold cmp
 rw [Qv]
 constructor
 ·intro h
  have h1:((a.1*b.2-b.1*a.2:Int):Rat)<0:=by exact_mod_cast h
  rcases(show qv a<qv b∨qv b≤qv a by grind)with q | q
  ·exact q
  ·have:=Rat.mul_nonneg (show 0≤qv a-qv b by grind) (Rat.le_of_lt hp);grind
 ·intro h
  have:=Rat.mul_pos (show 0<qv b-qv a by grind) hp
  have h1:((a.1*b.2-b.1*a.2:Int):Rat)<0:=O4
  exact_mod_cast h1
theorem Zl2{a b:R2}(ha:0<a.2)(hb:0<b.2):cmp a b=0↔qv a=qv b:=by
 have e:=Zx1 ha hb
 have hp:=Rat.mul_pos (Kt ha) (Kt hb)
 unfold cmp
 rw [Int.sign_eq_zero_iff_zero]
 constructor
 ·intro h
  rw [h]at e
  rcases Rat.mul_eq_zero.1 (show(qv a-qv b)*((a.2:Rat)*(b.2:Rat))=0 by rw [←e];rfl)with q | q
  ·grind
  ·rw [q]at hp;grind
 ·intro h
  have h1:((a.1*b.2-b.1*a.2:Int):Rat)=0:=by rw [e,h];grind
  exact_mod_cast h1
theorem Ydx{a b:R2}(ha:0<a.2)(hb:0<b.2):cmp a b≤0↔qv a≤qv b:=by
 have h1:=Ydw ha hb
 have h2:=Zl2 ha hb
 constructor
 ·intro h
  rcases(show cmp a b<0∨cmp a b=0 by omega)with q | q
  ·exact Rat.le_of_lt (h1.1 q)
  ·have:=h2.1 q;grind
 ·intro h
  rcases(show qv a<qv b∨qv a=qv b by grind)with q | q
  ·exact Int.le_of_lt (h1.2 q)
  ·exact Int.le_of_eq (h2.2 q)
theorem Zzv{m:R2}(hm:0<m.2)(p:List Int):fat m.1 m.2 p=Gd (Zb p (qv m)):=Zlp hm p
theorem Yd3{xs:List Int}(h:Cvd xs)(h0:xs≠[]){a b:R2}(ha:0<a.2)(hb:0<b.2):crb (chx xs) a b=true↔Dy 13 (Ku xs) (qv a) (qv b):=by
 obtain⟨a1,a2,a3,a4,a5⟩:=Zdr h h0
 have hl0:xs.length≠0:=fun e=>h0 (List.eq_nil_of_length_eq_zero e)
 unfold crb Dy chx
 rw [if_neg hl0]
 have hh:∃r,Aw 13 (Ku xs)=sqf 13 (Ku xs) :: r:=by
  unfold Aw Ng
  split<;>exact⟨_,rfl⟩
 obtain⟨r,hr⟩:=hh
 have hv:∀m:R2,0<m.2→chv (Aw 13 (Ku xs)) m=Ch 13 (Ku xs) (qv m):=fun m hm=>(cvc_v (F:=13) (xs:=Ku xs) hm)
 rw [if_neg (by rw [hr];simp),hv a ha,hv b hb]
 have hg:(Aw 13 (Ku xs)).getD 0 []=sqf 13 (Ku xs):=by rw [hr];rfl
 rw [hg,Zzv hb]
 have hz:Gd (Zb (sqf 13 (Ku xs)) (qv b))=0↔Zb (Ku xs) (qv b)=0:=⟨fun e=>(a1.zero _).1 (Znf e),fun e=>Zng ((a1.zero _).2 e)⟩
 by_cases hb0:Zb (Ku xs) (qv b)=0
 ·rw [if_pos hb0,if_pos (hz.2 hb0)];exact decide_eq_true_iff
 ·rw [if_neg hb0,if_neg (fun e=>hb0 (hz.1 e))];exact decide_eq_true_iff
theorem Zgn{xs:List Int}{m:R2}(hm:0<m.2):vlu (Pq xs) m=Gd (Zb xs (qv m)):=by
 unfold vlu Pq
 by_cases h0:xs.length=0
 ·have:xs=[]:=List.eq_nil_of_length_eq_zero h0
  subst this;rfl
 ·obtain⟨n,hn⟩:∃n,xs.length=n+1:=⟨xs.length-1,O⟩
  rw [hn];unfold Zcw;rw [if_neg h0,if_neg O5]
  exact Zzv hm xs
theorem Zsp{xs:List Int}(h:Cvd xs){a b:R2}(ha:0<a.2)(hb:0<b.2)(hab:qv a≤qv b):ngb (Pq xs) (chx xs) a b=true↔Zwd xs (qv a) (qv b):=by
 unfold ngb
 by_cases hc:cmp a b=0
 ·rw [if_pos hc,Zgn ha,decide_eq_true_iff]
  have e:=(Zl2 ha hb).1 hc
  constructor
  ·intro h1
   refine⟨qv a,Rat.le_refl,hab,?_⟩
   rcases Qk (Zb xs (qv a))with⟨h5,h6⟩ | ⟨h5,h6⟩ | ⟨h5,h6⟩
   ·rw [h6]at h1;exact absurd h1 O3
   ·exact h5
   ·rw [h6]at h1;exact absurd h1 O3
  ·rintro⟨x,x1,x2,x3⟩
   have:x=qv a:=O4
   rw [←this,Zjd x3];decide
 ·rw [if_neg hc]
  have hlt:qv a<qv b:=by have:=fun e=>hc ((Zl2 ha hb).2 e);grind
  by_cases h0:xs=[]
  ·subst h0
   constructor
   ·intro h1;exact absurd h1 (by show ¬(decide ((0:Int)<0) || false)=true;decide)
   ·rintro⟨x,x1,x2,x3⟩;exact absurd x3 (by show ¬(0:Rat)<0;grind)
  ·obtain⟨a1,a2,a3,a4,a5⟩:=Zdr h h0
   rw [←a1.sem hlt,Bool.or_eq_true,decide_eq_true_iff,Yd3 h h0 ha hb,show aft (Pq xs) a=Gc xs.length xs (qv a)from Zou ha _ _ (Nat.le_refl _)]
theorem Zo0{xs:List Int}(h:Cvd xs){m:Nat}(hm:m≤100):Zaf xs m:=by
 refine .inr ?_
 have hl:=h.l
 have m1:=Pj h.s
 have g1:(xs.length+2)*(xs.length+2)≤11*11:=Nat.mul_le_mul O O
 have g2:(xs.length+2)*(xs.length+2)*(Pi xs+m+2*(xs.length-1)+32)≤11*11*365:=Nat.mul_le_mul g1 O
 omega
theorem Zjy{xs:List Int}(h:xs.length=0):Pq xs=[]:=by unfold Pq;rw [h];rfl
theorem Yd2{xs:List Int}(h:xs.length=0):chx xs=[]:=by unfold chx;rw [if_pos h]
theorem chx_ne{xs:List Int}(h:xs.length≠0):chx xs=Aw 13 (Ku xs):=by unfold chx;rw [if_neg h]
theorem Zjz:∀(n m:Nat) (p:List Int),p.length≤n→p.length≤m→Zcw n p=Zcw m p
 | 0,m,p,h1,h2=>by
  have h0:p.length=0:=O
  cases m with
  | zero=>rfl
  | succ m=>unfold Zcw;rw [if_pos h0]
 | n+1,m,p,h1,h2=>by
  have ld':=Oa p
  cases m with
  | zero=>unfold Zcw;rw [if_pos O]
  | succ m=>
   unfold Zcw
   by_cases h0:p.length=0
   ·rw [if_pos h0,if_pos h0]
   ·rw [if_neg h0,if_neg h0,Zjz n m (Yh p) O O]
theorem Zv4{p:List Int}(h:p.length≠0):Pq p=p :: Pq (Yh p):=by
 have ld':=Oa p
 unfold Pq
 obtain⟨n,hn⟩:∃n,p.length=n+1:=⟨p.length-1,O⟩
 rw [hn,show Zcw (n+1) p=if p.length=0 then []else p :: Zcw n (Yh p)from rfl,if_neg h,Zjz n (Yh p).length (Yh p) O (Nat.le_refl _)]
def Ab(M:Nat)(p:List Int):Prop:=∀i,(cf p i).natAbs≤M
theorem Ab.sz{M n:Nat}{p:List Int}(h:Ab M p)(hM:M<2^n):Sz n p:=fun i=>(Xt n _).2 (Nat.lt_of_le_of_lt (h i) hM)
theorem Ab.mono{M N:Nat}{p:List Int}(h:Ab M p)(hM:M≤N):Ab N p:=fun i=>Nat.le_trans (h i) hM
theorem Ya4{M n:Nat}{p:List Int}(h:Ab M p)(hl:p.length≤n+1):Ab (n*M) (Yh p):=fun i=>by
 rw [Bg]
 by_cases hi:i+1<p.length
 ·rw [Int.natAbs_mul,Nat.mul_comm];exact Nat.mul_le_mul O (h _)
 ·rw [Yd O,Int.zero_mul];exact Nat.zero_le _
theorem Zpg{M:Nat}{p:List Int}(h:Ab M p)(c:Int):Ab (M*c.natAbs) (Xj p c):=fun i=>by
 rw [Xq,Int.natAbs_mul];exact Nat.mul_le_mul_right _ (h i)
theorem Zm1{f:Nat→Int}{M n:Nat}(h:∀k,(f k).natAbs≤M)(h4:∀k,n≤k→f k=0):∀m,(Yi f m).natAbs≤min m n*M
 | 0=>by show(0:Int).natAbs≤_;simp
 | m+1=>by
  have ih:=Zm1 h h4 m
  rw [Yt]
  rcases Nat.lt_or_ge m n with q | q
  ·have:=h m
   rw [show min (m+1) n=min m n+1 by omega,Nat.succ_mul];omega
  ·rw [h4 m q,Int.add_zero,show min (m+1) n=min m n by omega];exact ih
theorem Zre{M N n:Nat}{p q:List Int}(hp:Ab M p)(hq:Ab N q)(hl:p.length≤n):Ab (n*(M*N)) (Xl p q):=fun i=>by
 rw [Ly,PS.mul_c]
 exact Nat.le_trans (Zm1 (n:=n) (M:=M*N) (fun k=>by rw [Int.natAbs_mul];exact Nat.mul_le_mul (hp k) (hq (i-k))) (fun k hk=>by
  show cf p k*_=0
  rw [Yd O,Int.zero_mul]) _) (Nat.mul_le_mul_right _ (Nat.min_le_right _ _))
theorem Ya5{M N:Nat}{p q:List Int}(hp:Ab M p)(hq:Ab N q):Ab (M+N) (Cd p q):=fun i=>by
 rw [Zb1];have:=hp i;have:=hq i;omega
theorem ab_in{c:List Int}(h:∀a∈c,Xo a):Ab (2^63) (tzl c):=fun i=>by
 rw [Ko]
 obtain⟨h1,h2⟩:=Qy h i
 show(c.getD i 0).natAbs≤_
 omega
theorem Zs1{p q:List Int}{n:Nat}(h1:p.length≤n)(h2:q.length≤n):(Cd p q).length≤n:=by
 unfold Cd;refine Nat.le_trans (Mu _) ?_;rw [Yo];omega
theorem Yc3{p q:List Int}{n:Nat}(h1:p.length≤n)(h2:q.length≤n):(Dg p q).length≤n:=by
 unfold Dg;refine Nat.le_trans (Mu _) ?_;rw [Yo];omega
theorem Zlg{p q:List Int}{n m:Nat}(hp:Tr p)(hq:Tr q)(h1:p.length≤n)(h2:q.length≤m):(Xl p q).length≤n+m-1:=by
 by_cases e1:p=[]
 ·rw [e1,Ix];exact Nat.zero_le _
 ·by_cases e2:q=[]
  ·rw [e2,Zck];exact Nat.zero_le _
  ·have:=Po hp hq e1 e2;omega
theorem Zs0{p:List Int}{n:Nat}(h:p.length≤n+1):(Yh p).length≤n:=by
 have:=Oa p;omega
def dN:Nat→List Int→List Int
 | 0,p=>p
 | n+1,p=>Yh (dN n p)
def axQ(o:Nat)(c:List Int):List Int:=Xj (dN o (tzl c)) (1000^o)
def sqQ(o:Nat)(c:List Int):List Int:=Xl (axQ o c) (axQ o c)
def Es(o:Nat)(x y z:List Int):Nat→List Int
 | 0=>[]
 | i+1=>Cd (Es o x y z i) (sqQ o (Yv i x y z))
def Zfz(o:Nat):Int:=Xu (List.replicate o 1000)
def Zb4(o:Nat)(m ov T:Int):Int:=Xu (m :: ov :: List.replicate o T)
def Kg(o:Nat)(m ov T:Int):List Int:=Xj [1] (Zb4 o m ov T)
def Fh(o:Nat)(m ov T:Int)(x y z:List Int):List Int:=Zz (Dg (Xl (Kg o m ov T) (Kg o m ov T)) (Es o x y z 3))
theorem Zs2(o:Nat):Zfz o=1000^o:=by
 unfold Zfz
 induction o with
 | zero=>rfl
 | succ o ih=>rw [List.replicate_succ,Int.pow_succ,←ih];show 1000*_=_;omega
theorem Zr5(o:Nat)(T:Int):Xu (List.replicate o T)=T^o:=by
 induction o with
 | zero=>rw [Int.pow_zero];rfl
 | succ o ih=>rw [List.replicate_succ,Int.pow_succ,←ih];show T*_=_*T;rw [Int.mul_comm]
structure Sgo (fr to ov:Int) (x y z:List Int):Prop where
 t1:0≤fr
 t2:fr<to
 t3:to≤3600000
 o1:1≤ov
 o2:ov≤4294967296
 hx:∀a∈x,Xo a
 hy:∀a∈y,Xo a
 hz:∀a∈z,Xo a
 lx:1≤x.length∧x.length≤6
 ly:1≤y.length∧y.length≤6
 lz:1≤z.length∧z.length≤6
theorem Sgo.hc{fr to ov:Int}{x y z:List Int}(h:Sgo fr to ov x y z)(i:Nat):∀a∈Yv i x y z,Xo a:=Ms h.hx h.hy h.hz i
theorem Sgo.lc{fr to ov:Int}{x y z:List Int}(h:Sgo fr to ov x y z)(i:Nat):1≤(Yv i x y z).length∧(Yv i x y z).length≤6:=Zne (p:=fun l:List Int=>1≤l.length∧l.length≤6) h.lx h.ly h.lz
theorem Sgo.of{fr to ov:Int}{x y z:List Int}(hx:∀a∈x,Xo a)(hy:∀a∈y,Xo a)(hz:∀a∈z,Xo a)(h:Ir fr to ov x y z=true):Sgo fr to ov x y z:=by
 unfold Ir Ybq axB at h
 simp only [Bool.and_eq_true,decide_eq_true_eq]at h
 obtain⟨⟨⟨⟨⟨⟨⟨⟨a1,a2⟩,a3⟩,a4⟩,a5⟩,b1⟩,b2⟩,b3⟩,-⟩:=h
 exact⟨a1,a2,a3,a4,a5,hx,hy,hz,⟨b1.1.1.1,b1.1.1.2⟩,⟨b2.1.1.1,b2.1.1.2⟩,⟨b3.1.1.1,b3.1.1.2⟩⟩
def Mk:Nat→Nat
 | 0=>2^63
 | 1=>5*2^63
 | _=>4*(5*2^63)
theorem Ztq{c:List Int}(h:∀a∈c,Xo a)(hl:c.length≤6):∀k,k≤2→Tr (dN k (tzl c))∧(dN k (tzl c)).length≤6-k∧Ab (Mk k) (dN k (tzl c)):=fun k hk=>by
 have t0:Tr (tzl c):=Qo c
 have l0:(tzl c).length≤6:=Nat.le_trans (Mu c) hl
 have a0:=ab_in h
 have t1:=Oh t0
 have l1:(Yh (tzl c)).length≤5:=Zs0 l0
 have a1:=Ya4 a0 (n:=5) l0
 match k,hk with
 | 0,_=>exact⟨t0,l0,a0⟩
 | 1,_=>exact⟨t1,l1,a1⟩
 | 2,_=>exact⟨Oh t1,Zs0 l1,Ya4 a1 (n:=4) l1⟩
theorem Ya7{k:Nat} : Mk k<2^70:=by
 have h1:(2:Nat)^63<2^70:=O3
 have h2:5*(2:Nat)^63<2^70:=O3
 have h3:4*(5*(2:Nat)^63)<2^70:=O3
 unfold Mk
 split
 ·exact h1
 ·exact h2
 ·exact h3
theorem Ztp{c:List Int}(h:∀a∈c,Xo a)(hl:c.length≤6){k:Nat}(hk:k≤2):Vp (dN k (tzl c))∧(∀i,bl (cf (dN k (tzl c)) (i+1)*((i:Int)+1)).natAbs≤65536):=by
 obtain⟨h1,h2,h3⟩:=Ztq h hl k hk
 have hs:=h3.sz Ya7
 exact⟨⟨hs.mono O,h1,O⟩,fun i=>by have:=Ep hs O i;rw [Bg]at this;omega⟩
theorem Zcy{c:List Int}(h:∀a∈c,Xo a)(hl:c.length≤6){o:Nat}(ho:o=1∨o=2) :
  bl (Zfz o).natAbs≤65536∧(∀i,bl (cf (dN o (tzl c)) i*Zfz o).natAbs≤65536)∧Vp (axQ o c)∧¬Aa (axQ o c) (axQ o c)∧Vp (sqQ o c)∧(sqQ o c).length≤11-2*o∧Ab (if o=1 then 5*(5*2^63*1000*(5*2^63*1000))else 4*(4*(5*2^63)*1000000*(4*(5*2^63)*1000000))) (sqQ o c)∧Sz 183 (sqQ o c):=by
 obtain⟨h1,h2,h3⟩:=Ztq h hl o O
 have hk:bl (Zfz o).natAbs≤20:=by rcases ho with rfl | rfl<;>decide
 have hs:=h3.sz Ya7
 have hA:Ab (Mk o*(Zfz o).natAbs) (axQ o c):=by have:=Zpg h3 (Zfz o);rw [Zs2]at this ⊢;exact this
 have lA:(axQ o c).length≤6-o:=Nat.le_trans (Nr _ _) h2
 have tA:Tr (axQ o c):=Pl _ _
 have hAs:Sz 90 (axQ o c):=hA.sz (by rcases ho with rfl | rfl<;>decide)
 have vA:Vp (axQ o c):=⟨hAs.mono O,tA,O⟩
 have hS:=Zre hA hA lA
 have lS:=Zlg tA tA lA lA
 have hS2:Ab (if o=1 then 5*(5*2^63*1000*(5*2^63*1000))else 4*(4*(5*2^63)*1000000*(4*(5*2^63)*1000000))) (sqQ o c):=by rcases ho with rfl | rfl<;>exact hS
 have hS3:Sz 183 (sqQ o c):=hS2.sz (by rcases ho with rfl | rfl<;>decide)
 refine⟨O,fun i=>?_,vA,fun hF=>?_,⟨hS3.mono O,Xz _ _,by have:(sqQ o c).length≤_:=lS;omega⟩,by have:(sqQ o c).length≤_:=lS;omega,hS2,hS3⟩
 ·have:=hs i
  have:=Yw (cf (dN o (tzl c)) i) (Zfz o)
  omega
 ·have m:=Pj hAs
  rcases hF.2.2 with w | w<;>omega
theorem Gu{fr to ov:Int}{x y z:List Int}(h:Sgo fr to ov x y z){o:Nat}(ho:o=1∨o=2):∀i,i≤3→Tr (Es o x y z i)∧(Es o x y z i).length≤11-2*o∧Ab (i*if o=1 then 5*(5*2^63*1000*(5*2^63*1000))else 4*(4*(5*2^63)*1000000*(4*(5*2^63)*1000000))) (Es o x y z i)∧Sz 184 (Es o x y z i)∧Vp (Es o x y z i):=fun i hi=>by
 have key:Tr (Es o x y z i)∧(Es o x y z i).length≤11-2*o∧Ab (i*if o=1 then 5*(5*2^63*1000*(5*2^63*1000))else 4*(4*(5*2^63)*1000000*(4*(5*2^63)*1000000))) (Es o x y z i):=by
  induction i with
  | zero=>exact⟨.inl rfl,Nat.zero_le _,fun i=>by show(cf [] i).natAbs≤_;rw [Yd O5];exact Nat.zero_le _⟩
  | succ i ih=>
   obtain⟨a1,a2,a3⟩:=ih O
   obtain⟨-,-,-,-,-,b2,b3,-⟩:=Zcy (h.hc i) (h.lc i).2 ho
   exact⟨Qo _,Zs1 a2 b2,by rw [Nat.succ_mul];exact Ya5 a3 b3⟩
 obtain⟨k1,k2,k3⟩:=key
 have hs:Sz 184 (Es o x y z i):=k3.sz (Nat.lt_of_le_of_lt (Nat.mul_le_mul_right _ hi) (by rcases ho with rfl | rfl<;>decide))
 exact⟨k1,k2,k3,hs,hs.mono O,k1,O⟩
theorem timC_b{fr to ov m:Int}{x y z:List Int}(h:Sgo fr to ov x y z)(h0:0≤m)(h1:m≤10000){o:Nat}(ho:o=1∨o=2):(Zb4 o m ov (to-fr)).natAbs≤10000*4294967296*3600000^o:=by
 have a1:=h.t1
 have a2:=h.t2
 have a3:=h.t3
 have a4:=h.o1
 have a5:=h.o2
 have e:Zb4 o m ov (to-fr)=m*(ov*(to-fr)^o):=by unfold Zb4;show m*(ov*Xu _)=_;rw [Zr5]
 rw [e,Int.natAbs_mul,Int.natAbs_mul,Nat.mul_assoc]
 refine Nat.mul_le_mul O (Nat.mul_le_mul O ?_)
 rw [Int.natAbs_pow]
 exact Nat.pow_le_pow_left O o
theorem Zsl{fr to ov m:Int}{x y z:List Int}(h:Sgo fr to ov x y z)(h0:0≤m)(h1:m≤10000){o:Nat}(ho:o=1∨o=2) :
  bl (Zb4 o m ov (to-fr)).natAbs≤89∧Vp (Kg o m ov (to-fr))∧(∀i,bl (cf [1] i*Zb4 o m ov (to-fr)).natAbs≤65536)∧¬Aa (Kg o m ov (to-fr)) (Kg o m ov (to-fr))∧Vp (Xl (Kg o m ov (to-fr)) (Kg o m ov (to-fr)))∧
  (Xl (Kg o m ov (to-fr)) (Kg o m ov (to-fr))).length≤1∧Sz 178 (Xl (Kg o m ov (to-fr)) (Kg o m ov (to-fr))):=by
 have hb:=timC_b h h0 h1 ho
 have hT:bl (Zb4 o m ov (to-fr)).natAbs≤89:=(Xt 89 _).2 (Nat.lt_of_le_of_lt hb (by rcases ho with rfl | rfl<;>decide))
 have h11:Ab 1 [1]:=fun i=>by
  match i with
  | 0=>decide
  | i+1=>rw [Yd O5];decide
 have hA:Ab (1*(Zb4 o m ov (to-fr)).natAbs) (Kg o m ov (to-fr)):=Zpg h11 _
 have hA2:=hA.mono (N:=10000*4294967296*3600000^o) O
 have lA:(Kg o m ov (to-fr)).length≤1:=Nr [1] _
 have tA:Tr (Kg o m ov (to-fr)):=Pl _ _
 have hS:=Zre hA2 hA2 lA
 have lS:=Zlg tA tA lA lA
 have hsA:Sz 89 (Kg o m ov (to-fr)):=hA.sz (by rw [Nat.one_mul];exact(Xt 89 _).1 hT)
 have hsS:Sz 178 (Xl (Kg o m ov (to-fr)) (Kg o m ov (to-fr))):=hS.sz (by rcases ho with rfl | rfl<;>decide)
 refine⟨hT,⟨hsA.mono O,tA,O⟩,fun i=>?_,fun hF=>?_,⟨hsS.mono O,Xz _ _,O⟩,O,hsS⟩
 ·have h9:=Yw (cf [1] i) (Zb4 o m ov (to-fr))
  have:=(Xt 1 _).2 (Nat.lt_of_le_of_lt (h11 i) (by decide:1<2^1))
  omega
 ·have m:=Pj hsA
  rcases hF.2.2 with w | w<;>omega
theorem Nv{fr to ov m:Int}{x y z:List Int}(h:Sgo fr to ov x y z)(h0:0≤m)(h1:m≤10000){o:Nat}(ho:o=1∨o=2) :
  (∀i,bl (cf (Xl (Kg o m ov (to-fr)) (Kg o m ov (to-fr))) i-cf (Es o x y z 3) i).natAbs≤65536)∧Vp (Dg (Xl (Kg o m ov (to-fr)) (Kg o m ov (to-fr))) (Es o x y z 3))∧Cvd (Fh o m ov (to-fr) x y z):=by
 obtain⟨a1,a2,a3,a4,a5,a6,a7⟩:=Zsl h h0 h1 ho
 obtain⟨b1,b2,b3,b4,b5⟩:=Gu h ho 3 O
 have hs:Sz 185 (Dg (Xl (Kg o m ov (to-fr)) (Kg o m ov (to-fr))) (Es o x y z 3)):=fun i=>by
  rw [Eb]
  have h1:=(Xt 178 _).1 (a7 i)
  have h2:=(Xt 184 _).1 (b4 i)
  have h3:(2:Nat)^178≤2^184:=Nat.pow_le_pow_right O3 O3
  have h4:(2:Nat)^185=2*2^184:=O3
  refine(Xt 185 _).2 ?_
  omega
 have hl:(Dg (Xl (Kg o m ov (to-fr)) (Kg o m ov (to-fr))) (Es o x y z 3)).length≤9:=Yc3 O O
 have hv:Vp (Dg (Xl (Kg o m ov (to-fr)) (Kg o m ov (to-fr))) (Es o x y z 3)):=⟨hs.mono O,Qo _,O⟩
 refine⟨fun i=>?_,hv,Lk hv,Fc hs,by unfold Fh;rw [Zq];exact hl⟩
 have:=hs i;rw [Eb]at this;omega
theorem Zqj{o:Nat}(h:o=2):Zfz o=Xu [1000,1000]:=by rw [h];rfl
theorem kilo_1{o:Nat}(h:o=1):Zfz o=Xu [1000]:=by rw [h];rfl
theorem Zpo{o:Nat}{m ov T:Int}(h:o=2):Zb4 o m ov T=Xu [m,ov,T,T]:=by rw [h];rfl
theorem timC_1{o:Nat}{m ov T:Int}(h:o=1):Zb4 o m ov T=Xu [m,ov,T]:=by rw [h];rfl
theorem Ybj{c:List Int}(h:c.length≤6):¬25<(tzl c).length:=by have:=Mu c;omega
theorem tzl1:(if 25<(tzl [(1:Int)]).length then []else tzl [1])=[1]:=O3
theorem vp1:Vp [1]:=⟨fun i=>by
 match i with
 | 0=>decide
 | i+1=>rw [Yd O5];decide,.inr O3,O3⟩
theorem Zav{l:List Int}(h:∀a∈l,-9223372036854775808≤a∧a≤9223372036854775807):∀a∈l,Xo a:=h
theorem Ybt{fr to ov:Int}{x y z:List Int}(h:Sgo fr to ov x y z){o i:Nat}(ho:o=1∨o=2)(hi:i<3):∀k,bl (cf (Es o x y z i) k+cf (sqQ o (Yv i x y z)) k).natAbs≤65536:=fun k=>by
 have:=(Gu h ho (i+1) hi).2.2.2.1 k
 rw [show Es o x y z (i+1)=Cd (Es o x y z i) (sqQ o (Yv i x y z))from rfl,Zb1]at this
 omega
open Go.Proofs.Tryz
open Go.Proofs
set_option synthInstance.maxHeartbeats 0
set_option synthInstance.maxSize 100000
set_option maxRecDepth 20000
set_option maxHeartbeats 4000000
set_option linter.unusedSimpArgs false
theorem Ybx(v:Value)(xs:List Int)(hv:Vp xs):Og prog 249 #[v] [Yj 2 wv v xs] (.bool (decide (Ck xs))):=by
 refine Zd func249 ntmps249 fun w0 sc hw hsc=>?_
 have hlen:=hv.len
 have hmz:=Pj hv.sz
 have q1:(xs.length+2)*(xs.length+2)≤27*27:=Nat.mul_le_mul O O
 have q2:(xs.length+2)*(xs.length+2)*(Pi xs+16)≤27*27*65552:=Nat.mul_le_mul q1 O
 have q3:((xs.length:Int)-1+3)*((xs.length:Int)-1+3)=(((xs.length+2)*(xs.length+2):Nat):Int):=by rw [show(xs.length:Int)-1+3=((xs.length+2:Nat):Int) by omega];push_cast;rfl
 have q4:((xs.length:Int)-1+3)*((xs.length:Int)-1+3)*((Pi xs:Int)+16)=(((xs.length+2)*(xs.length+2)*(Pi xs+16):Nat):Int):=by rw [q3];push_cast;rfl
 refine go 9 ?_
 refine cl 1 [1] (Xf _ _ ‹_›) fun _ _=>go 9 ?_
 refine cl 1 [1] (Zfn _ _ hv) fun _ _=>go 10 ?_
 refine cl 1 [1] (Zjl _ _ hv) fun _ _=>go 13 ?_
 refine Yq (d:=23) J (fun s24=>?_) (fun s24=>?_)
 ·refine go 14 ?_
  exact Xi hsc () results249 (by first | exact sf_t O | exact sf_i O q4) trivial Za
 ·refine go 14 ⟨O,O,by rw [q3];exact⟨O,O⟩,O,by rw [q4];exact⟨O,O⟩,?_⟩
  exact Xi hsc () results249 (by first | exact sf_t O | exact sf_i O q4) trivial Za
theorem Zun(v:Value)(xs:List Int)(hv:Vp xs):Og prog 245 #[v,.slice none 0 0] [Yj 2 wv v xs] (.int .i64 (Zq1 xs)):=by
 refine Zd func245 ntmps245 fun w0 sc hw hsc=>?_
 refine Ze (Pe 999 2 93 wv)<|Ze (Xp 999 J J pV)<|go 8 ?_
 refine cl 1 [1] (Ybx _ _ hv) fun _ _=>go 13 ?_
 refine lp (G:=Unit) [0,1,13,14] [0,1,999] (fun _=>[(15,.int .i64 0),(5,.bool (decide (¬Ck xs)))]) (fun _=>[]) (fun _=>True) (fun _=>0) () trivial K2 trivial ?_
 rintro _ -
 refine go 2 ?_
 refine kf O3<|go 13 ?_
 refine cl 1 [1] (Xf _ _ ‹_›) fun _ _=>go 14 ?_
 refine Zc J (fun h39=>?_) (fun h39=>?_)
 ·refine go 7 ?_
  exact Xi hsc () results245 (by unfold Zq1;rw [if_pos O]) trivial Za
 ·refine go 7 ?_
  refine kf O3<|go 11 ?_
  refine Nn J (fun h47=>?_) (fun h47=>?_)
  ·refine go 7 ?_
   exact Xi hsc () results245 (by unfold Zq1;rw [if_neg O,if_neg (by simpa using h47)]) trivial Za
  ·refine go 8 ?_
   exact Xi hsc () results245 (by unfold Zq1;rw [if_neg O,if_pos (by simpa using h47)]) trivial Za
theorem Zm3(v:Value)(xs:List Int)(hv:Vp xs)(h0:xs≠[]):Cal prog 246 #[v] [Yj 2 wv v xs] true (G:=Value) (fun r=>True) (fun r=> .tuple #[r,.int .i64 0]) (fun r=>[Yj 2 wv r (Xb xs)]):=by
 refine Zd func246 ntmps246 fun w0 sc hw hsc=>?_
 have hvp:=Lk hv
 have hl0:=List.length_pos_iff.2 h0
 have hlp:=Zq xs
 have hlen:=hv.len
 refine go 9 ?_
 refine cl 2 [1] (Oz _ _ hv) fun _ _=>go 11 ?_
 refine kt O3<|go 5 ⟨O,?_⟩
 refine Gh (Yp (ii:=2) (i:=((Zz xs).length-1)) J J J J Zh Mp Ky) J J<|go 1 ⟨O2,?_⟩
 refine Hc 2 [] (Kq _ (hvp.sz _)) fun _ _=>go 4 ?_
 refine Zc J (fun h56=>?_) (fun h56=>?_)
 ·refine go 3 ?_
  refine cl 2 [] (Zx _ ⟨O3,O3⟩) fun _ _=>cl 3 [2] (Iw _ _ _ hvp O7 (fun i=>Am hvp.sz i)) fun _ _=>go 8 ?_
  exact Mb hsc _ results246 J trivial (Oq 3 Za (by rw [Zso O ((Qv _).1 ‹_›)]<;>rfl))
 ·refine go 11 ?_
  exact Mb hsc _ results246 J trivial (Oq 2 Za (by rw [Zsn (fun h=>by have h2:=(Qv _).2 h;exact absurd h2 ‹_›)]<;>rfl))
theorem st_sqf(v:Value)(xs:List Int)(hv:Vp xs)(h0:xs≠[])(hf:Ck xs)(F:Nat)(hS:Yby F xs):Cal prog 227 #[v] [Yj 2 wv v xs] true (G:=Value) (fun r=>True) (fun r=> .tuple #[r,.int .i64 0]) (fun r=>[Yj 2 wv r (sqf F xs)]):=by
 refine Zd func227 ntmps227 fun w0 sc hw hsc=>?_
 obtain⟨hS1,hS2,hS3,hS4,hS5⟩:=hS
 have hvn:=Zwk hv
 have hln:=Qq hv.tr
 have hvd:Vp (Yh (Xb xs)):=Zc4 hvn (fun i hi=>hS1 i O)
 have hvg:=Ybf hvn hvd hS3
 have hc0:=Yd7 h0 hf
 refine Ze (Pe 999 2 93 wv)<|Ze (Xp 999 J J pV)<|go 10 ?_
 refine cl 1 [1] (Zun _ _ hv) fun _ _=>go 9 ?_
 refine Zc J (fun h64=>?_) (fun h64=>?_)
 ·exfalso;omega
 ·refine go 5 ?_
  refine cl 2 [1] (Zm3 _ _ hv h0) fun _ _=>go 11 ?_
  refine kf O3<|go 8 ?_
  refine cl 3 [2] (Fe _ _ hvn (fun i=>by by_cases hi:i<xs.length;exact hS1 i hi;rw [Yd O];simp [Lj])) fun _ _=>go 11 ?_
  refine kf O3<|go 9 ?_
  refine cl 4 [2,3] (Znv _ _ _ _ hvn hvd F hS2 hS3) fun _ _=>go 11 ?_
  refine kf O3<|go 9 ?_
  refine cl 5 [2,4] (Zal _ _ _ _ hvn hvg hS4) fun _ _=>go 7 ?_
  exact Mb hsc _ results227 (by rw [if_pos hS5]<;>rfl) trivial (Oq 5 Za (by rw [if_pos hS5]<;>rfl))
theorem Ybw(v u:Value)(xs ys:List Int)(hv:Vp xs)(hu:Vp ys)(h0:ys≠[])(hd:Ea xs ys=0)(hl:ys.length≤xs.length):Cal prog 228 #[v,u] [Yj 2 wv v xs,Yj 2 wv u ys] true (G:=Value) (fun r=>True) (fun r=> .tuple #[r,.int .i64 0]) (fun r=>[Yj 2 wv r (Oj xs ys)]):=by
 refine Zd func228 ntmps228 fun w0 sc hw hsc=>?_
 have hvr:=Zaa hv hd
 have hvp:=Lk hvr
 have hlen:=hv.len
 have hlen2:=hu.len
 have hl0:=List.length_pos_iff.2 h0
 refine Ze (Pe 999 2 93 wv)<|Ze (Xp 999 J J pV)<|go 10 ?_
 refine cl 3 [1,2] (Zjk _ _ _ _ hv hu hd) fun _ _=>go 11 ?_
 refine kf O3<|go 7 ?_
 refine Zc J (fun h85=>?_) (fun h85=>?_)
 ·refine go 9 ?_
  exact Mb hsc (.slice none 0 0) results228 J trivial (Lt (Zup O) Za)
 ·refine go 5 ?_
  refine cl 4 [3] (Oz _ _ hvr) fun _ _=>go 11 ?_
  refine kf O3<|go 23 ⟨O,O,O,?_⟩
  refine dt (Yp (ii:=2) (i:=(ys.length-1)) J J J J Zh Mp Ky)<|go 1 ⟨O2,?_⟩
  refine cl 4 [] (Kq _ (hu.sz _)) fun _ _=>go 2 ?_
  refine Yq (d:=45) J (fun s94=>?_) (fun s94=>?_)
  ·refine go 1 ?_
   refine Gh (Zh8 J J J) J J<|go 4 ?_
   refine Zc J (fun h94=>?_) (fun h94=>?_)
   ·refine go 9 ?_
    exact Mb hsc _ results228 J trivial (Oq 4 Za (by rw [Ybz hl ‹_› ‹_›]<;>rfl))
   ·refine go 5 ?_
    refine cl 4 [] (Zx _ ⟨O3,O3⟩) fun _ _=>cl 5 [4] (Iw _ _ _ hvp O7 (fun i=>Am hvp.sz i)) fun _ _=>go 7 ?_
    exact Mb hsc _ results228 J trivial (Oq 5 Za (by first | (rw [Zrp ‹_›]<;>rfl) | (rw [Zro hl ‹_›]<;>rfl)))
  ·refine go 12 ?_
   refine cl 5 [] (Zx _ ⟨O3,O3⟩) fun _ _=>cl 6 [4] (Iw _ _ _ hvp O7 (fun i=>Am hvp.sz i)) fun _ _=>go 7 ?_
   exact Mb hsc _ results228 J trivial (Oq 6 Za (by first | (rw [Zrp ‹_›]<;>rfl) | (rw [Zro hl ‹_›]<;>rfl)))
theorem Zw0(v:Value)(xs:List Int)(hv:Vp xs)(h0:xs≠[])(hf:Ck xs)(F:Nat)(hC:Di F xs):Cal prog 204 #[v] [Yj 2 wv v xs] true (G:=Value×List (SL×List Int)) (fun r=>r.2.map Prod.snd=Aw F xs) (fun r=> .tuple #[r.1,.int .i64 0]) (fun r=>[Mm 1 Hb qZ r.1 r.2]):=by
 refine Zd func204 ntmps204 fun w0 sc hw hsc=>?_
 obtain⟨hC1,hC2,hC3⟩:=hC
 have hvq:=Zpl hv h0 hC1
 have hlq:=Zhu hv hC1
 have hvqd:Vp (Yh (sqf F xs)):=Zc4 hvq (fun i hi=>hC2 i O)
 refine Ze (Pe 999 2 93 wv)<|Ze (Xp 999 J J pV)<|go 9 ?_
 refine cl 2 [1] (st_sqf _ _ hv h0 hf F hC1) fun _ _=>go 11 ?_
 refine kf O3<|go 8 ?_
 refine cl 3 [2] (Fe _ _ hvq (fun i=>by by_cases hi:i<xs.length;exact hC2 i hi;rw [Yd O];simp [Lj])) fun _ _=>go 11 ?_
 refine kt O3<|go 5 ?_
 refine cl 80 [3] (Oz _ _ hvqd) fun _ _=>go 11 ?_
 refine kf O3<|go 6 ?_
 refine Ze2 (Pr 2 J Zh) (fun ss hss=>?_)
 subst hss
 refine Ze (Ys qZ 71)<|Ze (Zj (q:=qZ) (z:=(ss,sqf F xs)) 71 2 71 J J J J J)<|Ze2 (Pr 80 J Zh) (fun sd0 hsd=>?_)
 subst hsd
 refine go 2 ?_
 refine tt (Xy (i:=70) (ivs:=[(0,_)]) (enc:=Hb) [(ss,sqf F xs)] J J K2 Zi3 ti39 J J J J J pS.cells J J hw.h) fun v _=>go 5 ?_
 refine lp (G:=List (SL×List Int)×SL×List Int×SL×List Int×Nat×Value) [] [0,1,999,2,3] (fun q=>[(7,q.2.2.2.2.2.2),(6,Ph q.2.2.2.1)]) (fun q=>[(70,Nf 1 39 Hb q.2.2.2.2.2.2 (q.1 ++ [(q.2.1,q.2.2.1)])),(71,Cx qZ (q.1 ++ [(q.2.1,q.2.2.1)])),(80,Yj 2 wv (Ph q.2.2.2.1) q.2.2.2.2.1)]) (fun q=>(Vp q.2.2.1)∧(Vp q.2.2.2.2.1)∧(cok q.2.2.2.2.2.1 q.2.2.1 q.2.2.2.2.1)∧(q.1.map Prod.snd ++ Ng q.2.2.2.2.2.1 q.2.2.1 q.2.2.2.2.1=Aw F xs)∧(q.1.length+q.2.2.2.2.1.length≤25)) (fun q=>q.2.2.2.2.1.length) ([],ss,sqf F xs,sd0,Zz (Yh (sqf F xs)),F,_) ⟨hvq,Lk hvqd,hC3,J,by rw [Zq];simp;have:=hvqd.len;omega⟩ K2 K3 ?_
 rintro⟨ws,sx,x,sd,y,f,vo⟩ ⟨hvx,hvy,hck,hch,hwl⟩
 dsimp only at hvx hvy hck hch hwl
 dsimp only
 refine go 8 ?_
 refine Zc J (fun h114=>?_) (fun h114=>?_)
 ·have hy0:y≠[]:=fun e=>by rw [e]at h114;simp at h114
  obtain⟨f0,rfl,hd,hle,hck2,hsc2⟩:=Zib hck hy0
  refine go 7 ?_
  refine tt (Xy (i:=4) (ivs:=[(0,_)]) (enc:=Hb) [(sd,y)] J J K2 Zi3 ti39 J J J J J pS.cells J J hw.h) (fun v_2 _=>?_)
  refine tt (Lu (i:=70) (j:=4) (by_:=24) J J J J J J O3 J (Xa pS) Zi3 ti39 J pS J J J O8 O3 J hw.h) fun v_3 _=>go 4 ?_
  have hll:(ws ++ [(sx,x)] ++ [(sd,y)]).length=ws.length+2:=O5
  refine Ze (Zj (q:=qZ) (z:=(sd,y)) 71 80 71 J J J J J)<|Ze (s_many (q:=qZ) 71 92 (sx,x) J J O5 J)<|go 5 ⟨O,?_⟩
  refine dt (Yp (ii:=70) (i:=ws.length) J J J J (Xa pS) Zi3 sizeOf39)<|dt (Zv (r':=Ph sx) (Od (ii:=70) Z0 J J J (Xa pS) pS) (by simp [List.getD_eq_getElem?_getD])) ?_
  refine go 1 ?_
  refine cl 80 [92,80] (Ybw _ _ _ _ hvx hvy hy0 hd hle) fun _ _=>?_
  refine Zzg (Pr 80 J Zh) (fun sn hsn=>?_)
  subst hsn
  refine go 10 ?_
  refine kf O3<|go 5 ?_
  exact Xd (ws ++ [(sx,x)],sd,y,sn,Oj x y,f0,_) ⟨hvy,Zms hvx hd,hck2,by rw [←hch,hsc2];simp,by have h7:=Qs x hy0;have h8:=Ad (y:=y) hvx.tr;simp;omega⟩ (by have h7:=Qs x hy0;have h8:=Ad (y:=y) hvx.tr;dsimp only;omega) K2 K3
 ·refine go 6 ?_
  obtain rfl:y=[]:=List.eq_nil_of_length_eq_zero O
  refine Ze (Xp 70 J J pS)<|Ze (Qj 70 71 72 J J J J)<|go 7 ?_
  exact Mb hsc (_,ws ++ [(sx,x)]) results204 J (by rw [←hch,Eu];simp) (Oq 72 Za)
theorem Yb4(v:Value)(m:Nat)(xs:List Int)(hv:Vp xs)(hm:m≤1000):Og prog 222 #[v,.int .i64 (m:Int)] [Yj 2 wv v xs] (.bool (decide (Zaf xs m))):=by
 refine Zd func222 ntmps222 fun w0 sc hw hsc=>?_
 have hlen:=hv.len
 have hmz:=Pj hv.sz
 have q1:(xs.length+2)*(xs.length+2)≤27*27:=Nat.mul_le_mul O O
 have q2:(xs.length+2)*(xs.length+2)*(Pi xs+m+2*(xs.length-1)+32)≤27*27*70000:=Nat.mul_le_mul q1 O
 have q3:((xs.length:Int)-1+3)*((xs.length:Int)-1+3)=(((xs.length+2)*(xs.length+2):Nat):Int):=by rw [show(xs.length:Int)-1+3=((xs.length+2:Nat):Int) by omega];push_cast;rfl
 have q4:xs.length≠0→((xs.length:Int)-1+3)*((xs.length:Int)-1+3)*((Pi xs:Int)+(m:Int)+2*((xs.length:Int)-1)+32)=(((xs.length+2)*(xs.length+2)*(Pi xs+m+2*(xs.length-1)+32):Nat):Int):=fun h=>by rw [q3,show(Pi xs:Int)+(m:Int)+2*((xs.length:Int)-1)+32=((Pi xs+m+2*(xs.length-1)+32:Nat):Int) by omega];push_cast;rfl
 refine go 8 ?_
 refine cl 1 [1] (Zfn _ _ hv) fun _ _=>go 10 ?_
 refine cl 1 [1] (Zjl _ _ hv) fun _ _=>go 13 ?_
 refine Yq (d:=22) J (fun s24=>?_) (fun s24=>?_)
 ·refine go 19 ?_
  exact Xi hsc () results222 (by first | exact sgf_t O | exact sgf_i O (q4 O)) trivial Za
 ·refine go 19 ⟨O,O,by rw [q3];exact⟨O,O⟩,O,O,O,O,by rw [q4 O];exact⟨O,O⟩,?_⟩
  exact Xi hsc () results222 (by first | exact sgf_t O | exact sgf_i O (q4 O)) trivial Za
theorem Zxg(v:Value)(xs:List Int)(hv:Vp xs):Og prog 200 #[v] [Yj 2 wv v xs] (.bool (decide (Zaf xs 0))):=by
 refine Zd func200 ntmps200 fun w0 sc hw hsc=>go 8 ?_
 refine cl 1 [1] (Xf _ _ ‹_›) fun _ _=>go 2 ?_
 refine Hc 1 [1] (Yb4 _ 0 xs hv O) fun _ _=>go 5 ?_
 exact Xi hsc () results200 J trivial Za
theorem Zg0(x y:Int)(hx:bl x.natAbs≤65536)(hy:bl y.natAbs≤65536):Og prog 201 #[rX x y] [] (.bool (efit (x,y))):=by
 refine Zd func201 ntmps201 fun w0 sc hw hsc=>go 2 ?_
 refine Ya (Ye 1) fun bx _=>go 4 ?_
 refine Qb (fun _=>False) [(0,0),(1,0),(3,0),(4,0),(2,1),(5,1),(6,0),(7,0),(8,3)]<|go 4 ?_
 refine Yu (Zg 1 [] (Zgm _ hx)) fun _ _=>Yu (Zg 1 [] (Zgm _ hy)) fun _ _=>?_
 refine Pf J J (Pn (Zj0 J J J))<|go 5 ?_
 exact Xi hsc () results201 (by unfold efit;exact vB (decide_eq_decide.2 O9)) trivial Za
theorem Zg1(x y x2 y2:Int)(hx:bl x.natAbs≤65536)(hy:bl y.natAbs≤65536)(hx2:bl x2.natAbs≤65536)(hy2:bl y2.natAbs≤65536)(hp:0<y)(hp2:0<y2):Og prog 202 #[rX x y,rX x2 y2] [] (.int .i64 (cmp (x,y) (x2,y2))):=by
 refine Zd func202 ntmps202 fun w0 sc hw hsc=>go 2 ?_
 refine Ya (Ye 1) fun bx _=>Ya (Ye 2) fun bx_2 _=>go 7 ?_
 refine cl 2 [] (Zc3 _ _ _ _ hx hy hx2 hy2 hp hp2) fun _ _=>go 14 ?_
 exact Xi hsc () results202 J trivial Za
theorem Zrx(bs:Nat)(v:Value)(xs:List Int)(x y:Int)(hx:bl x.natAbs≤65536)(hy:bl y.natAbs≤65536)(hp:0<y)(hv:Vp xs)(hE:¬Ml xs x y):Og prog 207 #[.pointer (some ⟨bs,0,none⟩),v,rX x y] [Ge bs 236 #[.int .i64 0],Yj 2 wv v xs] (.int .i64 (fat x y xs)):=by
 refine Zd func207 ntmps207 fun w0 sc hw hsc=>go 2 ?_
 refine Ya (Ye 3) fun bx _=>go 7 ?_
 refine cl 3 [2] (Znu _ _ _ _ hv hx hy hp) fun _ _=>go 2 ?_
 refine dt (Zv (r':= .int .i64 0) (Zqw J J J) (congrArg (Value.int .i64) (if_neg hE)))<|go 11 ?_
 refine kt O3<|go 8 ?_
 refine tt (Zi4 (i:=1) J J J J J J sizeOf31 J J (by simp [Value.oneCell']) J) fun _ _=>go 9 ?_
 exact Xi hsc () results207 (by unfold fat;rw [show evv xs x y=pev xs x y from if_neg hE]<;>rfl) trivial Za
theorem Zgy(v1 v2:Value)(bs:Nat)(ls cs:List (SL×List Int))(x y:Int)(hx:bl x.natAbs≤65536)(hy:bl y.natAbs≤65536)(hp:0<y)(hlsv:∀z∈ls,Vp z.2)(hlsE:∀z∈ls,¬Ml z.2 x y):Og prog 179 #[.agg #[v1,v2],.pointer (some ⟨bs,0,none⟩),rX x y] [Mm 1 Hb qZ v1 ls,Mm 1 Hb qZ v2 cs,Ge bs 236 #[.int .i64 0]] (.int .i64 (vlu (ls.map Prod.snd) (x,y))):=by
 refine Zd func179 ntmps179 fun w0 sc hw hsc=>?_
 refine On (Ic (i:=1) J Zp) fun hlen=>go 2 ?_
 refine Ya (Ye 4) fun bx _=>Ya (Ye 5) fun bx_2 _=>go 12 ?_
 refine Zc J (fun h160=>?_) (fun h160=>?_)
 ·refine go 7 ?_
  exact Xi hsc () results179 (by unfold vlu;rw [List.length_map,if_pos O]<;>rfl) trivial Za
 ·refine go 3 ?_
  refine Qb (fun _=>False) [(0,0),(1,0),(2,0),(3,0),(4,0),(5,0),(6,1),(7,3)]<|go 4 ⟨O,?_⟩
  refine Pf J J (Pn (Od (ii:=1) Z0 J J J Zp pS))<|go 1 ?_
  refine Fi J (Pt (n:=5) (Zrx _ (Ph (ls.getD 0 Z0).1) (ls.getD 0 Z0).2 _ _ hx hy hp (hlsv (ls.getD 0 Z0) (Zi)) (hlsE (ls.getD 0 Z0) (Zi))) J J J K3 call207 (Zk 3 J J J (Zx5 1 J J (Zi (i:=0) (zs:=ls) (d:=Z0)) Zy)) J hw.h) fun _ _=>go 4 ?_
  exact Xi hsc () results179 (by unfold vlu;rw [List.length_map,if_neg O,Zel _ O]<;>rfl) trivial Za
theorem Zxh(v1 v2:Value)(bs:Nat)(ls cs:List (SL×List Int))(x y:Int)(hx:bl x.natAbs≤65536)(hy:bl y.natAbs≤65536)(hp:0<y)(hlsv:∀z∈ls,Vp z.2)(hlsE:∀z∈ls,¬Ml z.2 x y):Og prog 205 #[.agg #[v1,v2],.pointer (some ⟨bs,0,none⟩),rX x y] [Mm 1 Hb qZ v1 ls,Mm 1 Hb qZ v2 cs,Ge bs 236 #[.int .i64 0]] (.int .i64 (aft (ls.map Prod.snd) (x,y))):=by
 refine Zd func205 ntmps205 fun w0 sc hw hsc=>?_
 refine On (Ic (i:=1) J Zp) (fun hlen=>?_)
 have hLl:=Zhv ls (fat x y)
 have hLg:=fun i (h:i<ls.length)=>Zm9 ls (fat x y) h
 refine go 2 ?_
 refine Ya (Ye 4) fun bx _=>Ya (Ye 5) fun bx_2 _=>go 13 ?_
 refine lp (G:=Nat) [1,5,11,12] [0,1,2,3,4,5] (fun i=>[(13,.int .i64 (i:Int))]) (fun i=>[]) (fun i=>(i≤ls.length)∧(∀k,k<i→(sgx ls (fat x y)).getD k 0=0)) (fun i=>ls.length-i) 0 ⟨O1,fun k hk=>absurd hk (Nat.not_lt_zero k)⟩ K1 trivial ?_
 rintro i ⟨hi,hz⟩
 refine go 6 ?_
 refine Zc J (fun h168=>?_) (fun h168=>?_)
 ·refine go 7 ⟨O2,?_⟩
  refine dt (Od (ii:=1) Z0 J J J Zp pS O2)<|go 4 ?_
  refine Ze (Zkk 1 91 (ls.getD i Z0) J J (Zi) J)<|go 4 ?_
  refine cl 5 [3,91] (Zrx _ (Ph (ls.getD i Z0).1) (ls.getD i Z0).2 _ _ hx hy hp (hlsv (ls.getD i Z0) (Zi)) (hlsE (ls.getD i Z0) (Zi))) fun _ _=>go 9 ?_
  refine Zc J (fun h169=>?_) (fun h169=>?_)
  ·refine go 12 ?_
   exact Xi hsc () results205 (by rw [Zug,Zoj ‹_› O hz (hLg i O)]<;>rfl) trivial Za
  ·refine go 7 ⟨O,?_⟩
   exact Xd (i+1) ⟨O1,fun k hk2=>by rcases Nat.lt_succ_iff_lt_or_eq.1 hk2 with h9 | h9;exact hz k h9;subst h9;rw [hLg _ O];exact Decidable.byContradiction ‹_›⟩ O1 K1 trivial
 ·refine go 11 ?_
  exact Xi hsc () results205 (by rw [Zug,Zjw (fun k hk=>hz k O)]<;>rfl) trivial Za
theorem Zg2(v1 v2:Value)(bs:Nat)(ls cs:List (SL×List Int))(x y:Int)(hx:bl x.natAbs≤65536)(hy:bl y.natAbs≤65536)(hp:0<y)(hcsv:∀z∈cs,Vp z.2)(hcsE:∀z∈cs,¬Ml z.2 x y):Og prog 229 #[.agg #[v1,v2],.pointer (some ⟨bs,0,none⟩),rX x y] [Mm 1 Hb qZ v1 ls,Mm 1 Hb qZ v2 cs,Ge bs 236 #[.int .i64 0]] (.int .i64 (chv (cs.map Prod.snd) (x,y))):=by
 refine Zd func229 ntmps229 fun w0 sc hw hsc=>?_
 refine On (Ic (i:=2) J Zp) (fun hlen=>?_)
 have hLl:=Zhv cs (fat x y)
 have hLg:=fun i (h:i<cs.length)=>Zm9 cs (fat x y) h
 refine go 2 ?_
 refine Ya (Ye 4) fun bx _=>Ya (Ye 5) fun bx_2 _=>go 19 ?_
 refine lp (G:=Nat×Int×Int) [1,5,13,14] [0,1,2,3,4,5] (fun q=>[(15,.int .i64 (q.1:Int)),(7,.int .i64 q.2.1),(8,.int .i64 q.2.2)]) (fun q=>[]) (fun q=>(q.1≤cs.length)∧((q.2.1,q.2.2)=((sgx cs (fat x y)).take q.1).foldl Nd (0,0))∧(0≤q.2.1)∧(q.2.1≤(q.1:Int))∧(-1≤q.2.2∧q.2.2≤1)) (fun q=>cs.length-q.1) (0,0,0) ⟨O1,O5,O1,O1,O1⟩ K3 trivial ?_
 rintro⟨i,n,l⟩ ⟨hi,hc,hn0,hn1,hl⟩
 dsimp only at hi hc hn0 hn1 hl
 dsimp only
 have hfr:=fat_r x y (cs.getD i Z0).2
 refine go 6 ?_
 refine Zc J (fun h179=>?_) (fun h179=>?_)
 ·refine go 7 ⟨O2,?_⟩
  refine dt (Od (ii:=2) Z0 J J J Zp pS O2)<|go 4 ?_
  refine Ze (Zkk 2 91 (cs.getD i Z0) J J (Zi) J)<|go 4 ?_
  refine cl 5 [3,91] (Zrx _ (Ph (cs.getD i Z0).1) (cs.getD i Z0).2 _ _ hx hy hp (hcsv (cs.getD i Z0) (Zi)) (hcsE (cs.getD i Z0) (Zi))) fun _ _=>go 12 ⟨sgm_i hfr hl,?_⟩
  refine Zc J (fun h181=>?_) (fun h181=>?_)
  ·refine go 12 ⟨O,?_⟩
   refine Zc J (fun h184=>?_) (fun h184=>?_)
   ·refine go 10 ⟨O,?_⟩
    exact Xd (i+1,_,_) ⟨O1,by first | exact Zt1 O hc (hLg i O) (Decidable.byContradiction ‹_›) | exact Zt0 O hc (hLg i O) ‹_› (Zrv hfr O ‹_›) | exact Ztz O hc (hLg i O) ‹_› (Zru hfr O ‹_› ‹_›) | exact absurd ‹_› (Zrw (Decidable.byContradiction ‹_›)),by first | exact hn0 | (dsimp only;omega),O9,by first | exact hl | exact hfr⟩ O1 K3 trivial
   ·refine go 7 ⟨O,?_⟩
    exact Xd (i+1,_,_) ⟨O1,by first | exact Zt1 O hc (hLg i O) (Decidable.byContradiction ‹_›) | exact Zt0 O hc (hLg i O) ‹_› (Zrv hfr O ‹_›) | exact Ztz O hc (hLg i O) ‹_› (Zru hfr O ‹_› ‹_›) | exact absurd ‹_› (Zrw (Decidable.byContradiction ‹_›)),by first | exact hn0 | (dsimp only;omega),O9,by first | exact hl | exact hfr⟩ O1 K3 trivial
  ·refine go 8 ?_
   refine Zc J (fun h184_2=>?_) (fun h184_2=>?_)
   ·refine go 10 ⟨O,?_⟩
    exact Xd (i+1,_,_) ⟨O1,by first | exact Zt1 O hc (hLg i O) (Decidable.byContradiction ‹_›) | exact Zt0 O hc (hLg i O) ‹_› (Zrv hfr O ‹_›) | exact Ztz O hc (hLg i O) ‹_› (Zru hfr O ‹_› ‹_›) | exact absurd ‹_› (Zrw (Decidable.byContradiction ‹_›)),by first | exact hn0 | (dsimp only;omega),O9,by first | exact hl | exact hfr⟩ O1 K3 trivial
   ·refine go 7 ⟨O,?_⟩
    exact Xd (i+1,_,_) ⟨O1,by first | exact Zt1 O hc (hLg i O) (Decidable.byContradiction ‹_›) | exact Zt0 O hc (hLg i O) ‹_› (Zrv hfr O ‹_›) | exact Ztz O hc (hLg i O) ‹_› (Zru hfr O ‹_› ‹_›) | exact absurd ‹_› (Zrw (Decidable.byContradiction ‹_›)),by first | exact hn0 | (dsimp only;omega),O9,by first | exact hl | exact hfr⟩ O1 K3 trivial
 ·refine go 12 ?_
  exact Xi hsc () results229 (by rw [Yd4,Yd9 O hc]<;>rfl) trivial Za
theorem Zpy(v1 v2:Value)(bs:Nat)(ls cs:List (SL×List Int))(x y x2 y2:Int)(hx:bl x.natAbs≤65536)(hy:bl y.natAbs≤65536)(hx2:bl x2.natAbs≤65536)(hy2:bl y2.natAbs≤65536)(hp:0<y)(hp2:0<y2)(hcsv:∀z∈cs,Vp z.2)(hcsE:∀z∈cs,¬Ml z.2 x y)(hcsF:∀z∈cs,¬Ml z.2 x2 y2)(hlc:cs.length≤1000):Og prog 206 #[.agg #[v1,v2],.pointer (some ⟨bs,0,none⟩),rX x y,rX x2 y2] [Mm 1 Hb qZ v1 ls,Mm 1 Hb qZ v2 cs,Ge bs 236 #[.int .i64 0]] (.bool (crb (cs.map Prod.snd) (x,y) (x2,y2))):=by
 refine Zd func206 ntmps206 fun w0 sc hw hsc=>?_
 refine On (Ic (i:=2) J Zp) (fun hlen=>?_)
 have hr1:=chv_r (cs.map Prod.snd) (x,y)
 have hr2:=chv_r (cs.map Prod.snd) (x2,y2)
 rw [List.length_map]at hr1 hr2
 refine go 2 ?_
 refine Ya (Ye 4) fun bx _=>Ya (Ye 5) fun bx_2 _=>Ya (Ye 6) fun bx_3 _=>go 12 ?_
 refine Zc J (fun h193=>?_) (fun h193=>?_)
 ·refine go 7 ?_
  exact Xi hsc () results206 (by unfold crb;rw [List.length_map,if_pos O]<;>rfl) trivial Za
 ·refine go 3 ?_
  refine Qb (fun _=>False) [(0,0),(1,0),(2,0),(4,0),(5,0),(6,0),(3,1),(7,1),(8,0),(9,3)]<|go 6 ?_
  refine Yu (Zg 6 [1,2,3] (Zg2 _ _ _ _ _ _ _ hx hy hp hcsv hcsE)) fun _ _=>Yu (Zg 6 [1,2,3] (Zg2 _ _ _ _ _ _ _ hx2 hy2 hp2 hcsv hcsF)) fun _ _=>go 6 ⟨O,?_⟩
  refine Qb (fun _=>False) [(0,0),(1,0),(2,0),(3,0),(4,0),(5,0),(6,1),(7,0)]<|go 4 ⟨O,?_⟩
  refine Pf J J (Pn (Od (ii:=2) Z0 J J J Zp pS))<|go 1 ?_
  refine Fi J (Pt (n:=6) (Zrx _ (Ph (cs.getD 0 Z0).1) (cs.getD 0 Z0).2 _ _ hx2 hy2 hp2 (hcsv (cs.getD 0 Z0) (Zi)) (hcsF (cs.getD 0 Z0) (Zi))) J J J K3 call207 (Zk 3 J J J (Zx5 2 J J (Zi (i:=0) (zs:=cs) (d:=Z0)) Zy)) J hw.h) fun _ _=>go 3 ?_
  refine Zc J (fun h197=>?_) (fun h197=>?_)
  ·refine go 14 ⟨O,?_⟩
   exact Xi hsc () results206 (by first | exact crb_t O ‹_› | exact crb_f O ‹_›) trivial Za
  ·refine go 10 ?_
   exact Xi hsc () results206 (by first | exact crb_t O ‹_› | exact crb_f O ‹_›) trivial Za
theorem Zag(v1 v2:Value)(bs:Nat)(ls cs:List (SL×List Int))(x y x2 y2:Int)(hp:0<y)(hp2:0<y2)(hlsv:∀z∈ls,Vp z.2)(hlsE:∀z∈ls,¬Ml z.2 x y)(hcsv:∀z∈cs,Vp z.2)(hcsE:∀z∈cs,¬Ml z.2 x y)(hcsF:∀z∈cs,¬Ml z.2 x2 y2)(hlc:cs.length≤1000)(hx:bl x.natAbs≤65536:=by omega)(hy:bl y.natAbs≤65536:=by omega)(hx2:bl x2.natAbs≤65536:=by omega)(hy2:bl y2.natAbs≤65536:=by omega):Og prog 178 #[.agg #[v1,v2],.pointer (some ⟨bs,0,none⟩),rX x y,rX x2 y2] [Mm 1 Hb qZ v1 ls,Mm 1 Hb qZ v2 cs,Ge bs 236 #[.int .i64 0]] (.bool (ngb (ls.map Prod.snd) (cs.map Prod.snd) (x,y) (x2,y2))):=by
 refine Zd func178 ntmps178 fun w0 sc hw hsc=>go 2 ?_
 refine Ya (Ye 4) fun bx _=>Ya (Ye 5) fun bx_2 _=>Ya (Ye 6) fun bx_3 _=>go 8 ?_
 refine cl 6 [] (Zg1 _ _ _ _ hx hy hx2 hy2 hp hp2) fun _ _=>go 3 ?_
 refine Zc J (fun h205=>?_) (fun h205=>?_)
 ·refine go 5 ?_
  refine cl 6 [1,2,3] (Zgy _ _ _ _ _ _ _ hx hy hp hlsv hlsE) fun _ _=>go 6 ?_
  exact Xi hsc () results178 (by unfold ngb;rw [if_pos ‹_›]) trivial Za
 ·refine go 7 ?_
  refine cl 6 [1,2,3] (Zxh _ _ _ _ _ _ _ hx hy hp hlsv hlsE) fun _ _=>go 2 ?_
  refine Yq (d:=23) J (fun s208=>?_) (fun s208=>?_)
  ·refine go 10 ?_
   exact Xi hsc () results178 (by first | exact ngb_t ‹_› ‹_› | exact ngb_f ‹_› ‹_›) trivial Za
  ·refine go 4 ?_
   refine Hc 6 [1,2,3] (Zpy _ _ _ _ _ _ _ _ _ hx hy hx2 hy2 hp hp2 hcsv hcsE hcsF hlc) fun _ _=>go 5 ?_
   exact Xi hsc () results178 (by first | exact ngb_t ‹_› ‹_› | exact ngb_f ‹_› ‹_›) trivial Za
theorem Zus(bs:Nat)(x y x2 y2:Int)(hx:bl x.natAbs≤65536)(hy:bl y.natAbs≤65536)(hx2:bl x2.natAbs≤65536)(hy2:bl y2.natAbs≤65536)(hp:0<y)(hp2:0<y2)(hm:Zb9 (x,y) (x2,y2)):Og prog 208 #[.pointer (some ⟨bs,0,none⟩),rX x y,rX x2 y2] [Ge bs 236 #[.int .i64 0]] (.agg #[.bool (decide ((Qm (x,y) (x2,y2)).1<0)),.string (Xn (Qm (x,y) (x2,y2)).1.natAbs),.bool (decide ((Qm (x,y) (x2,y2)).2<0)),.string (Xn (Qm (x,y) (x2,y2)).2.natAbs)]):=by
 refine Zd func208 ntmps208 fun w0 sc hw hsc=>?_
 have hq:¬Mv (x*y2+x2*y) (y*y2):=hm.1
 obtain⟨hn1,hn2,hn3⟩:=Bx hq
 obtain⟨hb1,hb2⟩:=nr_bl hq
 have hdp:=Zqb hq (Int.mul_pos hp hp2)
 have hm2:=Zvf hm
 refine go 2 ?_
 refine Ya (Ye 2) fun bx _=>Ya (Ye 3) fun bx_2 _=>Ya (Zr 4) fun bx_3 _=>go 6 ?_
 refine cl 4 [] (Zim _ _ _ _ hx hy hx2 hy2 hp hp2) fun _ _=>go 2 ?_
 refine dt (Zv (r':= .int .i64 0) (Zqw J J J) (congrArg (Value.int .i64) hn3))<|Ya (Zr 5) fun bx_4 _=>go 11 ?_
 refine kt O3<|go 8 ?_
 refine tt (Zi4 (i:=1) J J J J J J sizeOf31 J J (by simp [Value.oneCell']) J) fun _ _=>go 3 ?_
 refine Nm [5] [10]<|Zl (n:=10) [(0,0)]<|go 2 ?_
 refine Qt (n:=9) 1 8 ?_ ?_
 ·refine Mc (Zg 5 [] (Zx _ ⟨O3,O3⟩)) fun _ _=>?_
  refine Qt (n:=8) 2 8 ?_ ?_
  ·refine Mc (Zg 5 [] (Zx _ ⟨O3,O3⟩)) fun _ _=>?_
   refine Zl (n:=7) [(3,0)]<|Pf J J (stf (Xs (ivs:=[(0,_),(1,_)]) J K4 (fun a w hs=>Zd8)) K1)<|go 1 ?_
   refine Qt (n:=6) 4 8 ?_ ?_
   ·refine Mc (Zg 5 [] (Gs _ _ 1 2 hb1 hb2 O7 O7 hdp)) fun _ _=>?_
    refine Zl (n:=0) [(5,0),(6,0),(7,0),(8,1),(9,1),(10,3)]<|go 2 ?_
    refine Pf J J (stf (Zv (r':= .int .i64 0) (Zqw J J J) (congrArg (Value.int .i64) hm2)) K1)<|Yu (Nb 6) fun bx_5 ho=>go 3 ?_
    refine Zu<|go 8 ?_
    refine kt O3<|go 8 ?_
    refine tt (Zi4 (i:=1) J J J J J J sizeOf31 J J (by simp [Value.oneCell']) J) fun _ _=>go 9 ?_
    exact Xi hsc () results208 J trivial Za
   ·refine Mc (Nb 7) fun bx_6 ho2=>?_
    refine Zl (n:=0) [(4,1),(5,0),(6,0),(7,0),(9,1),(10,3)]<|Yu (Zg 7 [] (Gs _ _ 1 2 hb1 hb2 O7 O7 hdp)) fun _ _=>go 2 ?_
    refine Pf J J (stf (Zv (r':= .int .i64 0) (Zqw J J J) (congrArg (Value.int .i64) hm2)) K1)<|go 3 ?_
    refine Zu<|go 8 ?_
    refine kt O3<|go 8 ?_
    refine tt (Zi4 (i:=1) J J J J J J sizeOf31 J J (by simp [Value.oneCell']) J) fun _ _=>go 9 ?_
    exact Xi hsc () results208 J trivial Za
  ·refine Mc (Nb 8) fun bx_7 ho3=>?_
   refine Zl (n:=0) [(2,1),(3,0),(4,1),(5,0),(6,0),(7,0),(9,1),(10,3)]<|Yu (Zg 8 [] (Zx _ ⟨O3,O3⟩)) fun _ _=>?_
   refine Pf J J (stf (Xs (ivs:=[(0,_),(1,_)]) J K4 (fun a w hs=>Zd8)) K1)<|Yu (Zg 8 [] (Gs _ _ 1 2 hb1 hb2 O7 O7 hdp)) fun _ _=>go 2 ?_
   refine Pf J J (stf (Zv (r':= .int .i64 0) (Zqw J J J) (congrArg (Value.int .i64) hm2)) K1)<|go 3 ?_
   refine Zu<|go 8 ?_
   refine kt O3<|go 8 ?_
   refine tt (Zi4 (i:=1) J J J J J J sizeOf31 J J (by simp [Value.oneCell']) J) fun _ _=>go 9 ?_
   exact Xi hsc () results208 J trivial Za
 ·refine Mc (Nb 9) fun bx_8 ho4=>?_
  refine Zl (n:=0) [(1,1),(2,1),(3,0),(4,1),(5,0),(6,0),(7,0),(9,1),(10,3)]<|Yu (Zg 9 [] (Zx _ ⟨O3,O3⟩)) fun _ _=>Yu (Zg 9 [] (Zx _ ⟨O3,O3⟩)) fun _ _=>?_
  refine Pf J J (stf (Xs (ivs:=[(0,_),(1,_)]) J K4 (fun a w hs=>Zd8)) K1)<|Yu (Zg 9 [] (Gs _ _ 1 2 hb1 hb2 O7 O7 hdp)) fun _ _=>go 2 ?_
  refine Pf J J (stf (Zv (r':= .int .i64 0) (Zqw J J J) (congrArg (Value.int .i64) hm2)) K1)<|go 3 ?_
  refine Zu<|go 8 ?_
  refine kt O3<|go 8 ?_
  refine tt (Zi4 (i:=1) J J J J J J sizeOf31 J J (by simp [Value.oneCell']) J) fun _ _=>go 9 ?_
  exact Xi hsc () results208 J trivial Za
abbrev RZ:=(Bool×ByteArray)×(Bool×ByteArray)
abbrev Q0:RZ:=((false,⟨#[]⟩),(false,⟨#[]⟩))
def qOK(z:RZ):Bool:=okR z.1.1 z.1.2 z.2.1 z.2.2
noncomputable def qx (z:RZ):Int:=if h:okR z.1.1 z.1.2 z.2.1 z.2.2=true then(Zym h).choose else 0
noncomputable def qy (z:RZ):Int:=if h:okR z.1.1 z.1.2 z.2.1 z.2.2=true then(Zym h).choose_spec.choose else 0
theorem Zjb(x y x2 y2:Int)(hp:0<y)(hp2:0<y2)(hx:bl x.natAbs≤65536:=by omega)(hy:bl y.natAbs≤65536:=by omega)(hx2:bl x2.natAbs≤65536:=by omega)(hy2:bl y2.natAbs≤65536:=by omega):Og prog 177 #[rX x y,rX x2 y2] [] (.agg #[.bool (decide ((slow (x,y)).1<0)),.string (Xn (slow (x,y)).1.natAbs),.bool (decide ((slow (x,y)).2<0)),.string (Xn (slow (x,y)).2.natAbs),.bool (decide ((slow (x2,y2)).1<0)),.string (Xn (slow (x2,y2)).1.natAbs),.bool (decide ((slow (x2,y2)).2<0)),.string (Xn (slow (x2,y2)).2.natAbs)]):=by
 refine Zd func177 ntmps177 fun w0 sc hw hsc=>go 2 ?_
 refine Ya (Ye 1) fun bx _=>Ya (Ye 2) fun bx_2 _=>Ya (Zr 3) fun bx_3 _=>go 8 ?_
 refine cl 3 [] (Ek _ _ hx hy) fun _ _=>go 3 ?_
 refine Ya (Zr 4) fun bx_4 _=>go 10 ?_
 refine cl 4 [] (Ek _ _ hx2 hy2) fun _ _=>go 3 ?_
 refine Ya (Zr 5) fun bx_5 _=>go 8 ?_
 refine dt (Xs (ivs:=[(0,_),(1,_)]) J K4 (fun a w hs=>Yek))<|go 4 ?_
 exact Xi hsc () results177 J trivial Za
theorem Zna(v:Value)(xs:List Int)(hv:Vp xs)(h0:xs≠[]):Cal prog 224 #[v] [Yj 2 wv v xs] true (G:=Value) (fun r=>True) (fun r=> .tuple #[r,.int .i64 0]) (fun r=>[Yj 2 wv r (Xb xs)]):=by
 refine Zd func224 ntmps224 fun w0 sc hw hsc=>?_
 have hvp:=Lk hv
 have hl0:=List.length_pos_iff.2 h0
 have hlp:=Zq xs
 have hlen:=hv.len
 refine go 9 ?_
 refine cl 2 [1] (Oz _ _ hv) fun _ _=>go 11 ?_
 refine kt O3<|go 3 ?_
 refine ktg (decide_eq_true O)<|go 6 ⟨O,?_⟩
 refine Gh (Yp (ii:=2) (i:=((Zz xs).length-1)) J J J J Zh Mp Ky) J J<|go 1 ⟨O2,?_⟩
 refine Hc 2 [] (Kq _ (hvp.sz _)) fun _ _=>go 4 ?_
 refine Zc J (fun h63=>?_) (fun h63=>?_)
 ·refine go 3 ?_
  refine cl 2 [] (Zx _ ⟨O3,O3⟩) fun _ _=>cl 3 [2] (Iw _ _ _ hvp O7 (fun i=>Am hvp.sz i)) fun _ _=>go 8 ?_
  exact Mb hsc _ results224 J trivial (Oq 3 Za (by rw [Zso O ((Qv _).1 ‹_›)]<;>rfl))
 ·refine go 11 ?_
  exact Mb hsc _ results224 J trivial (Oq 2 Za (by rw [Zsn (fun h=>by have h2:=(Qv _).2 h;exact absurd h2 ‹_›)]<;>rfl))
theorem sg_odd(v:Value)(xs:List Int)(hd:Cvd xs)(h0:xs≠[]):Cal prog 203 #[v] [Yj 2 wv v xs] true (G:=Value) (fun r=>True) (fun r=> .tuple #[r,.int .i64 0]) (fun r=>[Yj 2 wv r (Ku xs)]):=by
 refine Zd func203 ntmps203 fun w0 sc hw hsc=>?_
 refine Ze (Pe 999 2 93 wv)<|Ze (Xp 999 J J pV)<|go 9 ?_
 refine cl 2 [1] (Zna _ _ hd.v h0) fun _ _=>go 11 ?_
 refine kf O3<|go 7 ?_
 refine tt (Xy (i:=3) (ivs:=[(0,_)]) (enc:=Ym) ([1]:List Int) J J K2 Fj ti3 J J J J J pZ.cells J J hw.h) (fun v _=>?_)
 refine Zt (Xp 3 J J pZ)<|cl 4 [3] (Zkz _ _ (fun x h=>by rw [List.mem_singleton.1 h];exact⟨O3,O3⟩)) fun _ _=>go 18 ?_
 refine Ze (Qp 2 80 J J J)<|Ze (Qp 4 81 J J J)<|Ze (Qp 999 82 J J J)<|lp (G:=Value×Value×Value×List Int×List Int×List Int×Nat) [] [0,1,999,2,3,4] (fun q=>[(4,q.1),(6,q.2.1),(8,q.2.2.1),(9,.int .i64 (q.2.2.2.2.2.2:Int))]) (fun q=>[(80,Yj 2 wv q.1 q.2.2.2.1),(81,Yj 2 wv q.2.1 q.2.2.2.2.1),(82,Yj 2 wv q.2.2.1 q.2.2.2.2.2.1)]) (fun q=>(OddI xs q.2.2.2.2.2.2 q.2.2.2.1 q.2.2.2.2.1 q.2.2.2.2.2.1)∧(1≤q.2.2.2.2.2.2)∧(q.2.2.2.2.2.2+q.2.2.2.1.length≤12)) (fun q=>q.2.2.2.1.length) (_,_,_,Xb xs,[1],[],1) ⟨OddI.start hd h0,O1,by have:=Qq hd.v.tr;have:=hd.l;dsimp only;omega⟩ K4 K3 ?_
 rintro⟨vr,vo,vb,rest,out,bef,t⟩ ⟨hI,ht1,ht2⟩
 dsimp only at hI ht1 ht2
 dsimp only
 obtain⟨a1,a2,a3,a4,a5,a6,a7,a8,a9,a10,a11,a12,a13,a14,a15,a16,a17,a18⟩:=Zge hd h0 (hI.dp hd h0)
 obtain⟨o1,o2,o3⟩:=hI.out hd h0
 refine go 5 ?_
 refine cl 5 [80] (Fe _ _ a1 a3) fun _ _=>go 11 ?_
 refine kf O3<|go 9 ?_
 refine cl 6 [80,5] (Znv _ _ _ _ a1 a4 13 a5 a6) fun _ _=>?_
 refine Zt (He 6 (q:=Yj 2 wv _ (Nh 13 rest)) (congrArg (Yj 2 wv _) a7) J J)<|go 11 ?_
 refine kf O3<|go 9 ?_
 refine cl 7 [80,6] (Zal _ _ _ _ a1 a8 a9) fun _ _=>?_
 refine Zt (He 7 (q:=Yj 2 wv _ (sqf 13 rest)) (congrArg (Yj 2 wv _) ((if_pos a10).trans a11)) J J)<|go 11 ?_
 refine kf (decide_eq_false (fun h=>h (if_pos a10)))<|go 9 ?_
 refine dt (Zh8 J J J)<|go 3 ?_
 refine Zc J (fun h91=>?_) (fun h91=>?_)
 ·have ht:t%2=0:=O
  obtain⟨e1,e2,e3,e4,e5,e6,e7,e8⟩:=hI.even hd h0 ht
  refine go 4 ?_
  refine cl 8 [82,7] (Zal _ _ _ _ e1 a12 e2) fun _ _=>?_
  refine Zt (He 8 (q:=Yj 2 wv _ (Lx bef (sqf 13 rest))) (congrArg (Yj 2 wv _) (if_pos e3)) J J)<|go 11 ?_
  refine kf (decide_eq_false (fun h=>h (if_pos e3)))<|go 9 ?_
  refine cl 9 [81,8] (Zhc _ _ _ _ o1 e4 e5) fun _ _=>go 10 ?_
  refine kf O3<|go 13 ?_
  refine Zc J (fun h101=>?_) (fun h101=>?_)
  ·refine go 13 ?_
   exact Mb hsc _ results203 J trivial (Oq 9 Za (by first | (rw [hI.odd_end hd h0 O O]<;>rfl) | (rw [e6 O]<;>rfl)))
  ·refine go 15 ⟨O,?_⟩
   exact Yr (Qp 6 80 J J J)<|Yr (Qp 9 81 J J J)<|Yr (Qp 7 82 J J J)<|Xd (_,_,_,Nh 13 rest,_,sqf 13 rest,t+1) ⟨by first | exact hI.odd_next O O | exact e7 O,O1,by have:=a17 O;dsimp only;omega⟩ (a17 O) K4 K3
 ·have ht:t%2=1:=O
  refine go 10 ?_
  refine Zc J (fun h101_2=>?_) (fun h101_2=>?_)
  ·refine go 13 ?_
   exact Mb hsc _ results203 J trivial (Oq 81 Za (by first | (rw [hI.odd_end hd h0 O O]<;>rfl) | (rw [e6 O]<;>rfl)))
  ·refine go 15 ⟨O,?_⟩
   exact Yr (Qp 6 80 J J J)<|Yr (Qp 7 82 J J J)<|Xd (_,_,_,Nh 13 rest,_,sqf 13 rest,t+1) ⟨by first | exact hI.odd_next O O | exact e7 O,O1,by have:=a17 O;dsimp only;omega⟩ (a17 O) K4 K3
theorem sg_of(v:Value)(xs:List Int)(hd:Cvd xs):Cal prog 176 #[v] [Yj 2 wv v xs] true (G:=Value×List (SL×List Int)×Value×List (SL×List Int)) (fun r=>r.2.1.map Prod.snd=Pq xs∧r.2.2.2.map Prod.snd=chx xs) (fun r=> .tuple #[.agg #[r.1,r.2.2.1],.int .i64 0]) (fun r=>[Mm 1 Hb qZ r.1 r.2.1,Mm 1 Hb qZ r.2.2.1 r.2.2.2]):=by
 refine Zd func176 ntmps176 fun w0 sc hw hsc=>?_
 refine Ze2 (Pr 1 J Zh) (fun sv hsv=>?_)
 subst hsv
 have hv:=hd.v
 refine Ze (Pe 999 2 93 wv)<|Ze (Xp 999 J J pV)<|go 2 ?_
 refine Ya (Zr 2) fun bx _=>go 5 ?_
 refine Ya (Zr 3) fun bx_2 _=>go 10 ?_
 refine Zc J (fun h129=>?_) (fun h129=>?_)
 ·refine go 9 ?_
  exact Yr (Pe 70 1 39 (Hb (α:=List Int)))<|Yr (Ys qZ 71)<|Yr (Xp 70 J J pS)<|Yr (Qj 70 71 72 J J J J)<|Mb hsc (.slice none 0 0,[],.slice none 0 0,[]) results176 J ⟨(Zjy O).symm,(Yd2 O).symm⟩ (Oq 72 (Oq 72 Za))
 ·have h0:xs≠[]:=fun e=>by rw [e]at h129;simp at h129
  obtain⟨q1,q2,q3,q4,q5⟩:=Zdr hd h0
  refine go 11 ?_
  refine Ze (Pe 70 1 39 (Hb (α:=List Int)))<|Ze (Ys qZ 71)<|Ze (Qp 1 80 J J J)<|lp (G:=List (SL×List Int)×SL×List Int×Value×Nat) [0,2,4] [0,1,999,2] (fun q=>[(5,Ph q.2.1)]) (fun q=>[(70,Nf 1 39 Hb q.2.2.2.1 q.1),(71,Cx qZ q.1),(80,Yj 2 wv (Ph q.2.1) q.2.2.1),(3,box bx_2 232 #[q.2.2.2.1,.slice none 0 0])]) (fun q=>(Vp q.2.2.1)∧(Sz q.2.2.2.2 q.2.2.1)∧(q.2.2.2.2+5*q.2.2.1.length≤230)∧(q.1.length+q.2.2.1.length≤9)∧(q.1.map Prod.snd ++ Pq q.2.2.1=Pq xs)) (fun q=>q.2.2.1.length) ([],sv,xs,_,185) ⟨hv,hd.s,by have:=hd.l;dsimp only;omega,by have:=hd.l;simp;omega,rfl⟩ K1 K4 ?_
  rintro⟨ws,sd,y,vo,k⟩ ⟨hy,hys,hk,hyl,hws⟩
  dsimp only at hy hys hk hyl hws
  dsimp only
  refine go 8 ?_
  refine Zc J (fun h132=>?_) (fun h132=>?_)
  ·refine go 4 ?_
   have hpl:=Oa y
   have hdz:∀i,bl (cf y (i+1)*((i:Int)+1)).natAbs≤65536:=fun i=>by have h:=Ep hys O i;rw [Bg]at h;omega
   refine go 4 ?_
   refine tt (Xy (i:=4) (ivs:=[(0,_)]) (enc:=Hb) [(sd,y)] J J K2 Zi3 ti39 J J J J J pS.cells J J hw.h) (fun v _=>?_)
   refine tt (Lu (i:=70) (j:=4) (by_:=24) J J J J J J O3 J (Xa pS) Zi3 ti39 J pS J J J O8 O3 J hw.h) fun v_2 _=>go 7 ?_
   refine cl 84 [80] (Fe _ _ hy hdz) fun _ _=>?_
   refine Zzg (Pr 84 J Zh) (fun sn hsn=>?_)
   subst hsn
   refine go 10 ?_
   refine kf O3<|go 5 ?_
   exact Yr (Zj (q:=qZ) (z:=(sd,y)) 71 80 71 J J J J J)<|Yr (Qp 84 80 J J J)<|Xd (ws ++ [(sd,y)],sn,Yh y,_,k+5) ⟨Zc4 hy (fun i _=>hdz i),Ep hys O,O9,by dsimp only;simp;omega,by dsimp only;rw [List.map_append,List.append_assoc,←hws,Zv4 (p:=y) O];rfl⟩ O9 K1 K4
  ·refine go 6 ?_
   have hy0:y.length=0:=O
   have hw2:ws.map Prod.snd=Pq xs:=by rw [←hws,Zjy hy0,List.append_nil]
   refine Ze (Xp 70 J J pS)<|Ze (Qj 70 71 72 J J J J)<|go 2 ?_
   refine cl 5 [1] (sg_odd _ _ hd h0) fun _ _=>go 11 ?_
   refine kf O3<|go 8 ?_
   refine cl 6 [5] (Zw0 _ _ q2 q1.one q5 13 q1.ok) fun g hg=>go 17 ?_
   exact Mb hsc (_,ws,_,g.2) results176 J ⟨hw2,(hg).trans (chx_ne O).symm⟩ (Oq 72 (Oq 6 Za))
theorem Znb(v:Value)(xs:List Int)(x y x2 y2:Int)(hp:0<y)(hp2:0<y2)(hv:Vp xs)(hf:Zaf xs 0)(he1:efit (x,y)=true)(he2:efit (x2,y2)=true)(hx:bl x.natAbs≤65536:=by omega)(hy:bl y.natAbs≤65536:=by omega)(hx2:bl x2.natAbs≤65536:=by omega)(hy2:bl y2.natAbs≤65536:=by omega):Og prog 175 #[v,rX x y,rX x2 y2,.slice none 0 0] [Yj 2 wv v xs] (.int .i64 (if 0<cmp (x,y) (x2,y2)then 3 else 0)):=by
 refine Zd func175 ntmps175 fun w0 sc hw hsc=>?_
 refine Ze (Pe 999 2 93 wv)<|Ze (Xp 999 J J pV)<|go 2 ?_
 refine Ya (Ye 2) fun bx _=>Ya (Ye 3) fun bx_2 _=>go 7 ?_
 refine cl 3 [1] (Xf _ _ ‹_›) fun _ _=>?_
 refine dt (dF (Xk J J) (vB O3))<|go 2 ?_
 refine Hc 3 [] (Nq _ _ hx hy hp) fun _ _=>?_
 refine Gh (dF (Xk J J) (vB O3)) J J<|go 3 ?_
 refine Hc 3 [] (Nq _ _ hx2 hy2 hp2) fun _ _=>?_
 refine Gh (dF (Xk J J) (vB O3)) J J<|go 4 ?_
 refine kfg O3<|go 9 ?_
 refine cl 3 [1] (Zxg _ _ hv) fun _ _=>?_
 refine dt (dF (Ztj J J) (vB (decide_eq_false (fun h=>h hf))))<|go 2 ?_
 refine Hc 3 [] (Zg0 _ _ hx hy) fun _ _=>?_
 refine Gh (dF (Xk J J) (vB (by rw [he1];rfl))) J J<|go 3 ?_
 refine Hc 3 [] (Zg0 _ _ hx2 hy2) fun _ _=>?_
 refine Gh (dF (Xk J J) (vB (by rw [he2];rfl))) J J<|go 13 ?_
 refine lp (G:=Unit) [5,6,43,44] [0,1,999,2,3] (fun _=>[(45,.int .i64 0),(9,.bool false)]) (fun _=>[]) (fun _=>True) (fun _=>0) () trivial K2 trivial ?_
 rintro _ -
 refine go 2 ?_
 refine kf O3<|go 14 ?_
 refine cl 3 [] (Zg1 _ _ _ _ hx hy hx2 hy2 hp hp2) fun _ _=>go 3 ?_
 refine Zc J (fun h45=>?_) (fun h45=>?_)
 ·refine go 7 ?_
  exact Xi hsc () results175 (by rw [if_pos ‹_›]) trivial Za
 ·refine go 17 ?_
  exact Xi hsc () results175 (by rw [if_neg ‹_›]) trivial Za
end Go.Sky

