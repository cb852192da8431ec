/- Rules, arithmetic and contracts: part 6. No conditions but those that each theorem names. -/
import Derived.Test.YtljmhpopdmadkaaGreatLv04
set_option linter.all false
namespace Go.Sky
theorem Zw2(t:Int):∀p:List Int,Ze p (t:Rat)=((Cx p t:Int):Rat)
 | []=>rfl
 | c :: p=>by
  have h:=Zw2 t p
  rw [show Ze (c :: p) (t:Rat)=(c:Rat)+(t:Rat)*Ze p (t:Rat)from rfl,show Cx (c :: p) t=c+t*Cx p t from rfl,h];push_cast;rfl
theorem Zvl{p:List Int}(h:∀x:Rat,Ze p x=0)(i:Nat):cf p i=0:=by
 by_cases h0:cf p i=0
 ·exact h0
 ·exfalso
  have:=Zi9 p.length p ((List.range p.length).map fun n:Nat=>(n:Int)) rfl ⟨i,h0⟩ (by
   refine List.Pairwise.map _ (fun a b hab=>?_) List.nodup_range
   intro e;exact hab (by exact_mod_cast e)) (fun t ht=>by
   have h1:=Zw2 t p
   rw [h]at h1
   exact_mod_cast h1.symm)
  simp at this
theorem Ny{p q:List Int}(h:∀x:Rat,Ze p x=Ze q x)(i:Nat):cf p i=cf q i:=by
 have h1:=Zvl (p:=Mp p (q.map fun a=>(-1)*a)) (fun x=>by rw [Xf,Zm,h x];push_cast;grind) i
 rw [Lv,Qd]at h1;omega
theorem Mf(p:List Int)(x:Rat):Ze (tzl p) x=Ze p x:=Nz x _ _ fun i=>Lb p i
theorem Zz(p q:List Int)(x:Rat):Ze (Xq p q) x=Ze p x*Ze q x:=by
 rw [←Zt];exact Nz x _ _ fun i=>by rw [Ku,Gw,PS.mul_c];rfl
theorem Pq(c:Int)(x:Rat):Ze [c] x=(c:Rat):=by show(c:Rat)+x*0=c;grind
def ld:List Int→List Int
 | []=>[]
 | _ :: p=>Mp p (0 :: ld p)
theorem Ze2(c:Int)(p:List Int)(x:Rat):Ze (ld (c :: p)) x=Ze p x+x*Ze (ld p) x:=by
 rw [show ld (c :: p)=Mp p (0 :: ld p)from rfl,Xf];show Ze p x+(((0:Int):Rat)+x*Ze (ld p) x)=_;push_cast;grind
theorem Zf0:∀(p:List Int) (i:Nat),cf (ld p) i=cf p (i+1)*((i:Int)+1)
 | [],i=>by rw [Za4,show ld []=[]from rfl,Za4,Int.zero_mul]
 | c :: p,0=>by
  rw [show ld (c :: p)=Mp p (0 :: ld p)from rfl,Lv];show cf p 0+0=cf p 0*_;simp
 | c :: p,i+1=>by
  have h:=Zf0 p i
  rw [show ld (c :: p)=Mp p (0 :: ld p)from rfl,Lv];show cf p (i+1)+cf (ld p) i=cf p (i+1)*_
  rw [h];push_cast;grind
theorem Lr(p:List Int)(x:Rat):Ze (Yi p) x=Ze (ld p) x:=Nz x _ _ fun i=>by rw [Av,Zf0]
theorem Eh{p q:List Int}(h:∀x,Ze p x=Ze q x)(x:Rat):Ze (ld p) x=Ze (ld q) x:=Nz x _ _ fun i=>by rw [Zf0,Zf0,Ny h]
theorem Yg7(p q:List Int)(x:Rat):Ze (ld (Mp p q)) x=Ze (ld p) x+Ze (ld q) x:=by
 rw [←Xf];exact Nz x _ _ fun i=>by rw [Zf0,Lv,Lv,Zf0,Zf0];grind
theorem Bb(c:Int)(p:List Int)(x:Rat):Ze (ld (p.map fun a=>c*a)) x=(c:Rat)*Ze (ld p) x:=by
 rw [←Zm];exact Nz x _ _ fun i=>by rw [Zf0,Qd,Qd,Zf0];grind
theorem Dl(x:Rat):∀p q:List Int,Ze (ld (Pb p q)) x=Ze (ld p) x*Ze q x+Ze p x*Ze (ld q) x
 | [],q=>by show(0:Rat)=0*Ze q x+0*Ze (ld q) x;grind
 | c :: p,q=>by
  have h:=Dl x p q
  rw [show Pb (c :: p) q=Mp (q.map fun a=>c*a) (0 :: Pb p q)from rfl,Yg7,Bb,Ze2,Ze2,h,Zt,show Ze (c :: p) x=(c:Rat)+x*Ze p x from rfl]
  grind
def Ed(g a:List Int):Prop:=∃(k:Int) (s:List Int),k≠0∧∀x:Rat,(k:Rat)*Ze a x=Ze s x*Ze g x
theorem Ed.refl(a:List Int):Ed a a:=⟨1,[1],O3,fun x=>by rw [Pq]⟩
theorem Ed.nil(g:List Int):Ed g []:=⟨1,[],O3,fun x=>by show(((1:Int)):Rat)*0=0*Ze g x;grind⟩
theorem Ed.trans{a b c:List Int} : Ed a b→Ed b c→Ed a c:=fun⟨k,s,hk,h⟩ ⟨m,u,hm,e⟩=>
 ⟨k*m,Pb u s,Int.mul_ne_zero hk hm,fun x=>by
  have h1:=h x
  have h2:=e x
  rw [Zt];push_cast
  have:(k:Rat)*m*Ze c x=k*(m*Ze c x):=O4
  rw [this,h2];grind⟩
theorem Ed.congr{g a b:List Int}(h:Ed g a)(e:∀x,Ze a x=Ze b x):Ed g b:=by
 obtain⟨k,s,hk,h⟩:=h
 exact⟨k,s,hk,fun x=>by rw [←e x];exact h x⟩
theorem Ed.congr_l{g g' a:List Int}(h:Ed g a)(e:∀x,Ze g x=Ze g' x):Ed g' a:=by
 obtain⟨k,s,hk,h⟩:=h
 exact⟨k,s,hk,fun x=>by rw [←e x];exact h x⟩
theorem Ed.sim{g a b:List Int}(h:Ed g a)(e:Sim a b):Ed g b:=by
 obtain⟨k,s,hk,h⟩:=h
 obtain⟨m,n,hm,hn,e⟩:=e
 refine⟨k*n,s.map fun c=>m*c,Int.mul_ne_zero hk hn,fun x=>?_⟩
 have h1:Ze (a.map fun c=>m*c) x=Ze (b.map fun c=>n*c) x:=Nz x _ _ fun i=>by rw [Qd,Qd,e]
 rw [Zm,Zm]at h1
 rw [Zm]
 have:=h x
 push_cast
 have e2:(k:Rat)*n*Ze b x=k*(n*Ze b x):=O4
 rw [e2,←h1];grind
theorem Ed.lin{g a b c:List Int}(ha:Ed g a)(hb:Ed g b)(s:List Int)(L:Int)(hL:L≠0)(h:∀x,(L:Rat)*Ze c x=Ze s x*Ze a x+Ze b x):Ed g c:=by
 obtain⟨k,u,hk,h1⟩:=ha
 obtain⟨m,v,hm,h2⟩:=hb
 refine⟨L*(k*m),Mp ((Pb s u).map fun c=>m*c) (v.map fun c=>k*c),Int.mul_ne_zero hL (Int.mul_ne_zero hk hm),fun x=>?_⟩
 have h1:=h1 x
 have h2:=h2 x
 have h:=h x
 rw [Xf,Zm,Zm,Zt]
 push_cast
 have e:(L:Rat)*(k*m)*Ze c x=k*m*(L*Ze c x):=O4
 rw [e,h]
 have e2:(k:Rat)*m*(Ze s x*Ze a x+Ze b x)=m*Ze s x*(k*Ze a x)+k*(m*Ze b x):=O4
 rw [e2,h1,h2];grind
theorem Zt7{g a s:List Int}{k:Int}(hk:k≠0)(hg:Tr g)(ha:Tr a)(h0:a≠[])(h:∀x:Rat,(k:Rat)*Ze a x=Ze s x*Ze g x):g≠[]∧tzl s≠[]∧(tzl s).length+g.length≤a.length+1:=by
 have hc:∀i,k*cf a i=(ps (tzl s)*ps g).c i:=fun i=>by
  have h1:=Ny (p:=a.map fun c=>k*c) (q:=Pb (tzl s) g) (fun x=>by rw [Zm,Zt,Mf];exact h x) i
  rw [Qd,Gw]at h1
  rw [h1,PS.mul_c];rfl
 have hz:∀i,k*cf a i=0→cf a i=0:=fun i hi=>(Int.mul_eq_zero.1 hi).resolve_left hk
 have hla:=ha.mem h0
 have h1:tzl s≠[]:=fun e=>hla (hz _ (by rw [hc,e,Mu (fun t=>Yb (Nat.zero_le _))]))
 have h2:g≠[]:=fun e=>hla (hz _ (by rw [hc,e,PS.mul_comm',Mu (fun t=>Yb (Nat.zero_le _))]))
 refine⟨h2,h1,?_⟩
 have l1:=List.length_pos_iff.2 h1
 have l2:=List.length_pos_iff.2 h2
 have ht:=Cr (p:=tzl s) (q:=g) (a:=(tzl s).length-1) (b:=g.length-1) (fun i hi=>Yb O) (fun i hi=>Yb O)
 rw [←hc]at ht
 have hne:=Int.mul_ne_zero ((Pk s).mem h1) (hg.mem h2)
 rcases Nat.lt_or_ge ((tzl s).length-1+(g.length-1)) a.length with h9 | h9
 ·omega
 ·rw [Yb h9,Int.mul_zero]at ht;exact absurd ht.symm hne
theorem Ed.len{g a:List Int}(h:Ed g a)(hg:Tr g)(ha:Tr a)(h0:a≠[]):g≠[]∧g.length≤a.length:=by
 obtain⟨k,s,hk,h⟩:=h
 obtain⟨a1,a2,a3⟩:=Zt7 hk hg ha h0 h
 have:=List.length_pos_iff.2 a2
 exact⟨a1,O⟩
theorem Ed.same{g a:List Int}(h:Ed g a)(hg:Tr g)(ha:Tr a)(h0:a≠[])(hl:g.length=a.length):Ed a g:=by
 obtain⟨k,s,hk,h⟩:=h
 obtain⟨a1,a2,a3⟩:=Zt7 hk hg ha h0 h
 have hl1:=List.length_pos_iff.2 a2
 match hs:tzl s,hl1,a3 with
 | [c],_,_=>
  have hc:c≠0:=by have:=(Pk s).mem a2;rw [hs]at this;exact this
  refine⟨c,[k],hc,fun x=>?_⟩
  have h1:=h x
  rw [←Mf s,hs,Pq]at h1
  rw [Pq];exact h1.symm
 | c :: d :: r,_,h9=>simp at h9;omega
theorem Zkv:∀(n:Nat) (a b:List Int),Tr a→Tr b→b.length≤n→∃g A B:List Int,Tr g∧Ed g a∧Ed g b∧∀x,Ze g x=Ze A x*Ze a x+Ze B x*Ze b x
 | n,a,[],ha,hb,_=>⟨a,[1],[],ha,Ed.refl a,Ed.nil a,fun x=>by rw [Pq];show _=_+0*(0:Rat);push_cast;grind⟩
 | 0,a,c :: r,_,_,hl=>absurd hl O5
 | n+1,a,c :: b',ha,hb,hl=>by
  have h0:(c :: b')≠[]:=O5
  generalize c :: b'=b at *
  obtain⟨k,s,hs⟩:=Ei a h0
  have hL:=Nh (hb.mem h0) k
  generalize cf b (b.length-1)^k=L at hs hL
  have hlt:=Qr a h0
  obtain⟨g,A,B,g1,g2,g3,g4⟩:=Zkv n b (Xm a b) hb (Lf ha) O
  have he:∀x,(L:Rat)*Ze a x=Ze s x*Ze b x+Ze (Xm a b) x:=fun x=>by
   have:=Ft (a:=L) (c:=-1) (x:=a) (s:=s) (y:=b) (z:=Xm a b) (fun t=>by rw [hs t];omega) x
   push_cast at this;grind
  refine⟨g,B.map fun c=>L*c,Mp A ((Pb B s).map fun c=>(-1)*c),g1,g2.lin g3 s L hL he,g2,fun x=>?_⟩
  rw [Zm,Xf,Zm,Zt,g4 x]
  have:=he x
  have e:Ze (Xm a b) x=L*Ze a x-Ze s x*Ze b x:=O4
  rw [e];push_cast;grind
def Irr(q:List Int):Prop:=Tr q∧2≤q.length∧∀d,Tr d→Ed d q→d.length≤1∨d.length=q.length
theorem Zc0{q:List Int}(h:2≤q.length):q≠[]:=fun e=>by rw [e]at h;simp at h
theorem Yed:∀(n:Nat) (q:List Int),q.length≤n→Tr q→2≤q.length→∃p,Irr p∧Ed p q
 | 0,q,hl,_,h2=>O
 | n+1,q,hl,ht,h2=>by
  by_cases h:Irr q
  ·exact⟨q,h,Ed.refl q⟩
  ·have:∃d,Tr d∧Ed d q∧¬(d.length≤1∨d.length=q.length):=by
    refine Classical.byContradiction fun h9=>h ⟨ht,h2,fun d hd he=>Classical.byContradiction fun h8=>h9 ⟨d,hd,he,h8⟩⟩
   obtain⟨d,hd,he,hn⟩:=this
   have hle:=(he.len hd ht (Zc0 h2)).2
   obtain⟨p,hp,hp2⟩:=Yed n d O hd O
   exact⟨p,hp,hp2.trans he⟩
theorem An{q f h m:List Int}{k:Int}(hq:Irr q)(hk:k≠0)(e:∀x:Rat,(k:Rat)*(Ze f x*Ze h x)=Ze m x*Ze q x):Ed q f∨Ed q h:=by
 obtain⟨hq1,hq2,hq3⟩:=hq
 obtain⟨g,A,B,g1,g2,g3,g4⟩:=Zkv _ q (tzl f) hq1 (Pk f) (Nat.le_refl _)
 have hg:=(g2.len g1 hq1 (Zc0 hq2)).1
 rcases hq3 g g1 g2 with h1 | h1
 ·right
  match g,hg,h1,g1,g4 with
  | [c],_,_,g1,g4=>
   have hc:c≠0:=g1.mem O5
   refine⟨c*k,Mp ((Pb A h).map fun c=>k*c) (Pb B m),Int.mul_ne_zero hc hk,fun x=>?_⟩
   have h4:=g4 x
   have h5:=e x
   rw [Pq,Mf]at h4
   rw [Xf,Zm,Zt,Zt]
   push_cast
   rw [h4]
   have:(Ze A x*Ze q x+Ze B x*Ze f x)*k*Ze h x=k*Ze A x*Ze q x*Ze h x+Ze B x*(k*(Ze f x*Ze h x)):=O4
   rw [this,h5];grind
  | c :: d :: r,_,h9,_,_=>simp at h9
 ·left
  have h2:=g2.same g1 hq1 (Zc0 hq2) h1
  exact(h2.trans g3).congr fun x=>Mf f x
def Ht(q:List Int):Nat→List Int
 | 0=>[1]
 | n+1=>Xq q (Ht q n)
theorem Ag{q:List Int}(hq:Tr q)(h2:2≤q.length):∀n,Tr (Ht q n)∧n+1≤(Ht q n).length
 | 0=>⟨.inr (show cf [1] 0≠0 by decide),Nat.le_refl _⟩
 | n+1=>by
  obtain⟨h1,h3⟩:=Ag hq h2 n
  refine⟨Qc _ _,?_⟩
  show n+1+1≤(Xq q (Ht q n)).length
  rw [Po hq h1 (Zc0 h2) (fun e=>by rw [e]at h3;simp at h3)]
  omega
theorem Gm(q:List Int)(n:Nat)(x:Rat):Ze (Ht q (n+1)) x=Ze q x*Ze (Ht q n) x:=Zz _ _ _
theorem Znh(q:List Int):∀(n:Nat) (x:Rat),Ze (ld (Ht q (n+1))) x=((n:Rat)+1)*(Ze (Ht q n) x*Ze (ld q) x)
 | n,x=>by
  have h1:Ze (ld (Ht q (n+1))) x=Ze (ld (Pb q (Ht q n))) x:=Eh (fun y=>by rw [Gm,Zt]) x
  rw [h1,Dl]
  match n with
  | 0=>
   rw [show Ze (ld (Ht q 0)) x=0 from by rw [show Ht q 0=[1]from rfl,Ze2];show(0:Rat)+x*0=0;grind]
   simp;grind
  | n+1=>
   rw [Znh q n x,Gm];push_cast;grind
theorem Ybc{p s g q u:List Int}{c:Int}{k:Nat}(hps:∀x:Rat,Ze p x=Ze s x*Ze g x)(hgr:∀d,Tr d→Ed d p→Ed d (ld p)→Ed d g)(hq:Irr q)(h1:Ed q s)(h2:Ed q (ld s))(hk:Ed (Ht q k) g):Ed (Ht q (k+1)) g:=by
 obtain⟨hq1,hq2,hq3⟩:=hq
 obtain⟨c1,s1,k1,e1⟩:=h1
 obtain⟨c2,s2,k2,e2⟩:=h2
 have d1:∀x:Rat,(c1:Rat)*Ze (ld s) x=Ze (ld s1) x*Ze q x+Ze s1 x*Ze (ld q) x:=fun x=>by
  have:=Eh (p:=s.map fun a=>c1*a) (q:=Pb s1 q) (fun y=>by rw [Zm,Zt];exact e1 y) x
  rwa [Bb,Dl]at this
 have h3:Ed q s1:=by
  rcases An (f:=s1) (h:=ld q) (m:=Mp (s2.map fun a=>c1*a) ((ld s1).map fun a=>(-c2)*a)) ⟨hq1,hq2,hq3⟩ k2 (fun x=>by
   have a1:=d1 x
   have a2:=e2 x
   rw [Xf,Zm,Zm];push_cast
   have:(c2:Rat)*(Ze s1 x*Ze (ld q) x)=c1*(c2*Ze (ld s) x)-c2*(Ze (ld s1) x*Ze q x):=O4
   rw [this,a2];grind)with h9 | h9
  ·exact h9
  ·exfalso
   have h8:Ed q (Yi q):=h9.congr fun x=>(Lr q x).symm
   have hl:=Pn q
   have:=(h8.len hq1 (Oh hq1) (fun e=>by rw [e]at hl;simp at hl;omega)).2
   omega
 obtain⟨c3,s3,k3,e3⟩:=h3
 obtain⟨c,u,kc,eu⟩:=hk
 have hP:∀x:Rat,((c1*c3*c:Int):Rat)*Ze p x=Ze (Pb s3 u) x*Ze (Ht q (k+1+1)) x:=fun x=>by
  rw [hps x,Zt,Gm,Gm];push_cast
  have a1:=e1 x
  have a3:=e3 x
  have a4:=eu x
  have:(c1:Rat)*c3*c*(Ze s x*Ze g x)=c3*(c1*Ze s x)*(c*Ze g x):=O4
  rw [this,a1,a4]
  have:(c3:Rat)*(Ze s1 x*Ze q x)*(Ze u x*Ze (Ht q k) x)=(c3*Ze s1 x)*Ze q x*(Ze u x*Ze (Ht q k) x):=O4
  rw [this,a3];grind
 have hC:c1*c3*c≠0:=Int.mul_ne_zero (Int.mul_ne_zero k1 k3) kc
 generalize c1*c3*c=C at hP hC
 have hD:∀x:Rat,(C:Rat)*Ze (ld p) x=Ze (ld (Pb s3 u)) x*Ze (Ht q (k+1+1)) x+Ze (Pb s3 u) x*((((k+1:Nat):Rat)+1)*(Ze (Ht q (k+1)) x*Ze (ld q) x)):=fun x=>by
  have:=Eh (p:=p.map fun a=>C*a) (q:=Pb (Pb s3 u) (Ht q (k+1+1))) (fun y=>by rw [Zm,Zt];exact hP y) x
  rwa [Bb,Dl,Znh]at this
 refine hgr _ (Ag hq1 hq2 _).1 ⟨C,Pb (Pb s3 u) q,hC,fun x=>?_⟩ ⟨C,Mp (Pb (ld (Pb s3 u)) q) ((Pb (Pb s3 u) (ld q)).map fun a=>((k+2:Nat):Int)*a),hC,fun x=>?_⟩
 ·rw [hP x,Zt _ (Pb s3 u),Gm q (k+1)];grind
 ·rw [hD x,Xf,Zm,Zt _ (ld (Pb s3 u)),Zt _ (Pb s3 u),Gm q (k+1)];push_cast;grind
theorem Ybe{p s g q:List Int}(hps:∀x:Rat,Ze p x=Ze s x*Ze g x)(hg:Tr g)(g0:g≠[])(hgr:∀d,Tr d→Ed d p→Ed d (ld p)→Ed d g)(hq:Tr q)(h1:Ed q s)(h2:Ed q (ld s)):q.length≤1:=by
 refine Classical.byContradiction fun h=>?_
 obtain⟨r,hr,hr2⟩:=Yed _ q (Nat.le_refl _) hq O
 have key:∀k,Ed (Ht r k) g:=fun k=>by
  induction k with
  | zero=>exact⟨1,g,O3,fun x=>by rw [show Ht r 0=[1]from rfl,Pq];push_cast;grind⟩
  | succ k ih=>exact Ybc (u:=[]) (c:=0) hps hgr hr (hr2.trans h1) (hr2.trans h2) ih
 obtain⟨a1,a2⟩:=Ag hr.1 hr.2.1 g.length
 have:=((key g.length).len a1 hg g0).2
 omega
theorem Yif{d a b:List Int}(hb:Tr b)(h0:b≠[])(h1:Ed d a)(h2:Ed d b):Ed d (Xm a b):=by
  obtain⟨k,s,hs⟩:=Ei a h0
  have hL:=Nh (hb.mem h0) k
  generalize cf b (b.length-1)^k=L at hs hL
  have he:∀x,(L:Rat)*Ze a x=Ze s x*Ze b x+Ze (Xm a b) x:=fun x=>by
    have:=Ft (a:=L) (c:=-1) (x:=a) (s:=s) (y:=b) (z:=Xm a b) (fun t=>by rw [hs t];omega) x
    push_cast at this;grind
  have h3:Ed d (a.map fun c=>L*c):=by
    obtain⟨k,u,hk,e⟩:=h1
    exact⟨k,u.map fun c=>L*c,hk,fun x=>by rw [Zm,Zm];have:=e x;grind⟩
  exact h2.lin h3 (s.map fun c=>(-1)*c) 1 O3 fun x=>by
    rw [Zm,Zm];push_cast;have:=he x;grind
theorem Zrm{d:List Int} : ∀(f:Nat) {a b:List Int},Tr a→Tr b→Ed d a→Ed d b→Ed d (eu f a b)
  | 0,a,b,_,_,h1,_=>h1
  | f+1,a,b,ha,hb,h1,h2=>by
    by_cases h0:b=[]
    · rw [h0,Fm];exact h1
    · rw [show eu (f + 1) a b = eu f b (Zr (Xm a b)) by
          conv=>lhs;unfold eu
          rw [if_neg h0]]
      have t1:=Lf (q:=b) ha
      exact Zrm f hb (Yf t1) h2 ((Yif hb h0 h1 h2).sim (Xt t1).symm)
theorem Zjm{F:Nat}{d p q:List Int}(hp:Tr p)(hq:Tr q)(h1:Ed d p)(h2:Ed d q):Ed d (Ou F p q):=by
  have a1:=h1.sim (Xt hp).symm
  have a2:=h2.sim (Xt hq).symm
  unfold Ou
  refine Ed.sim ?_ (Kp _).symm
  refine Zrm F (Zg3 hp hq) (Zg2 hp hq) ?_ ?_
  · unfold gA;split<;>assumption
  · unfold gB;split<;>assumption
theorem Zet{xs:List Int}{F:Nat}(hx:Tr xs)(h0:xs≠[])(hok:eok F (gA (Yn xs) (Yi (Yn xs))) (gB (Yn xs) (Yi (Yn xs)))){q:List Int}(hq:Tr q)(h1:Ed q (sqf F xs))(h2:Ed q (Yi (sqf F xs))):q.length≤1:=by
  obtain⟨f1,f2,f3,f4,f5,f6⟩:=Og (F:=F) hx h0 hok
  have hs:Tr (Yn xs):=On (Yf hx)
  have hd:Tr (Yi (Yn xs)):=Oh hs
  refine Ybe (p:=Yn xs) (s:=sqf F xs) (g:=Ou F (Yn xs) (Yi (Yn xs))) (fun x=>?_) (Zch hs hd) f5 (fun d _ a b=>?_) hq h1 (h2.congr fun x=>Lr _ x)
  · have:Ze (Yn xs) x=Ze (Xq (sqf F xs) (Ou F (Yn xs) (Yi (Yn xs)))) x:=by rw [←f4]
    rw [this,Zz]
  · exact Zjm hs hd a (b.congr fun x=>(Lr _ x).symm)
theorem Aq:∀(l:List Int) (n z:Int),(l.foldl Ow (n,z)).1=n+(l.foldl Ow (0,z)).1
 | [],n,z=>O5
 | x :: l,n,z=>by
  simp only [List.foldl_cons]
  by_cases h:x=0
  ·have e:∀n,Ow (n,z) x=(n,z):=fun n=>by unfold Ow;rw [if_pos h]
   rw [e,e];exact Aq l n z
  ·by_cases h2:x=-z
   ·have e:∀n,Ow (n,z) x=(n+1,x):=fun n=>by unfold Ow;rw [if_neg h,if_pos (by dsimp only;exact h2)]
    rw [e,e,Aq l (n+1) x,Aq l (0+1) x];omega
   ·have e:∀n,Ow (n,z) x=(n,x):=fun n=>by unfold Ow;rw [if_neg h,if_neg (by dsimp only;exact h2)]
    rw [e,e];exact Aq l n x
theorem Yi8{x y:Int}(l:List Int)(hy:y≠0):chg (x :: y :: l)=chg (y :: l)+(if x=-y then 1 else 0):=by
 unfold chg
 simp only [List.foldl_cons]
 have h1:Ow (0,0) y=(0,y):=by unfold Ow;rw [if_neg hy,if_neg O6]
 rw [h1]
 by_cases hx:x=0
 ·have h2:Ow (0,0) x=(0,0):=by unfold Ow;rw [if_pos hx]
  rw [h2,h1,if_neg O];omega
 ·have h2:Ow (0,0) x=(0,x):=by unfold Ow;rw [if_neg hx,if_neg O6]
  rw [h2]
  have h3:Ow (0,x) y=(if x=-y then 1 else 0,y):=by
   unfold Ow;rw [if_neg hy]
   by_cases h:x=-y
   ·rw [if_pos O6,if_pos h];rfl
   ·rw [if_neg O6,if_neg h]
  rw [h3,Aq];omega
def crs(f:Rat→Rat)(u v:Rat):Int:=if f u≠0∧f u*f v≤0 then 1 else 0
theorem Zh9(s t:Rat):∀p:List Int,∃M:Rat,0<M∧∀x y,s≤x→x≤y→y≤t→
  -(M*(y-x)*(y-x))≤Ze p y-Ze p x-(y-x)*Ze (ld p) x∧Ze p y-Ze p x-(y-x)*Ze (ld p) x≤M*(y-x)*(y-x)
 | []=>⟨1,O3,fun x y h1 h2 h3=>by
   have:=Rat.mul_nonneg (a:=y-x) (b:=y-x) O4 O4
   show -(1*(y-x)*(y-x))≤(0:Rat)-0-(y-x)*0∧(0:Rat)-0-(y-x)*0≤1*(y-x)*(y-x)
   constructor<;>grind⟩
 | c :: p=>by
  obtain⟨M,m1,m2⟩:=Zh9 s t p
  obtain⟨L,l1,l2⟩:=Di s t p
  obtain⟨K,k1,k2⟩:=Yid s t
  refine⟨L+K*M,by have:=Rat.mul_pos k1 m1;grind,fun x y hs hxy ht=>?_⟩
  obtain⟨a1,a2⟩:=m2 x y hs hxy ht
  obtain⟨b1,b2⟩:=l2 x y hs hxy ht
  obtain⟨e1,e2⟩:=k2 x hs O4
  have hd:0≤y-x:=O4
  obtain⟨f1,f2⟩:=Za8 (q:=x) (Q:=K) (g:=Ze p y-Ze p x-(y-x)*Ze (ld p) x) (e:=M*(y-x)*(y-x)) e1 e2 a1 a2 O4
  have g1:=Rat.mul_nonneg (a:=y-x) (b:=L*(y-x)-(Ze p y-Ze p x)) hd O4
  have g2:=Rat.mul_nonneg (a:=y-x) (b:=L*(y-x)+(Ze p y-Ze p x)) hd O4
  rw [Ze2,show Ze (c :: p) y=(c:Rat)+y*Ze p y from rfl,show Ze (c :: p) x=(c:Rat)+x*Ze p x from rfl]
  constructor<;>grind
theorem Zxn{a b:List Int}(ha:Tr a)(hb:Tr b)(h0:a≠[])(hc:∀q,Tr q→Ed q a→Ed q b→q.length≤1)(s t:Rat):∃ε:Rat,0<ε∧∀x,s≤x→x≤t→Big ε x (Ze a)∨Big ε x (Ze b):=by
 obtain⟨g,A,B,g1,g2,g3,g4⟩:=Zkv _ a b ha hb (Nat.le_refl _)
 have hl:=hc g g1 g2 g3
 have hg:=(g2.len g1 ha h0).1
 match g,hg,hl,g1,g4 with
 | [c],_,_,g1,g4=>
  have hc0:c≠0:=g1.mem O5
  obtain⟨P,p1,p2⟩:=Zqh s t A
  obtain⟨Q,q1,q2⟩:=Zqh s t B
  obtain⟨ε,e1,e2,e3⟩:=Ij (show(0:Rat)<1 by decide) (show 0<(P+Q)+(P+Q) by grind) (show(0:Rat)<1 by decide)
  refine⟨ε,e1,fun x hs ht=>?_⟩
  by_cases h1:Big ε x (Ze a)
  ·exact .inl h1
  ·by_cases h2:Big ε x (Ze b)
   ·exact .inr h2
   ·exfalso
    obtain⟨a1,a2⟩:=Zcz h1
    obtain⟨b1,b2⟩:=Zcz h2
    obtain⟨c1,c2⟩:=p2 x hs ht
    obtain⟨d1,d2⟩:=q2 x hs ht
    obtain⟨u1,u2⟩:=Za8 c1 c2 a1 a2 O4
    obtain⟨v1,v2⟩:=Za8 d1 d2 b1 b2 O4
    have h4:=g4 x
    rw [Pq]at h4
    have h5:(c:Rat)≤-1∨1≤(c:Rat):=by
     rcases Int.lt_or_gt_of_ne hc0 with h | h
     ·left;have:((c:Int):Rat)≤((-1:Int):Rat):=by exact_mod_cast (show c≤-1 by omega)
      rwa [show(((-1:Int)):Rat)=-1 from rfl]at this
     ·right;have:1≤c:=O
      exact_mod_cast this
    rcases h5 with h5 | h5<;>grind
 | c :: d :: r,_,h9,_,_=>simp at h9
theorem Big.near{ε x y:Rat}{f:Rat→Rat}(h:Big ε x f)(h1:f x-f y≤ε/2)(h2:f y-f x≤ε/2):Big (ε/2) y f:=by
 unfold Big at *;grind
theorem Zhb(x:Rat):Gl x=-1↔x<0:=by
 unfold Gl
 by_cases h:x<0
 ·rw [if_pos h];simp [h]
 ·rw [if_neg h]
  by_cases h2:x=0
  ·rw [if_pos h2];simp [h]
  ·rw [if_neg h2];simp [h]
theorem Ybx(x:Rat):Gl (-x)=- Gl x:=by
 unfold Gl
 by_cases h:x<0
 ·rw [if_pos h,if_neg O4,if_neg O4];rfl
 ·rw [if_neg h]
  by_cases h2:x=0
  ·rw [if_pos h2,if_neg O4,if_pos O4];rfl
  ·rw [if_neg h2,if_pos O4]
theorem Zlh{f g:Rat→Rat}(r:List (Rat→Rat)){x:Rat}(h:Gl (g x)≠0):vat (f :: g :: r) x=vat (g :: r) x+(if Gl (f x)=- Gl (g x)then 1 else 0):=by
 unfold vat
 simp only [List.map_cons]
 exact Yi8 _ h
def Tay(s t M:Rat)(p:List Int):Prop:=∀x y,s≤x→x≤y→y≤t→-(M*(y-x)*(y-x))≤Ze p y-Ze p x-(y-x)*Ze (ld p) x∧Ze p y-Ze p x-(y-x)*Ze (ld p) x≤M*(y-x)*(y-x)
theorem Zg6 {s t:Rat} {f:Nat} {a b:List Int} (ha:Tr a) (hb:Tr b) (hok:cok f a b) {κ:Rat} (hκ:0<κ) (hder:∀x,Ze (ld a) x=κ*Ze b x)
  {ε L L' M h:Rat} (e1:0<ε) (e2:∀x,s≤x→x≤t→Big ε x (Ze a)∨Big ε x (Ze b)) (l1:0≤L) (l2:Lip s t L (Ze a)) (l1':0≤L') (l2':Lip s t L' (Ze b)) (m1:0≤M) (m2:Tay s t M a)
  (h5:0<h) (h3:h*(L+L')≤ε/2) (h7:h*M≤κ*ε/2) {u v:Rat} (hs:s≤u) (huv:u≤v) (ht:v≤t) (hh:v-u≤h) :
  vat ((Np f a b).map Ze) u-vat ((Np f a b).map Ze) v=crs (Ze a) u v:=by
 have hL:∀w,u≤w→w≤v→L*(w-u)≤ε/2∧L'*(w-u)≤ε/2:=fun w q1 q2=>by
  have p1:=Rat.mul_nonneg (a:=L) (b:=h-(w-u)) O4 O4
  have p2:=Rat.mul_nonneg (a:=L') (b:=h-(w-u)) O4 O4
  have p3:=Rat.mul_nonneg (a:=L) (b:=h) O4 O4
  have p4:=Rat.mul_nonneg (a:=L') (b:=h) O4 O4
  constructor<;>grind
 by_cases hba:Big ε u (Ze a)
 ·have hB:∀w,u≤w→w≤v→Big (ε/2) w (Ze a):=fun w q1 q2=>by
   obtain⟨x1,x2⟩:=l2 u w hs q1 O4
   have:=hL w q1 q2
   exact hba.near O4 O4
  rw [Zey ha hb hok huv (show 0<ε/2 by grind) hB]
  have hv:=hB v huv O4
  have:crs (Ze a) u v=0:=by
   unfold crs
   refine if_neg fun⟨_,h9⟩=>?_
   obtain⟨x1,x2⟩:=l2 u v hs huv ht
   have hLv:=hL v huv O4
   unfold Big at hba hv
   rcases hba with hp | hp
   ·have:0<Ze a v:=O4
    have:=Rat.mul_pos (show 0<Ze a u by grind) this
    grind
   ·have:0 < - Ze a v:=O4
    have:=Rat.mul_pos (show 0 < - Ze a u by grind) this
    grind
  omega
 ·have hbb:Big ε u (Ze b):=(e2 u hs O4).resolve_left hba
  have hB:∀w,u≤w→w≤v→Big (ε/2) w (Ze b):=fun w q1 q2=>by
   obtain⟨x1,x2⟩:=l2' u w hs q1 O4
   have:=hL w q1 q2
   exact hbb.near O4 O4
  have hb0:b≠[]:=fun e=>by
   rw [e]at hbb;unfold Big at hbb
   have:Ze [] u=0:=rfl
   rw [this]at hbb;grind
  obtain⟨g,hg,hd,hle,hcg,hsc⟩:=Zfx hok hb0
  have hT:=Zey hb (Zbg ha) hcg huv (show 0<ε/2 by grind) hB
  obtain⟨r,hr,_,_,_⟩:=Zl0 (s:=u) (t:=v) g b (Nl a b) hb (Zbg ha) hcg
  rw [hsc,hr]
  rw [hr]at hT
  simp only [List.map_cons]at hT ⊢
  have hsg:∃σ:Rat,(σ=1∨σ=-1)∧ε<σ*Ze b u∧∀w,u≤w→w≤v→0<σ*Ze b w:=by
   unfold Big at hbb
   rcases hbb with hp | hp
   ·refine⟨1,.inl rfl,O4,fun w q1 q2=>?_⟩
    obtain⟨x1,x2⟩:=l2' u w hs q1 O4
    have:=hL w q1 q2
    grind
   ·refine⟨-1,.inr rfl,O4,fun w q1 q2=>?_⟩
    obtain⟨x1,x2⟩:=l2' u w hs q1 O4
    have:=hL w q1 q2
    grind
  obtain⟨σ,hσ,hbu,hbw⟩:=hsg
  have hmono:u<v→σ*Ze a u<σ*Ze a v:=fun hlt=>by
   obtain⟨y1,y2⟩:=m2 u v hs huv ht
   rw [hder u]at y1 y2
   have hd:0<v-u:=O4
   have z1:M*(v-u)≤κ*ε/2:=by
    have:=Rat.mul_nonneg (a:=M) (b:=h-(v-u)) O4 O4
    grind
   have z2:0<κ*(σ*Ze b u)-M*(v-u):=by
    have:=Rat.mul_pos hκ (show 0<σ*Ze b u-ε by grind)
    have:=Rat.mul_pos hκ e1
    grind
   have z3:=Rat.mul_pos hd z2
   rcases hσ with rfl | rfl<;>grind
  have hne:∀w,u≤w→w≤v→Gl (Ze b w)≠0:=fun w q1 q2=>by
   have:=hbw w q1 q2
   rcases hσ with rfl | rfl
   ·rw [Cy O4];decide
   ·rw [Cz O4];decide
  rw [Zlh _ (hne u O4 huv),Zlh _ (hne v huv O4),hT]
  have hite:∀w,u≤w→w≤v→(Gl (Ze a w)=- Gl (Ze b w)↔σ*Ze a w<0):=fun w q1 q2=>by
   have:=hbw w q1 q2
   rcases hσ with rfl | rfl
   ·rw [Cy (x:=Ze b w) O4,Zhb]
    constructor<;>intro<;>grind
   ·rw [Cz (x:=Ze b w) O4,show(-(-1:Int))=- -1 from rfl]
    have h9:=Zhb (-(Ze a w))
    rw [Ybx]at h9
    constructor
    ·intro h8
     have:=h9.1 O
     grind
    ·intro h8
     have:=h9.2 O4
     omega
  rw [show(if Gl (Ze a u)=- Gl (Ze b u)then(1:Int)else 0)=if σ*Ze a u<0 then 1 else 0 from by simp only [hite u O4 huv]]
  rw [show(if Gl (Ze a v)=- Gl (Ze b v)then(1:Int)else 0)=if σ*Ze a v<0 then 1 else 0 from by simp only [hite v huv O4]]
  have hcrs:crs (Ze a) u v=if σ*Ze a u<0∧¬σ*Ze a v<0 then 1 else 0:=by
   unfold crs
   have hpp:Ze a u*Ze a v=(σ*Ze a u)*(σ*Ze a v):=by rcases hσ with rfl | rfl<;>grind
   have hz:Ze a u≠0↔σ*Ze a u≠0:=by rcases hσ with rfl | rfl<;>constructor<;>intro h9 h8<;>exact h9 O4
   have hiff:(Ze a u≠0∧Ze a u*Ze a v≤0)↔(σ*Ze a u<0∧¬σ*Ze a v<0):=by
    rw [hpp,hz]
    generalize hp:σ*Ze a u=p at *
    generalize hq:σ*Ze a v=q at *
    constructor
    ·intro ⟨n1,n2⟩
     rcases(show u<v∨u=v by grind)with hlt | heq
     ·have:=hmono hlt
      rcases(show p<0∨0<p by grind)with n3 | n3
      ·refine⟨n3,fun n4=>?_⟩
       have:=Rat.mul_pos (show 0 < -p by grind) (show 0 < -q by grind)
       grind
      ·have:=Rat.mul_pos n3 (show 0<q by grind)
       grind
     ·exfalso
      have:q=p:=by rw [←hp,←hq,heq]
      rw [this]at n2
      rcases(show p<0∨0<p by grind)with n3 | n3
      ·have:=Rat.mul_pos (show 0 < -p by grind) (show 0 < -p by grind)
       grind
      ·have:=Rat.mul_pos n3 n3
       grind
    ·intro ⟨n1,n2⟩
     refine⟨O4,?_⟩
     have:=Rat.mul_nonneg (show 0≤-p by grind) (show 0≤q by grind)
     grind
   simp only [hiff]
  rw [hcrs]
  by_cases k1:σ*Ze a u<0<;>by_cases k2:σ*Ze a v<0
  ·simp [k1,k2]
  ·simp [k1,k2]
   omega
  ·exfalso
   rcases(show u<v∨u=v by grind)with hlt | heq
   ·have:=hmono hlt;grind
   ·rw [heq]at k1;exact k1 k2
  ·simp [k1,k2]
theorem Zi0{s t:Rat}{f:Nat}{a b:List Int}(ha:Tr a)(hb:Tr b)(h0:a≠[])(hok:cok f a b){κ:Rat}(hκ:0<κ)(hder:∀x,Ze (ld a) x=κ*Ze b x)(hc:∀q,Tr q→Ed q a→Ed q b→q.length≤1) :
  ∃h:Rat,0<h∧∀u v,s≤u→u≤v→v≤t→v-u≤h→vat ((Np f a b).map Ze) u-vat ((Np f a b).map Ze) v=crs (Ze a) u v:=by
 obtain⟨ε,e1,e2⟩:=Zxn ha hb h0 hc s t
 obtain⟨L,l1,l2⟩:=Di s t a
 obtain⟨L',l1',l2'⟩:=Di s t b
 obtain⟨M,m1,m2⟩:=Zh9 s t a
 obtain⟨h1,h2,h3,h4⟩:=Ij (show(0:Rat)<1 by decide) (show 0<L+L' by grind) (show 0<ε/2 by grind)
 obtain⟨h,h5,h6,h7⟩:=Ij h2 m1 (show 0<κ*ε/2 by have:=Rat.mul_pos hκ e1;grind)
 refine⟨h,h5,fun u v hs huv ht hh=>Zg6 ha hb hok hκ hder e1 e2 O4 l2 O4 l2' O4 m2 h5 ?_ h7 hs huv ht hh⟩
 have:=Rat.mul_nonneg (a:=L+L') (b:=h1-h) O4 O4
 grind
theorem Yef:∀(n m:Nat) (f:Nat→Nat),(∀k,k<n→f k<m)→(∀a b,a<n→b<n→f a=f b→a=b)→n≤m
 | 0,_,_,_,_=>Nat.zero_le _
 | n+1,m,f,hf,hi=>by
  have h0:=hf n O
  have:=Yef n (m-1) (fun k=>if f n<f k then f k-1 else f k) (fun k hk=>by
   have h1:=hf k O
   have h2:f k≠f n:=fun e=>by have:=hi k n O O e;omega
   split<;>omega) (fun a b ha hb e=>by
   have h2:f a≠f n:=fun e=>by have:=hi a n O O e;omega
   have h3:f b≠f n:=fun e=>by have:=hi b n O O e;omega
   refine hi a b O O ?_
   split at e<;>split at e<;>omega)
  omega
theorem php{n m:Nat}{f:Nat→Nat}(h:m<n)(hf:∀k,k<n→f k<m):∃a b,a<n∧b<n∧a≠b∧f a=f b:=by
 refine Classical.byContradiction fun h9=>?_
 have:=Yef n m f hf fun a b ha hb e=>Classical.byContradiction fun h8=>h9 ⟨a,b,ha,hb,h8,e⟩
 omega
def enc(B:Nat)(d:Nat→Nat):Nat→Nat
 | 0=>0
 | n+1=>enc B d n+d n*B^n
theorem Zop{B:Nat}{d:Nat→Nat} : ∀n,(∀i,i<n→d i<B)→enc B d n<B^n
 | 0,_=>by simp [enc]
 | n+1,h=>by
  have h1:=Zop n fun i hi=>h i O
  have h2:=h n O
  have h3:(d n+1)*B^n≤B*B^n:=Nat.mul_le_mul_right _ h2
  rw [Nat.add_mul,Nat.one_mul]at h3
  rw [Nat.pow_succ,Nat.mul_comm (B^n) B]
  show enc B d n+d n*B^n<_
  omega
theorem Zw7{B:Nat}{d e:Nat→Nat} : ∀n,(∀i,i<n→d i<B)→(∀i,i<n→e i<B)→enc B d n=enc B e n→∀i,i<n→d i=e i
 | 0,_,_,_,i,hi=>absurd hi (Nat.not_lt_zero i)
 | n+1,h1,h2,h,i,hi=>by
  have a1:=Zop n fun i hi=>h1 i O
  have a2:=Zop n fun i hi=>h2 i O
  have h:enc B d n+d n*B^n=enc B e n+e n*B^n:=h
  have hp:0<B^n:=O
  have hd:d n=e n:=by
   have b1:(enc B d n+d n*B^n)/B^n=d n:=by rw [Nat.add_mul_div_right _ _ hp,Nat.div_eq_of_lt a1,Nat.zero_add]
   have b2:(enc B e n+e n*B^n)/B^n=e n:=by rw [Nat.add_mul_div_right _ _ hp,Nat.div_eq_of_lt a2,Nat.zero_add]
   rw [←b1,←b2,h]
  rcases Nat.lt_or_ge i n with h3 | h3
  ·exact Zw7 n (fun i hi=>h1 i O) (fun i hi=>h2 i O) (by rw [hd]at h;omega) i h3
  ·rw [show i=n by omega];exact hd
def dig(B k j:Nat):Nat:=k/B^j%B
theorem Zoq(B k:Nat):∀n,enc B (dig B k) n=k%B^n
 | 0=>by simp [enc,Nat.mod_one]
 | n+1=>by
  show enc B (dig B k) n+dig B k n*B^n=_
  rw [Zoq B k n,Nat.pow_succ,Nat.mod_mul]
  unfold dig;rw [Nat.mul_comm]
theorem Ziz{f:Nat→Int}{C:Int} : ∀n,(∀i,i<n→-C≤f i∧f i≤C)→-((n:Int)*C)≤Yv f n∧Yv f n≤(n:Int)*C
 | 0,_=>by simp [Fe]
 | n+1,h=>by
  have h1:=Ziz n fun i hi=>h i O
  have h2:=h n O
  have h3:((n+1:Nat):Int)*C=(n:Int)*C+C:=by push_cast;grind
  rw [Yy,h3];omega
theorem Zlp(f g:Nat→Int):∀n,Yv (fun i=>f i-g i) n=Yv f n-Yv g n
 | 0=>by simp [Fe]
 | n+1=>by rw [Yy,Yy,Yy,Zlp f g n];omega
theorem siegel{N M A:Nat}(hMN:M<N)(hA:0<A)(c:Nat→Nat→Int)(hc:∀i j,i<M→j<N→(c i j).natAbs≤A) :
  ∃x:Nat→Int,(∃j,j<N∧x j≠0)∧(∀j,j<N→(x j).natAbs≤(2*N*A)^M)∧∀i,i<M→Yv (fun j=>c i j*x j) N=0:=by
 generalize hX:(2*N*A)^M=X
 generalize hW:N*(A*X)=W
 let d:=fun k j=>dig (X+1) k j
 have hd:∀k j,d k j≤X:=fun k j=>Nat.le_of_lt_succ (Nat.mod_lt _ (Nat.succ_pos X))
 let y:=fun k i=>Yv (fun j=>c i j*(d k j:Int)) N
 have hy:∀k i,i<M→-(W:Int)≤y k i∧y k i≤(W:Int):=fun k i hi=>by
  have h1:=Ziz (f:=fun j=>c i j*(d k j:Int)) (C:=((A*X:Nat):Int)) N fun j hj=>by
   have h2:=hc i j hi hj
   have h3:(c i j*(d k j:Int)).natAbs≤A*X:=by
    rw [Int.natAbs_mul,Int.natAbs_natCast];exact Nat.mul_le_mul h2 (hd k j)
   omega
  have h4:((N:Int)*((A*X:Nat):Int))=(W:Int):=by rw [←hW];push_cast;rfl
  rw [h4]at h1;exact h1
 let e:=fun k=>enc (2*W+1) (fun i=>(y k i+(W:Int)).toNat) M
 have he:∀k i,i<M→(y k i+(W:Int)).toNat<2*W+1:=fun k i hi=>by have:=hy k i hi;omega
 have hlt:(2*W+1)^M<(X+1)^N:=by
  have h1:2*W+1≤(2*N*A)*(X+1):=by
   have:0<N*A:=Nat.mul_pos O hA
   have e1:2*N*A*(X+1)=2*W+2*(N*A):=by rw [←hW];grind
   omega
  have h2:=Nat.pow_le_pow_left h1 M
  rw [Nat.mul_pow,hX]at h2
  have h3:(X+1)^(M+1)≤(X+1)^N:=Nat.pow_le_pow_right O O
  rw [Nat.pow_succ]at h3
  have h4:0<(X+1)^M:=Nat.pow_pos O
  have h5:X*(X+1)^M<(X+1)^M*(X+1):=by rw [Nat.mul_comm];exact Nat.mul_lt_mul_of_pos_left O h4
  omega
 obtain⟨a,b,ha,hb,hab,hf⟩:=php (f:=e) hlt (fun k _=>Zop M (he k))
 have hyy:=Zw7 M (he a) (he b) hf
 refine⟨fun j=>(d a j:Int)-(d b j:Int),?_,fun j _=>?_,fun i hi=>?_⟩
 ·refine Classical.byContradiction fun h9=>hab ?_
  have h8:∀j,j<N→d a j=d b j:=fun j hj=>Classical.byContradiction fun h7=>h9 ⟨j,hj,fun h6=>h7 (by have h6:(d a j:Int)-(d b j:Int)=0:=h6;omega)⟩
  have e1:=Zoq (X+1) a N
  have e2:=Zoq (X+1) b N
  rw [Nat.mod_eq_of_lt ha]at e1
  rw [Nat.mod_eq_of_lt hb]at e2
  have e3:∀n,n≤N→enc (X+1) (dig (X+1) a) n=enc (X+1) (dig (X+1) b) n:=fun n=>by
   induction n with
   | zero=>intro _;rfl
   | succ n ih=>
    intro hn
    have h7:dig (X+1) a n=dig (X+1) b n:=h8 n O
    show enc _ _ n+dig (X+1) a n*_=enc _ _ n+dig (X+1) b n*_
    rw [ih O,h7]
  rw [←e1,←e2];exact e3 N (Nat.le_refl _)
 ·have h1:=hd a j
  have h2:=hd b j
  dsimp only;omega
 ·have h1:Yv (fun j=>c i j*((d a j:Int)-(d b j:Int))) N=y a i-y b i:=by
   rw [←Zlp];exact Yo fun j _=>O4
  rw [h1]
  have h2:=hyy i hi
  have h3:=hy a i hi
  have h4:=hy b i hi
  omega
theorem Zg5(f:Nat→Int)(p:Nat):∀q,Yv f (p+q)=Yv f p+Yv (fun k=>f (p+k)) q
 | 0=>by simp [Fe]
 | q+1=>by rw [←Nat.add_assoc,Yy,Yy,Zg5 f p q];omega
def sft(a:List Int)(t k:Nat):Int:=if k≤t then cf a (t-k)else 0
theorem Zkl{U a:List Int}{p:Nat}(h:U.length=p)(t:Nat):(ps U*ps a).c t=Yv (fun k=>sft a t k*cf U k) p:=by
 rw [←Zsi,←h]
 refine Yo fun k _=>?_
 unfold sft;split<;>grind
theorem Zc9{U a:List Int}{p t:Nat}(h:U.length≤p)(ht:p+a.length≤t+1):(ps U*ps a).c t=0:=by
 rw [PS.mul_c]
 refine Gk fun k hk=>?_
 rw [Nd,Nd]
 rcases Nat.lt_or_ge k U.length with h1 | h1
 ·rw [Yb (p:=a) O,Int.mul_zero]
 ·rw [Yb h1,Int.zero_mul]
theorem Zg8{a b:List Int}{p q lo A:Nat}(hA:0<A)(ha:∀i,(cf a i).natAbs≤A)(hb:∀i,(cf b i).natAbs≤A)(h0:0<p+q)(h1:p+a.length≤p+q+lo)(h2:q+b.length≤p+q+lo) :
  ∃U V:List Int,U.length=p∧V.length=q∧((∃i,cf U i≠0)∨∃i,cf V i≠0)∧(∀i,(cf U i).natAbs≤(2*(p+q)*A)^(p+q-1))∧(∀i,(cf V i).natAbs≤(2*(p+q)*A)^(p+q-1))∧
   ∀t,lo≤t→(ps U*ps a).c t+(ps V*ps b).c t=0:=by
 obtain⟨x,⟨j,hj,hne⟩,hx,he⟩:=siegel (N:=p+q) (M:=p+q-1) (A:=A) O hA (fun i j=>if j<p then sft a (lo+i) j else sft b (lo+i) (j-p)) (fun i j _ _=>by
  split<;>unfold sft<;>split
  ·exact ha _
  ·simp
  ·exact hb _
  ·simp)
 have cU:∀i,cf (mk p x) i=if i<p then x i else 0:=fun i=>Mn _ _ _
 have cV:∀i,cf (mk q fun k=>x (p+k)) i=if i<q then x (p+i)else 0:=fun i=>Mn _ _ _
 refine⟨mk p x,mk q fun k=>x (p+k),Yu _ _,Yu _ _,?_,fun i=>?_,fun i=>?_,fun t ht=>?_⟩
 ·rcases Nat.lt_or_ge j p with h | h
  ·exact .inl ⟨j,by rw [cU,if_pos h];exact hne⟩
  ·exact .inr ⟨j-p,by rw [cV,if_pos O,show p+(j-p)=j by omega];exact hne⟩
 ·rw [cU];split
  ·exact hx i O
  ·exact Nat.zero_le _
 ·rw [cV];split
  ·exact hx _ O
  ·exact Nat.zero_le _
 ·rcases Nat.lt_or_ge (t-lo) (p+q-1)with h | h
  ·have h3:=he (t-lo) h
   rw [show lo+(t-lo)=t by omega,Zg5]at h3
   rw [Zkl (Yu _ _),Zkl (Yu _ _),←h3]
   congr 1
   ·exact Yo fun k hk=>by rw [if_pos hk,cU,if_pos hk]
   ·exact Yo fun k hk=>by rw [if_neg O,cV,if_pos hk,show p+k-p=k by omega]
  ·rw [Zc9 (Nat.le_of_eq (Yu _ _)) O,Zc9 (Nat.le_of_eq (Yu _ _)) O];rfl
theorem Zxo{U a:List Int}{p t X A:Nat}(h:U.length=p)(hU:∀i,(cf U i).natAbs≤X)(ha:∀i,(cf a i).natAbs≤A):((ps U*ps a).c t).natAbs≤p*(X*A):=by
 rw [Zkl h]
 have h1:=Ziz (f:=fun k=>sft a t k*cf U k) (C:=((X*A:Nat):Int)) p fun k _=>by
  have:(sft a t k*cf U k).natAbs≤X*A:=by
   rw [Int.natAbs_mul,Nat.mul_comm]
   refine Nat.mul_le_mul (hU k) ?_
   unfold sft;split
   ·exact ha _
   ·simp
  omega
 have h2:((p:Int)*((X*A:Nat):Int))=((p*(X*A):Nat):Int):=by push_cast;rfl
 rw [h2]at h1;omega
theorem Ze4{w q y:List Int}{n:Nat}(h:∀x,Ze w x=Ze q x*Ze y x)(hy:Tr y)(h0:y≠[])(hn:∀i,n≤i→cf w i=0):tzl q=[]∨(tzl q).length+y.length≤n+1:=by
 by_cases hq:tzl q=[]
 ·exact .inl hq
 ·right
  have hc:∀i,cf w i=(ps (tzl q)*ps y).c i:=fun i=>by
   rw [Ny (p:=w) (q:=Pb (tzl q) y) (fun x=>by rw [Zt,Mf];exact h x) i,Gw,PS.mul_c];rfl
  have l1:=List.length_pos_iff.2 hq
  have l2:=List.length_pos_iff.2 h0
  have ht:=Cr (p:=tzl q) (q:=y) (a:=(tzl q).length-1) (b:=y.length-1) (fun i hi=>Yb O) (fun i hi=>Yb O)
  rw [←hc]at ht
  have hne:=Int.mul_ne_zero ((Pk q).mem hq) (hy.mem h0)
  rcases Nat.lt_or_ge ((tzl q).length-1+(y.length-1)) n with h9 | h9
  ·omega
  ·rw [hn _ h9]at ht;exact absurd ht.symm hne
theorem Gq{v f:List Int}(hv:tzl v≠[])(h:∀x,Ze v x*Ze f x=0)(x:Rat):Ze f x=0:=by
 by_cases hf:tzl f=[]
 ·rw [←Mf,hf];rfl
 ·exfalso
  rcases Ze4 (w:=[]) (q:=v) (y:=tzl f) (n:=0) (fun x=>by rw [Mf,h x];rfl) (Pk f) hf (fun i _=>Za4 i)with h9 | h9
  ·exact hv h9
  ·have:=List.length_pos_iff.2 hf
   have:=List.length_pos_iff.2 hv
   omega
structure Inv (a b x y:List Int):Prop where
 ex:∃(α β γ:Int) (u' v' u v:List Int),α≠0∧β≠0∧γ≠0∧
  (∀t:Rat,(α:Rat)*Ze x t=Ze u' t*Ze a t+Ze v' t*Ze b t)∧(∀t:Rat,(β:Rat)*Ze y t=Ze u t*Ze a t+Ze v t*Ze b t)∧
  (∀t:Rat,Ze u' t*Ze v t-Ze u t*Ze v' t=(γ:Rat))∧(tzl v).length≤a.length-x.length+1∧(tzl v').length≤a.length-x.length+1
 xl:x.length≤b.length
 yl:y.length<x.length
theorem Zvz{x q y z:List Int}{L:Int}{c:Int}(hy:Tr y)(h0:y≠[])(hz:z.length≤x.length)(h:∀t:Rat,(L:Rat)*Ze x t=Ze q t*Ze y t+(c:Rat)*Ze z t):tzl q=[]∨(tzl q).length+y.length≤x.length+1:=
 Ze4 (w:=Mp (x.map fun a=>L*a) (z.map fun a=>(-c)*a)) (n:=x.length) (fun t=>by rw [Xf,Zm,Zm];have:=h t;push_cast;grind) hy h0 fun i hi=>by
  rw [Lv,Qd,Qd,Yb hi,Yb (p:=z) O];omega
theorem Be{p q:List Int}{m n:Nat}(hp:(tzl p).length≤m)(hq:(tzl q).length≤n)(i:Nat)(hi:m+n≤i+1):cf (Pb p q) i=0:=by
 have h1:cf (Pb p q) i=cf (Pb (tzl p) (tzl q)) i:=Ny (fun x=>by rw [Zt,Zt,Mf,Mf]) i
 rw [h1,Gw]
 have h2:=Zc9 (U:=tzl p) (a:=tzl q) (p:=m) (t:=i) hp O
 rw [PS.mul_c]at h2
 exact h2
theorem Zm0{p:List Int}{n:Nat}(h:∀i,n≤i→cf p i=0):(tzl p).length≤n:=Zad h
theorem Zx1{p:List Int}{n i:Nat}(h:(tzl p).length≤n)(hi:n≤i):cf p i=0:=by
 rw [←Lb];exact Yb O
theorem Inv.next{a b x y z z' q:List Int}{L:Int}(hI:Inv a b x y)(hab:b.length≤a.length)(hx:Tr x)(hy:Tr y)(h0:y≠[])(hL:L≠0)(h:∀t:Rat,(L:Rat)*Ze x t=Ze q t*Ze y t+Ze z' t)(hz:Sim z' z)(hzl:z.length<y.length):Inv a b y z:=by
 obtain⟨⟨α,β,γ,u',v',u,v,hα,hβ,hγ,e1,e2,e3,l1,l2⟩,xl,yl⟩:=hI
 obtain⟨m,n,hm,hn,hs⟩:=hz
 have hs':∀t:Rat,(m:Rat)*Ze z' t=(n:Rat)*Ze z t:=fun t=>by
  have:=Nz t (z'.map fun a=>m*a) (z.map fun a=>n*a) fun i=>by rw [Qd,Qd,hs]
  rwa [Zm,Zm]at this
 have h9:∀t:Rat,((L*m:Int):Rat)*Ze x t=Ze (q.map fun a=>m*a) t*Ze y t+(n:Rat)*Ze z t:=fun t=>by
  rw [Zm];push_cast
  have:=h t;have:=hs' t;grind
 have hql:=Zvz hy h0 O h9
 have hqz:(tzl (q.map fun a=>m*a)).length≤x.length-y.length+1:=by
  rcases hql with hq | hq
  ·rw [hq];simp
  ·omega
 generalize hQ:(q.map fun a=>m*a)=Q at *
 have key:∀t:Rat,((n*(α*β):Int):Rat)*Ze z t=Ze (Mp (u'.map fun c=>(L*m*β)*c) ((Pb Q u).map fun c=>(-α)*c)) t*Ze a t+Ze (Mp (v'.map fun c=>(L*m*β)*c) ((Pb Q v).map fun c=>(-α)*c)) t*Ze b t:=fun t=>by
  rw [Xf,Xf,Zm,Zm,Zm,Zm,Zt,Zt]
  have a1:=h9 t;have a2:=e1 t;have a3:=e2 t
  push_cast at a1 ⊢
  have:(n:Rat)*(α*β)*Ze z t=α*β*(n*Ze z t):=O4
  rw [this,show(n:Rat)*Ze z t=L*m*Ze x t-Ze Q t*Ze y t by grind]
  have:(α:Rat)*β*(L*m*Ze x t-Ze Q t*Ze y t)=L*m*β*(α*Ze x t)-α*Ze Q t*(β*Ze y t):=O4
  rw [this,a2,a3];grind
 refine⟨⟨β,n*(α*β),-(L*m*β*γ),u,v,_,_,hβ,Int.mul_ne_zero hn (Int.mul_ne_zero hα hβ),?_,e2,key,fun t=>?_,?_,?_⟩,O,hzl⟩
 ·have:=Int.mul_ne_zero (Int.mul_ne_zero (Int.mul_ne_zero hL hm) hβ) hγ;omega
 ·rw [Xf,Xf,Zm,Zm,Zm,Zm,Zt,Zt]
  have:=e3 t;push_cast;grind
 ·refine Zm0 fun i hi=>?_
  rw [Lv,Qd,Qd,Zx1 (p:=v') l2 O,Be hqz l1 i O];omega
 ·omega
theorem Inv.first{a b z z' q:List Int}{L:Int}(hab:b.length≤a.length)(ha:Tr a)(hb:Tr b)(h0:b≠[])(hL:L≠0)(h:∀t:Rat,(L:Rat)*Ze a t=Ze q t*Ze b t+Ze z' t)(hz:Sim z' z)(hzl:z.length<b.length):Inv a b b z:=by
 obtain⟨m,n,hm,hn,hs⟩:=hz
 have hs':∀t:Rat,(m:Rat)*Ze z' t=(n:Rat)*Ze z t:=fun t=>by
  have:=Nz t (z'.map fun a=>m*a) (z.map fun a=>n*a) fun i=>by rw [Qd,Qd,hs]
  rwa [Zm,Zm]at this
 have h9:∀t:Rat,((L*m:Int):Rat)*Ze a t=Ze (q.map fun a=>m*a) t*Ze b t+(n:Rat)*Ze z t:=fun t=>by
  rw [Zm];push_cast
  have:=h t;have:=hs' t;grind
 have hql:=Zvz hb h0 O h9
 have hqz:(tzl (q.map fun a=>m*a)).length≤a.length-b.length+1:=by
  rcases hql with hq | hq
  ·rw [hq];simp
  ·omega
 generalize hQ:(q.map fun a=>m*a)=Q at *
 refine⟨⟨1,n,-(L*m),[],[1],[L*m],Q.map fun c=>(-1)*c,O3,hn,?_,fun t=>?_,fun t=>?_,fun t=>?_,?_,?_⟩,Nat.le_refl _,hzl⟩
 ·have:=Int.mul_ne_zero hL hm;omega
 ·rw [Pq];show _=(0:Rat)*_+_;grind
 ·rw [Pq,Zm];have:=h9 t;push_cast at this ⊢;grind
 ·rw [Pq,Pq];show(0:Rat)*_-_=_;push_cast;grind
 ·refine Zm0 fun i hi=>?_
  rw [Qd,Zx1 hqz O];omega
 ·refine Nat.le_trans (La _) ?_
  simp
theorem Zga{n:Nat}{a:List Int}(h:Sz n a)(i:Nat):(cf a i).natAbs≤2^n:=Nat.le_of_lt ((Xn n _).1 (h i))
theorem Ba{p:List Int}(h:tzl p=[])(x:Rat):Ze p x=0:=by rw [←Mf,h];rfl
theorem tzl_ne{p:List Int}{i:Nat}(h:cf p i≠0):tzl p≠[]:=fun e=>h ((Ld p).1 e i)
theorem nn_eq{x a b:Nat}(h1:x≤b)(h2:b≤a):b-x+1+(a-x+1)=a+b-2*x+2:=O
theorem Inv.bound{a b x y:List Int}{n s:Nat}(hI:Inv a b x y)(hab:b.length≤a.length)(ha:Tr a)(hx:Tr x)(hy:Tr y)(h0:y≠[])(hp:Yk y=1)(na:Sz n a)(nb:Sz n b)(hs:a.length+b.length-2*x.length+2≤2^s) :
  Xw y≤(s+1+n)*(a.length+b.length-2*x.length+2):=by
 obtain⟨⟨α,β,γ,u',v',u,v,hα,hβ,hγ,e1,e2,e3,l1,l2⟩,xl,yl⟩:=hI
 have hy1:=List.length_pos_iff.2 h0
 have hx0:x≠[]:=fun e=>by rw [e]at yl;simp at yl
 have ha0:a≠[]:=fun e=>by
  have h9:a.length=0:=by rw [e];rfl
  omega
 obtain⟨U,V,lU,lV,hne,bU,bV,hz⟩:=Zg8 (a:=a) (b:=b) (p:=b.length-x.length+1) (q:=a.length-x.length+1) (lo:=x.length-1) (A:=2^n) (Nat.pow_pos O3) (Zga na) (Zga nb) O O O
 have hv:a.length+1≤(tzl v).length+x.length:=by
  refine Classical.byContradiction fun h9=>?_
  have hid:∀i,cf (Mp (a.map fun c=>γ*c) ((Pb y v').map fun c=>β*c)) i=cf (Pb (tzl v) (x.map fun c=>α*c)) i:=fun i=>Ny (fun t=>by
   rw [Xf,Zm,Zm,Zt,Zt,Zm,Mf]
   have a1:=e1 t;have a2:=e2 t;have a3:=e3 t
   have:Ze v t*(α*Ze x t)=(Ze u' t*Ze v t-Ze u t*Ze v' t)*Ze a t+(Ze u t*Ze a t+Ze v t*Ze b t)*Ze v' t:=by rw [a1];grind
   rw [this,a3,←a2];grind) i
  have h1:=hid (a.length-1)
  rw [Lv,Qd,Qd,Be (m:=y.length) (n:=a.length-x.length+1) (La _) l2 _ O,Gw]at h1
  have h2:=Zc9 (U:=tzl v) (a:=x.map fun c=>α*c) (p:=(tzl v).length) (t:=a.length-1) (Nat.le_refl _) (by rw [List.length_map];omega)
  rw [PS.mul_c]at h2
  have h3:Yv (fun k=>cf (tzl v) k*cf (x.map fun c=>α*c) (a.length-1-k)) (a.length-1+1)=0:=h2
  rw [h3]at h1
  have:=Int.mul_ne_zero hγ (ha.mem ha0)
  omega
 have hvne:tzl v≠[]:=fun e=>by rw [e]at hv;simp at hv;omega
 have cR:∀i,cf (Mp (Pb U a) (Pb V b)) i=(ps U*ps a).c i+(ps V*ps b).c i:=fun i=>by
  rw [Lv,Gw,Gw,PS.mul_c,PS.mul_c];rfl
 generalize hR:Mp (Pb U a) (Pb V b)=R at cR
 have rR:∀t,Ze R t=Ze U t*Ze a t+Ze V t*Ze b t:=fun t=>by rw [←hR,Xf,Zt,Zt]
 have lR:(tzl R).length≤x.length-1:=Zm0 fun i hi=>by rw [cR];exact hz i hi
 have hf:tzl (Mp (Pb U v) ((Pb u V).map fun c=>(-1)*c))=[]:=by
  rcases Ze4 (w:=Mp (Pb R v) ((Pb y V).map fun c=>(-β)*c)) (q:=Mp (Pb U v) ((Pb u V).map fun c=>(-1)*c)) (y:=a) (n:=a.length-1) (fun t=>by
   rw [Xf,Zm,Zt,Zt,Xf,Zm,Zt,Zt,rR]
   have a2:=e2 t
   push_cast
   have:(-(β:Rat))*(Ze y t*Ze V t)=- (β*Ze y t)*Ze V t:=O4
   rw [this,a2];grind) ha ha0 (fun i hi=>by
   rw [Lv,Qd,Be lR l1 i O,Be (m:=y.length) (n:=a.length-x.length+1) (La _) (Nat.le_trans (La _) (Nat.le_of_eq lV)) i O];omega)with h9 | h9
  ·exact h9
  ·refine Classical.byContradiction fun h8=>?_
   have:=List.length_pos_iff.2 h8;omega
 have huv:∀t,Ze U t*Ze v t=Ze u t*Ze V t:=fun t=>by
  have:=Ba hf t
  rw [Xf,Zm,Zt,Zt]at this
  push_cast at this;grind
 have hRv:∀t,Ze R t*Ze v t=β*Ze y t*Ze V t:=fun t=>by
  rw [rR,e2 t]
  have:=huv t;grind
 have hw:∀t,(γ:Rat)*Ze V t=Ze v t*Ze (Mp (Pb u' V) ((Pb v' U).map fun c=>(-1)*c)) t:=fun t=>by
  rw [Xf,Zm,Zt,Zt,←e3 t]
  have:=huv t;push_cast;grind
 generalize Mp (Pb u' V) ((Pb v' U).map fun c=>(-1)*c)=w at hw
 have hV:tzl V≠[]:=fun e=>by
  rcases hne with⟨i,hi⟩ | ⟨i,hi⟩
  ·refine hi (Ny (p:=U) (q:=[]) (fun t=>?_) i▸Za4 i)
   exact Gq (v:=v) (f:=U) hvne (fun t=>by have:=huv t;rw [Ba e]at this;grind) t
  ·exact tzl_ne hi e
 have hwl:∃c:Int,c≠0∧∀t,Ze w t=(c:Rat):=by
  have hwne:tzl w≠[]:=fun e=>hV ((Ld V).2 fun i=>by
   have:=Ny (p:=V.map fun c=>γ*c) (q:=[]) (fun t=>by rw [Zm,hw t,Ba e];show _=(0:Rat);grind) i
   rw [Qd,Za4]at this
   exact(Int.mul_eq_zero.1 this).resolve_left hγ)
  rcases Ze4 (w:=V.map fun c=>γ*c) (q:=w) (y:=tzl v) (n:=a.length-x.length+1) (fun t=>by rw [Zm,Mf,hw t];grind) (Pk v) hvne (fun i hi=>by rw [Qd,Yb O];omega)with h9 | h9
  ·exact absurd h9 hwne
  ·have h8:=List.length_pos_iff.2 hwne
   have h7:(tzl w).length=1:=O
   match hc:tzl w,h7 with
   | [c],_=>
    refine⟨c,?_,fun t=>by rw [←Mf,hc,Pq]⟩
    have:=(Pk w).mem hwne
    rw [hc]at this;exact this
 obtain⟨c,hc0,hc⟩:=hwl
 have hsim:Sim R y:=by
  refine⟨γ,β*c,hγ,Int.mul_ne_zero hβ hc0,fun i=>?_⟩
  have:=Ny (p:=R.map fun d=>γ*d) (q:=y.map fun d=>(β*c)*d) (fun t=>by
   rw [Zm,Zm];push_cast
   have h1:Ze (Mp (R.map fun d=>γ*d) (y.map fun d=>(-(β*c))*d)) t=0:=Gq (v:=v) hvne (fun t=>by
    rw [Xf,Zm,Zm];push_cast
    have a1:=hRv t;have a2:=hw t;rw [hc]at a2
    have:Ze v t*(γ*Ze R t + -(β*c:Rat)*Ze y t)=γ*(Ze R t*Ze v t)-β*Ze y t*(Ze v t*c):=O4
    rw [this,a1,←a2];grind) t
   rw [Xf,Zm,Zm]at h1
   push_cast at h1;grind) i
  rwa [Qd,Qd]at this
 have hsz:Sz ((s+1+n)*(a.length+b.length-2*x.length+2)) R:=fun i=>by
  rw [cR]
  have c1:=Zxo (t:=i) lU bU (Zga na)
  have c2:=Zxo (t:=i) lV bV (Zga nb)
  have hN3:b.length-x.length+1+(a.length-x.length+1)=a.length+b.length-2*x.length+2:=nn_eq xl hab
  rw [←hN3]at hs ⊢
  generalize hN:b.length-x.length+1+(a.length-x.length+1)=N at *
  generalize hXX:(2*N*2^n)^(N-1)=X at *
  have c3:((ps U*ps a).c i+(ps V*ps b).c i).natAbs≤N*(X*2^n):=by
   rw [←hN,Nat.add_mul]
   have:=Int.natAbs_add_le ((ps U*ps a).c i) ((ps V*ps b).c i)
   omega
  refine(Xn _ _).2 (Nat.lt_of_le_of_lt c3 ?_)
  have hX0:0<X:=by rw [←hXX];exact Nat.pow_pos (Nat.mul_pos O (Nat.pow_pos O3))
  have c4:N*(X*2^n)<(2*N*2^n)^N:=by
   have e:(2*N*2^n)^N=X*(2*N*2^n):=by
    rw [←hXX,←Nat.pow_succ,Nat.succ_eq_add_one,show N-1+1=N by omega]
   rw [e]
   have:0<N*(X*2^n):=Nat.mul_pos O (Nat.mul_pos hX0 (Nat.pow_pos O3))
   have e2:X*(2*N*2^n)=2*(N*(X*2^n)):=O4
   omega
  have c5:2*N*2^n≤2^(s+1+n):=by
   rw [Nat.pow_add,Nat.pow_succ]
   exact Nat.mul_le_mul_right _ O
  have c6:=Nat.pow_le_pow_left c5 N
  rw [←Nat.pow_mul]at c6
  exact Nat.lt_of_lt_of_le c4 c6
 have h1:tzl R≠[]:=fun e=>by
  obtain⟨m,k,hm,hk,e9⟩:=hsim
  have:=e9 (y.length-1)
  rw [(Ld R).1 e,Int.mul_zero]at this
  exact Int.mul_ne_zero hk (hy.mem h0) this.symm
 have hsim2:Sim (tzl R) y:=by
  obtain⟨m,k,hm,hk,e9⟩:=hsim
  exact⟨m,k,hm,hk,fun i=>by rw [Lb];exact e9 i⟩
 have h2:=(Xt (Pk R)).trans hsim2
 have h3:∀i,(cf y i).natAbs=(cf (Zr (tzl R)) i).natAbs:=fun i=>by
  rcases Zi2 (Yf (Pk R)) hy (fun e=>h1 (List.eq_nil_of_length_eq_zero (by rw [←Zq,e];rfl))) (Li (Pk R) h1) hp h2 with h9 | h9
  ·rw [h9]
  ·rw [h9 i,Int.natAbs_neg]
 exact Qn fun i=>by rw [h3];exact Kx hsz.tzl i
def Zq0(la lb K:Nat):Prop:=∀l,l≤lb→(l+1)*(K*(la+lb-2*l+2)+1)≤65536
theorem Zr9{la lb K l m:Nat}(h:l≤m):K*(la+lb-2*m+2)≤K*(la+lb-2*l+2):=Nat.mul_le_mul_left _ O
theorem Zfv{x y:List Int}{C:Nat}(hy:y≠[])(hl:y.length<x.length)(h1:Xw x≤C)(h2:Xw y≤C)(h:(x.length+1)*(C+1)≤65536):Ds x y=0:=by
 have l1:=List.length_pos_iff.2 hy
 unfold Ds
 rw [if_neg O,if_neg O]
 have h3:(x.length-y.length+1)*(Xw y+1)≤x.length*(C+1):=Nat.mul_le_mul O O
 rw [Nat.add_mul,Nat.one_mul]at h
 rw [if_neg O]
theorem Zz2{a b x y:List Int}(hI:Inv a b x y)(hab:b.length≤a.length)(hx:Tr x)(hy:Tr y)(h0:y≠[]):Inv a b y (Zr (Xm x y)):=by
 obtain⟨k,s,hs⟩:=Ei x h0
 have hL:=Nh (hy.mem h0) k
 generalize cf y (y.length-1)^k=L at hs hL
 have he:∀t:Rat,(L:Rat)*Ze x t=Ze s t*Ze y t+Ze (Xm x y) t:=fun t=>by
  have:=Ft (a:=L) (c:=-1) (x:=x) (s:=s) (y:=y) (z:=Xm x y) (fun t=>by rw [hs t];omega) t
  push_cast at this;grind
 exact hI.next hab hx hy h0 hL he (Xt (Lf hx)).symm (by rw [Zq];exact Qr x h0)
theorem Ze6{p:List Int}(h:Tr p):Zr p=[]∨Yk (Zr p)=1:=by
 by_cases h0:p=[]
 ·left;rw [h0];rfl
 ·right;exact Li h h0
theorem Dq{x y:List Int}(hx:Tr x)(h0:y≠[]):(Nl x y).length<y.length:=by rw [Dn hx];exact Qr x h0
theorem Zz1{a b x y:List Int}(hI:Inv a b x y)(hab:b.length≤a.length)(hx:Tr x)(hy:Tr y)(h0:y≠[]):Inv a b y (Nl x y)∧(Nl x y=[]∨Yk (Nl x y)=1):=by
 have l0:=List.length_pos_iff.2 h0
 have hxy:=hI.yl
 obtain⟨r1,r2,k,u,hk⟩:=Zam hy h0 x.length x hx O
 have hs:=Zcm (f:=x.length) hx hy h0 O O
 have htn:Tr (Zd3 (Iy x.length x y)):=Xp _ _
 have hK:Hq y^k≠0:=Nh (by have:=Ze3 hy h0;omega) _
 constructor
 ·refine hI.next (z':=Iy x.length x y) (q:=u) hab hx hy h0 hK (fun t=>?_) ?_ (Dq hx h0)
  ·have:=Ft (a:=Hq y^k) (c:=-1) (x:=x) (s:=u) (y:=y) (z:=Iy x.length x y) (fun t=>by rw [hk t];omega) t
   push_cast at this ⊢;grind
  ·rw [←hs]
   exact Sim.trans ⟨1,-1,O3,O3,fun i=>by rw [Fy];omega⟩ (Xt htn).symm
 ·rw [←hs];exact Ze6 htn
theorem Zw5{a b:List Int}{n s K:Nat}(hab:b.length≤a.length)(ha:Tr a)(na:Sz n a)(nb:Sz n b)(hs:a.length+b.length≤2^s)(hK:s+1+n≤K)(hN:Zq0 a.length b.length K) :
  ∀(f:Nat) (x y:List Int),Inv a b x y→Tr x→Tr y→(y=[]∨Yk y=1)→Xw x≤K*(a.length+b.length-2*x.length+2)→y.length≤f→eok f x y∧Xw (eu f x y)≤K*(a.length+b.length)
 | 0,x,y,hI,hx,hy,hp,hm,hl=>by
  have hxl:=hI.yl
  refine⟨List.eq_nil_of_length_eq_zero O,Nat.le_trans hm (Nat.mul_le_mul_left _ (by have:=hI.xl;omega))⟩
 | f+1,x,y,hI,hx,hy,hp,hm,hl=>by
  have hyl:=hI.yl
  have hxl:=hI.xl
  by_cases h0:y=[]
  ·subst h0
   refine⟨.inl rfl,?_⟩
   rw [Fm]
   exact Nat.le_trans hm (Nat.mul_le_mul_left _ O)
  ·have l0:=List.length_pos_iff.2 h0
   have hb:=hI.bound hab ha hx hy h0 (hp.resolve_left h0) na nb (s:=s) O
   have hb2:Xw y≤K*(a.length+b.length-2*x.length+2):=Nat.le_trans hb (Nat.mul_le_mul_right _ hK)
   have hd:=Zfv h0 hyl hm hb2 (hN x.length hxl)
   have ht:=Lf (q:=y) hx
   have ih:=Zw5 hab ha na nb hs hK hN f y (Zr (Xm x y)) (Zz2 hI hab hx hy h0) hy (Yf ht) (Ze6 ht) (Nat.le_trans hb2 (Zr9 O)) (by rw [Zq];have:=Qr x h0;omega)
   refine⟨.inr ⟨hd,ih.1⟩,?_⟩
   rw [show eu (f+1) x y=eu f y (Zr (Xm x y)) by
     conv=>lhs;unfold eu
     rw [if_neg h0]]
   exact ih.2
theorem Zxp{a b:List Int}{n s K:Nat}(hab:b.length≤a.length)(ha:Tr a)(na:Sz n a)(nb:Sz n b)(hs:a.length+b.length≤2^s)(hK:s+1+n≤K)(hN:Zq0 a.length b.length K) :
  ∀(f:Nat) (x y:List Int),Inv a b x y→Tr x→Tr y→(y=[]∨Yk y=1)→Xw x≤K*(a.length+b.length-2*x.length+2)→y.length≤f→cok f x y∧∀p∈Np f x y,Xw p≤K*(a.length+b.length)∧p.length≤a.length
 | 0,x,y,hI,hx,hy,hp,hm,hl=>by
  have hxl:=hI.yl
  have hxl2:=hI.xl
  have h0:y=[]:=List.eq_nil_of_length_eq_zero O
  refine⟨h0,fun p hp=>?_⟩
  have:p=x:=by unfold Np at hp;simpa using hp
  rw [this]
  exact⟨Nat.le_trans hm (Nat.mul_le_mul_left _ O),O⟩
 | f+1,x,y,hI,hx,hy,hp,hm,hl=>by
  have hyl:=hI.yl
  have hxl:=hI.xl
  by_cases h0:y=[]
  ·subst h0
   refine⟨.inl rfl,fun p hp=>?_⟩
   rw [Fg]at hp
   have:p=x:=by simpa using hp
   rw [this]
   exact⟨Nat.le_trans hm (Nat.mul_le_mul_left _ O),O⟩
  ·have l0:=List.length_pos_iff.2 h0
   have hb:=hI.bound hab ha hx hy h0 (hp.resolve_left h0) na nb (s:=s) O
   have hb2:Xw y≤K*(a.length+b.length-2*x.length+2):=Nat.le_trans hb (Nat.mul_le_mul_right _ hK)
   have hd:=Zfv h0 hyl hm hb2 (hN x.length hxl)
   obtain⟨i1,i2⟩:=Zz1 hI hab hx hy h0
   have ih:=Zxp hab ha na nb hs hK hN f y (Nl x y) i1 hy (Zbg hx) i2 (Nat.le_trans hb2 (Zr9 O)) (by have:=Dq hx h0;omega)
   refine⟨.inr ⟨hd,O,ih.1⟩,fun p hp=>?_⟩
   unfold Np at hp
   rw [if_neg h0]at hp
   rcases List.mem_cons.1 hp with rfl | hp
   ·exact⟨Nat.le_trans hm (Nat.mul_le_mul_left _ O),O⟩
   ·exact ih.2 p hp
theorem Zw6{a b:List Int}{n s K f:Nat}(hab:b.length<a.length)(ha:Tr a)(hb:Tr b)(na:Sz n a)(nb:Sz n b)(hs:a.length+b.length≤2^s)(hK:s+1+n≤K)(hN:Zq0 a.length b.length K)(hd:(a.length+1)*(n+1)≤65536)(hf:b.length≤f) :
  eok f a b∧Xw (eu f a b)≤K*(a.length+b.length):=by
 have ma:=Qn na
 have mb:=Qn nb
 have la:0<a.length:=O
 have hKn:n≤K*(a.length+b.length):=Nat.le_trans (by omega:n≤K*1) (Nat.mul_le_mul_left _ O)
 by_cases h0:b=[]
 ·subst h0
  cases f with
  | zero=>exact⟨rfl,by rw [Fm];omega⟩
  | succ f=>exact⟨.inl rfl,by rw [Fm];omega⟩
 ·have l0:=List.length_pos_iff.2 h0
  obtain⟨g,rfl⟩:∃g,f=g+1:=⟨f-1,O⟩
  have ht:=Lf (q:=b) ha
  obtain⟨k,q,hq⟩:=Ei a h0
  have hL:=Nh (hb.mem h0) k
  generalize cf b (b.length-1)^k=L at hq hL
  have he:∀t:Rat,(L:Rat)*Ze a t=Ze q t*Ze b t+Ze (Xm a b) t:=fun t=>by
   have:=Ft (a:=L) (c:=-1) (x:=a) (s:=q) (y:=b) (z:=Xm a b) (fun t=>by rw [hq t];omega) t
   push_cast at this;grind
  have hI:Inv a b b (Zr (Xm a b)):=Inv.first O ha hb h0 hL he (Xt ht).symm (by rw [Zq];exact Qr a h0)
  have ih:=Zw5 O ha na nb hs hK hN g b (Zr (Xm a b)) hI hb (Yf ht) (Ze6 ht) (Nat.le_trans (by omega:Xw b≤K*1) (Nat.mul_le_mul_left _ O)) (by rw [Zq];have:=Qr a h0;omega)
  refine⟨.inr ⟨Zfv h0 hab ma mb hd,ih.1⟩,?_⟩
  rw [show eu (g+1) a b=eu g b (Zr (Xm a b)) by
    conv=>lhs;unfold eu
    rw [if_neg h0]]
  exact ih.2
theorem Yiv{a b:List Int}{n s K f:Nat}(hab:b.length<a.length)(ha:Tr a)(hb:Tr b)(na:Sz n a)(nb:Sz n b)(hs:a.length+b.length≤2^s)(hK:s+1+n≤K)(hN:Zq0 a.length b.length K)(hd:(a.length+1)*(n+1)≤65536)(hf:b.length≤f) :
  cok f a b∧∀p∈Np f a b,Xw p≤K*(a.length+b.length)∧p.length≤a.length:=by
 have ma:=Qn na
 have mb:=Qn nb
 have la:0<a.length:=O
 have hKn:n≤K*(a.length+b.length):=Nat.le_trans (by omega:n≤K*1) (Nat.mul_le_mul_left _ O)
 by_cases h0:b=[]
 ·subst h0
  have hall:∀p∈Np f a [],Xw p≤K*(a.length+([]:List Int).length)∧p.length≤a.length:=fun p hp=>by
   rw [Fg]at hp
   have:p=a:=by simpa using hp
   rw [this];exact⟨O,Nat.le_refl _⟩
  cases f with
  | zero=>exact⟨rfl,hall⟩
  | succ f=>exact⟨.inl rfl,hall⟩
 ·have l0:=List.length_pos_iff.2 h0
  obtain⟨g,rfl⟩:∃g,f=g+1:=⟨f-1,O⟩
  obtain⟨r1,r2,k,u,hk⟩:=Zam hb h0 a.length a ha O
  have hs':=Zcm (f:=a.length) ha hb h0 O O
  have htn:Tr (Zd3 (Iy a.length a b)):=Xp _ _
  have hKK:Hq b^k≠0:=Nh (by have:=Ze3 hb h0;omega) _
  have hI:Inv a b b (Nl a b):=by
   refine Inv.first (z':=Iy a.length a b) (q:=u) O ha hb h0 hKK (fun t=>?_) ?_ (Dq ha h0)
   ·have:=Ft (a:=Hq b^k) (c:=-1) (x:=a) (s:=u) (y:=b) (z:=Iy a.length a b) (fun t=>by rw [hk t];omega) t
    push_cast at this ⊢;grind
   ·rw [←hs']
    exact Sim.trans ⟨1,-1,O3,O3,fun i=>by rw [Fy];omega⟩ (Xt htn).symm
  have hp:Nl a b=[]∨Yk (Nl a b)=1:=by rw [←hs'];exact Ze6 htn
  have ih:=Zxp O ha na nb hs hK hN g b (Nl a b) hI hb (Zbg ha) hp (Nat.le_trans (by omega:Xw b≤K*1) (Nat.mul_le_mul_left _ O)) (by have:=Dq ha h0;omega)
  refine⟨.inr ⟨Zfv h0 hab ma mb hd,O,ih.1⟩,fun p hp=>?_⟩
  unfold Np at hp
  rw [if_neg h0]at hp
  rcases List.mem_cons.1 hp with rfl | hp
  ·exact⟨O,Nat.le_refl _⟩
  ·exact ih.2 p hp
def kkR(R:Nat):Nat→Nat
 | 0=>0
 | d+1=>2*(R+1)*kkR R d+1
theorem Yeb(R:Nat):∀d,kkR R d≤kkR R (d+1)
 | 0=>Nat.zero_le _
 | d+1=>by
  have h:=Yeb R d
  show 2*(R+1)*kkR R d+1≤2*(R+1)*kkR R (d+1)+1
  exact Nat.succ_le_succ (Nat.mul_le_mul_left _ h)
theorem Yea(R:Nat){d e:Nat}(h:d≤e):kkR R d≤kkR R e:=by
 induction e with
 | zero=>rw [show d=0 by omega];exact Nat.le_refl _
 | succ e ih=>
  rcases Nat.lt_or_ge d (e+1)with h1 | h1
  ·exact Nat.le_trans (ih O) (Yeb R e)
  ·rw [show d=e+1 by omega];exact Nat.le_refl _
theorem Zwx(R:Nat):∀(d:Nat) (u:List Int) (T:List Int) (B:Nat),u.length≤d→T.length=d→T.Nodup→(∀t∈T,t.natAbs≤R)→(∀t∈T,(Cx u t).natAbs≤B)→∀i,(cf u i).natAbs≤kkR R d*B
 | 0,u,T,B,hu,_,_,_,_,i=>by rw [Yb O];exact Nat.zero_le _
 | d+1,u,[],B,_,hT,_,_,_,_=>by simp at hT
 | d+1,u,t :: T,B,hu,hT,hd,hr,hB,i=>by
  have hl:=Zd7 u t
  have ht:=hr t (List.mem_cons_self ..)
  have hb:=hB t (List.mem_cons_self ..)
  have ih:=Zwx R d (sdv u t) T (2*B) O (by simpa using hT) (List.nodup_cons.1 hd).2 (fun x hx=>hr x (List.mem_cons_of_mem _ hx)) fun x hx=>by
   have h1:=Zon u t x
   have h2:=hB x (List.mem_cons_of_mem _ hx)
   have hne:x≠t:=fun e=>(List.nodup_cons.1 hd).1 (e▸hx)
   have h3:((x-t)*Cx (sdv u t) x).natAbs≤2*B:=O
   rw [Int.natAbs_mul]at h3
   have h4:1*(Cx (sdv u t) x).natAbs≤(x-t).natAbs*(Cx (sdv u t) x).natAbs:=Nat.mul_le_mul_right _ O
   omega
  have hk:kkR R (d+1)*B=R*(kkR R d*(2*B))+kkR R d*(2*B)+B:=by
   show(2*(R+1)*kkR R d+1)*B=_
   grind
  have hmul:∀x:Int,x.natAbs≤kkR R d*(2*B)→(t*x).natAbs≤R*(kkR R d*(2*B)):=fun x hx=>by
   rw [Int.natAbs_mul];exact Nat.mul_le_mul O hx
  rw [hk]
  cases i with
  | zero=>
   rw [Zx0 u t]
   have:=hmul _ (ih 0)
   omega
  | succ i=>
   rw [Zuh u t]
   have h1:=ih i
   have h2:=hmul _ (ih (i+1))
   omega
theorem Zmm(R:Nat):∀(n:Nat) (s:List Int) (A:Nat) (t:Int),s.length≤n→(∀c∈s,c.natAbs≤A)→0≤t→t≤(R:Int)→(Cx s t).natAbs≤A*((R+1)^n)
 | n,[],A,t,_,_,_,_=>by simp [Cx]
 | 0,c :: s,A,t,h,_,_,_=>by simp at h
 | n+1,c :: s,A,t,h,hc,h0,h1=>by
  have ih:=Zmm R n s A t (by simpa using h) (fun x hx=>hc x (List.mem_cons_of_mem _ hx)) h0 h1
  have h2:=hc c (List.mem_cons_self ..)
  have h3:(t*Cx s t).natAbs≤R*(A*(R+1)^n):=by rw [Int.natAbs_mul];exact Nat.mul_le_mul O ih
  show(c+t*Cx s t).natAbs≤A*(R+1)^(n+1)
  have h4:A*(R+1)^(n+1)=R*(A*(R+1)^n)+A*(R+1)^n:=by rw [Nat.pow_succ];grind
  have h5:A*1≤A*(R+1)^n:=Nat.mul_le_mul_left _ (Nat.pow_pos O)
  omega
theorem Gb{s u v:List Int}{n L R e:Nat}(hu:Tr u)(hv:Tr v)(hs:Sz n s)(h0:s≠[])(hts:Tr s)(hl:s.length≤L)(hR:2*L≤R+2)(he:kkR R L*(R+1)^L<2^e)(h:s=Xq u v):Sz (n+e) u:=by
 have hne:u≠[]∧v≠[]:=by
  refine⟨fun e=>h0 ?_,fun e=>h0 ?_⟩
  ·rw [h,e,Ic]
  ·rw [h,e,Zas]
 have hlen:=Po hu hv hne.1 hne.2
 rw [←h]at hlen
 have lu:=List.length_pos_iff.2 hne.1
 have lv:=List.length_pos_iff.2 hne.2
 have hz:∃i,cf s i≠0:=⟨_,hts.mem h0⟩
 generalize hP:(List.range (R+1)).map (fun n:Nat=>(n:Int))=pts
 have hnp:pts.Nodup:=by
  rw [←hP]
  refine List.Pairwise.map _ (fun a b hab=>?_) List.nodup_range
  intro e;exact hab (by exact_mod_cast e)
 have h1:=Zkc (fun t=>decide (Cx s t≠0)) pts
 have h2:=Zi9 s.length s (pts.filter fun t=>!decide (Cx s t≠0)) rfl hz (hnp.filter _) fun t ht=>by
  have:=(List.mem_filter.1 ht).2
  simpa using this
 have h3:pts.length=R+1:=by rw [←hP];simp
 generalize hT:pts.filter (fun t=>decide (Cx s t≠0))=T at h1
 have hTl:s.length≤T.length:=O
 have hTm:∀t∈T.take u.length,t∈pts∧Cx s t≠0:=fun t ht=>by
  have:=List.mem_of_mem_take ht
  rw [←hT,List.mem_filter]at this
  exact⟨this.1,by simpa using this.2⟩
 have hr:∀t∈T.take u.length,0≤t∧t≤(R:Int):=fun t ht=>by
  have:=(hTm t ht).1
  rw [←hP]at this
  obtain⟨k,hk,rfl⟩:=List.mem_map.1 this
  have:=List.mem_range.1 hk
  omega
 have hA:∀c∈s,c.natAbs≤2^n:=fun c hc=>Nat.le_of_lt ((Xn n _).1 (hs.mem hc))
 have hk:=Zwx R u.length u (T.take u.length) (2^n*(R+1)^L) (Nat.le_refl _) (by rw [List.length_take];omega) ((hT▸hnp.filter _:T.Nodup).sublist (List.take_sublist _ _)) (fun t ht=>by have:=hr t ht;omega) fun t ht=>by
  have hb:=Zmm R L s (2^n) t hl hA (hr t ht).1 (hr t ht).2
  have he:Cx s t=Cx u t*Cx v t:=by
   rw [Zke,Zke,Zke,h,Yc2 hu hv hne.1 hne.2]
  have hnz:=(hTm t ht).2
  have hd:Cx u t∣Cx s t:=⟨_,he⟩
  exact Nat.le_trans (Nat.le_of_dvd O (Int.natAbs_dvd_natAbs.2 hd)) hb
 intro i
 rw [Xn]
 refine Nat.lt_of_le_of_lt (hk i) ?_
 have hkk:=Yea R (show u.length≤L by omega)
 rw [Nat.pow_add,Nat.mul_comm (kkR R u.length),Nat.mul_assoc]
 refine Nat.mul_lt_mul_of_pos_left ?_ (Nat.pow_pos O3)
 rw [Nat.mul_comm]
 exact Nat.lt_of_le_of_lt (Nat.mul_le_mul_right _ hkk) he
theorem Ydd{la lb K:Nat}(h1:la≤13)(h2:lb+1=la)(hK:K≤600):Zq0 la lb K:=fun l hl=>by
 have h3:∀l,l≤12→(l+1)*(600*(27-2*l)+1)≤65536:=O3
 refine Nat.le_trans (Nat.mul_le_mul_left _ (Nat.succ_le_succ (Nat.mul_le_mul hK O))) (h3 l O)
theorem chH{xs:List Int}{n:Nat}(F:Nat)(hx:Tr xs)(h0:xs≠[])(hs:Sz n xs)(hn:n≤350)(hl:xs.length≤13)(hb:(xs.length+2)*(xs.length+2)*(n+13)≤65536)(hF:xs.length≤F+1) :
  Ct F xs∧Sz (n+130) (sqf F xs)∧(sqf F xs).length≤xs.length∧∀p∈Bt F xs,Xw p≤(n+141)*25∧p.length≤xs.length:=by
 have hnn:=Zm4 hs
 have hln:=Pe hx
 have ht:Tr (Yn xs):=On (Yf hx)
 have hd:=Ky hnn O
 have hld:=Pn (Yn xs)
 have htd:Tr (Yi (Yn xs)):=Oh ht
 have m1:=Qn hnn
 have m2:=Qn hd
 have l0:=List.length_pos_iff.2 h0
 have hgA:gA (Yn xs) (Yi (Yn xs))=Zr (Yn xs):=if_neg O
 have hgB:gB (Yn xs) (Yi (Yn xs))=Zr (Yi (Yn xs)):=if_neg O
 have hok:eok F (gA (Yn xs) (Yi (Yn xs))) (gB (Yn xs) (Yi (Yn xs))):=by
  rw [hgA,hgB]
  refine(Zw6 (n:=n+5) (s:=5) (K:=n+11) (by rw [Zq,Zq];omega) (Yf ht) (Yf htd) (Kx (hnn.mono O)) (Kx hd) ?_ O ?_ ?_ ?_).1
  ·rw [Zq,Zq];omega
  ·rw [Zq,Zq];exact Ydd O O O
  ·rw [Zq]
   exact Nat.le_trans (Nat.mul_le_mul (show(Yn xs).length+1≤14 by omega) (show n+5+1≤400 by omega)) O3
  ·rw [Zq];omega
 obtain⟨f1,f2,f3,f4,f5,f6⟩:=Og (F:=F) hx h0 hok
 have hg:=Zch (F:=F) ht htd
 have hn0:=Zgn hx h0
 have hK:kkR 24 13*(24+1)^13<2^130:=O8
 have hq:=Gb (L:=13) (R:=24) f2 hg hnn hn0 ht O O3 hK f4
 have hgs:=Gb (L:=13) (R:=24) hg f2 hnn hn0 ht O O3 hK (by rw [Dz];exact f4)
 have hlq:=Po f2 hg f3 f5
 rw [←f4]at hlq
 have lg:=List.length_pos_iff.2 f5
 have lq:=List.length_pos_iff.2 f3
 have mg:=Qn hgs
 have hql:(sqf F xs).length≤xs.length:=O
 have hqd:=Ky hq O
 have hlqd:=Pn (sqf F xs)
 have hc:=Yiv (a:=sqf F xs) (b:=Zr (Yi (sqf F xs))) (n:=n+130+5) (s:=5) (K:=n+141) (f:=F) (by rw [Zq];omega) f2 (Yf (Oh f2)) (hq.mono O) (Kx hqd) (by rw [Zq];omega) O (by rw [Zq];exact Ydd O O O) (Nat.le_trans (Nat.mul_le_mul (show(sqf F xs).length+1≤14 by omega) (show n+130+5+1≤500 by omega)) O3) (by rw [Zq];omega)
 refine⟨⟨⟨fun i _=>Nat.le_trans (Zua hnn O i) O,?_,hok,?_,f1⟩,fun i _=>Nat.le_trans (Zua hq O i) O,hc.1⟩,hq,hql,fun p hp=>?_⟩
 ·intro h
  have h3:(max (Yn xs).length (Yi (Yn xs)).length+2)*(max (Yn xs).length (Yi (Yn xs)).length+2)*(max (Xw (Yn xs)) (Xw (Yi (Yn xs)))+8)≤(xs.length+2)*(xs.length+2)*(n+13):=Nat.mul_le_mul (Nat.mul_le_mul O O) O
  have:=h.2.2
  omega
 ·unfold Ds
  rw [if_neg O]
  split
  ·rfl
  ·have:((Yn xs).length-(Ou F (Yn xs) (Yi (Yn xs))).length+1)*(Xw (Ou F (Yn xs) (Yi (Yn xs)))+1)≤14*500:=Nat.mul_le_mul O O
   rw [if_neg O]
 ·obtain⟨a1,a2⟩:=hc.2 p hp
  refine⟨Nat.le_trans a1 (Nat.mul_le_mul_left _ ?_),O⟩
  rw [Zq];omega
theorem chG{xs:List Int}{n:Nat}(F:Nat)(hx:Tr xs)(h0:xs≠[])(hs:Sz n xs)(hn:n≤350)(hl:xs.length≤11)(hF:xs.length≤F+1) :
  Ct F xs∧Sz (n+130) (sqf F xs)∧(sqf F xs).length≤xs.length∧∀p∈Bt F xs,Xw p≤(n+141)*25∧p.length≤xs.length:=
 chH F hx h0 hs hn O (Nat.le_trans (Nat.mul_le_mul (Nat.mul_le_mul (show _≤13 by omega) (show _≤13 by omega)) (show _≤363 by omega)) O3) hF
theorem Dv.ed{g a:List Int}(h:Dv g a):Ed g a:=by
 obtain⟨k,s,hk,h⟩:=h
 refine⟨k,s,hk,fun x=>?_⟩
 have:=Ft (a:=k) (c:=0) (x:=a) (s:=s) (y:=g) (z:=[]) (fun t=>by rw [h t];omega) x
 push_cast at this;grind
theorem Zkm{xs:List Int}{F:Nat}(hx:Tr xs)(h0:xs≠[])(hC:Ct F xs)(s t:Rat) :
  ∃h:Rat,0<h∧∀u v,s≤u→u≤v→v≤t→v-u≤h→vat ((Bt F xs).map Ze) u-vat ((Bt F xs).map Ze) v=crs (Ze (sqf F xs)) u v:=by
 have hok:=hC.1.2.2.1
 obtain⟨f1,f2,f3,f4,f5,f6⟩:=Og (F:=F) hx h0 hok
 have htp:=Oh f2
 by_cases hd:Yi (sqf F xs)=[]
 ·refine Zi0 (κ:=1) f2 (Yf htp) f3 hC.2.2 O3 (fun x=>?_) fun q hq a b=>?_
  ·rw [←Lr,hd];show(0:Rat)=1*0;grind
  ·exact Zet hx h0 hok hq a (b.sim (Xt htp))
 ·have hpc:0<Yk (Yi (sqf F xs)):=by
   have h1:=El htp hd
   have h2:=Nf (Yi (sqf F xs))
   omega
  refine Zi0 (κ:=(Yk (Yi (sqf F xs)):Rat)) f2 (Yf htp) f3 hC.2.2 (by exact_mod_cast hpc) (fun x=>?_) fun q hq a b=>?_
  ·rw [←Lr,←Zm]
   exact Nz x _ _ fun i=>by rw [Qd,Int.mul_comm,Ir]
  ·exact Zet hx h0 hok hq a (b.sim (Xt htp))
theorem Yh6{p s g q:List Int}(hps:∀x:Rat,Ze p x=Ze s x*Ze g x)(hg:Tr g)(g0:g≠[])(hgd:Ed g (ld p))(hq:Irr q)(hqp:Ed q p):Ed q s:=by
 refine Classical.byContradiction fun hns=>?_
 have hq1:=hq.1
 have hq2:=hq.2.1
 have hqd:¬Ed q (ld q):=fun h=>by
  have h8:Ed q (Yi q):=h.congr fun x=>(Lr q x).symm
  have hl:=Pn q
  have:=(h8.len hq1 (Oh hq1) (fun e=>by rw [e]at hl;simp at hl;omega)).2
  omega
 obtain⟨c1,m1,k1,e1⟩:=hqp
 obtain⟨c2,m,k2,e2⟩:=hgd
 have key:∀k,Ed (Ht q k) g:=fun k=>by
  induction k with
  | zero=>exact⟨1,g,O3,fun x=>by rw [show Ht q 0=[1]from rfl,Pq];push_cast;grind⟩
  | succ k ih=>
   cases k with
   | zero=>
    have h9:Ed q g:=(An (f:=s) (h:=g) (m:=m1) hq k1 (fun x=>by rw [←hps x];exact e1 x)).resolve_left hns
    exact h9.congr_l fun x=>by rw [Gm,show Ht q 0=[1]from rfl,Pq];push_cast;grind
   | succ k=>
    obtain⟨c,u,kc,eu⟩:=ih
    have hd:∀x:Rat,(c:Rat)*Ze (ld g) x=Ze (ld u) x*Ze (Ht q (k+1)) x+Ze u x*(((k:Rat)+1)*(Ze (Ht q k) x*Ze (ld q) x)):=fun x=>by
     have:=Eh (p:=g.map fun a=>c*a) (q:=Pb u (Ht q (k+1))) (fun y=>by rw [Zm,Zt];exact eu y) x
     rwa [Bb,Dl,Znh]at this
    have hp:∀x:Rat,Ze (ld p) x=Ze (ld s) x*Ze g x+Ze s x*Ze (ld g) x:=fun x=>by
     have:=Eh (p:=p) (q:=Pb s g) (fun y=>by rw [Zt];exact hps y) x
     rwa [Dl]at this
    have hz:∀x:Rat,Ze (Mp ((Pb (Pb s u) (ld q)).map fun a=>(c2*((k:Int)+1))*a) ((Pb (Mp ((Pb s (ld u)).map fun a=>c2*a) ((Pb (Mp m ((ld s).map fun a=>(-c2)*a)) u).map fun a=>(-1)*a)) q))) x=0:=fun x=>by
     refine Gq (v:=Ht q k) (fun e=>?_) (fun x=>?_) x
     ·rw [Zac (Ag hq1 hq2 k).1]at e
      have:=(Ag hq1 hq2 k).2
      rw [e]at this;simp at this
     ·rw [Xf,Zm,Zt,Zt,Zt,Xf,Zm,Zt,Zm,Zt,Xf,Zm]
      have a1:=e2 x;have a2:=hp x;have a3:=hd x;have a4:=eu x
      rw [Gm]at a3 a4
      push_cast
      have b1:(c2:Rat)*Ze s x*(c*Ze (ld g) x)=(Ze m x-c2*Ze (ld s) x)*(c*Ze g x):=by
       have:(c2:Rat)*Ze s x*(c*Ze (ld g) x)=c*(c2*(Ze (ld p) x-Ze (ld s) x*Ze g x)):=by rw [a2];grind
       rw [this]
       have:(c:Rat)*(c2*(Ze (ld p) x-Ze (ld s) x*Ze g x))=c*(c2*Ze (ld p) x)-c*c2*Ze (ld s) x*Ze g x:=O4
       rw [this,a1];grind
      rw [a3,a4]at b1
      grind
    have h9:=An (f:=Pb s u) (h:=ld q) (k:=c2*((k:Int)+1)) (m:=Mp ((Pb (Mp m ((ld s).map fun a=>(-c2)*a)) u)) ((Pb s (ld u)).map fun a=>(-c2)*a)) hq (Int.mul_ne_zero k2 O) (fun x=>by
     have:=hz x
     rw [Xf,Zm,Zt,Zt,Zt,Xf,Zm,Zt,Zm,Zt,Xf,Zm]at this
     rw [Zt,Xf,Zt,Xf,Zm,Zm,Zt]
     push_cast at this ⊢
     grind)
    have h8:=An (f:=s) (h:=u) (k:=1) (m:=[]) hq O3
    have h7:Ed q u:=by
     obtain⟨c3,w,k3,e3⟩:=h9.resolve_right hqd
     exact(An (f:=s) (h:=u) (k:=c3) (m:=w) hq k3 (fun x=>by have:=e3 x;rwa [Zt]at this)).resolve_left hns
    obtain⟨c3,w,k3,e3⟩:=h7
    refine⟨c3*c,w,Int.mul_ne_zero k3 kc,fun x=>?_⟩
    have a4:=eu x;have a5:=e3 x
    rw [Gm q (k+1)];push_cast
    have:(c3:Rat)*c*Ze g x=c3*(c*Ze g x):=O4
    rw [this,a4]
    have:(c3:Rat)*(Ze u x*Ze (Ht q (k+1)) x)=(c3*Ze u x)*Ze (Ht q (k+1)) x:=O4
    rw [this,a5];grind
 obtain⟨a1,a2⟩:=Ag hq1 hq2 g.length
 have:=((key g.length).len a1 hg g0).2
 omega
theorem Yhy{r d:Int}(hd:d≠0):Irr [-r,d]:=by
 have ht:Tr [-r,d]:= .inr hd
 refine⟨ht,O5,fun q hq he=>?_⟩
 have:=(he.len hq ht O5).2
 simp at this ⊢;omega
theorem Zia(r d:Int)(x:Rat):Ze [-r,d] x=(d:Rat)*x-r:=by
 show((-r:Int):Rat)+x*((d:Rat)+x*0)=_;push_cast;grind
theorem Yg0{p:List Int}{r d:Int}(hp:Tr p)(hd:d≠0)(h:Ze p ((r:Rat)/d)=0):Ed [-r,d] p:=by
 have hd':(d:Rat)≠0:=by exact_mod_cast hd
 have ht:Tr [-r,d]:= .inr hd
 obtain⟨k,s,hs⟩:=Ei p (q:=[-r,d]) O5
 have hL:=Nh (ht.mem O5) k
 generalize cf [-r,d] ([-r,d].length-1)^k=L at hs hL
 have he:∀x,(L:Rat)*Ze p x=Ze s x*Ze [-r,d] x+Ze (Xm p [-r,d]) x:=fun x=>by
  have:=Ft (a:=L) (c:=-1) (x:=p) (s:=s) (y:=[-r,d]) (z:=Xm p [-r,d]) (fun t=>by rw [hs t];omega) x
  push_cast at this;grind
 have hl:=Qr p (q:=[-r,d]) O5
 have hz:∀x,Ze (Xm p [-r,d]) x=0:=fun x=>by
  have h1:=he ((r:Rat)/d)
  rw [h,Zia]at h1
  match hr:Xm p [-r,d],hl with
  | [],_=>rfl
  | [c],_=>
   rw [hr,Pq]at h1
   rw [Pq]
   have:(d:Rat)*(r/d)=r:=O4
   rw [this]at h1;grind
 exact⟨L,s,hL,fun x=>by rw [he x,hz x];grind⟩
theorem Ed.root{p:List Int}{r d:Int}(hd:d≠0)(h:Ed [-r,d] p):Ze p ((r:Rat)/d)=0:=by
 obtain⟨k,s,hk,h⟩:=h
 have hd':(d:Rat)≠0:=by exact_mod_cast hd
 have hk':(k:Rat)≠0:=by exact_mod_cast hk
 have h1:=h ((r:Rat)/d)
 rw [Zia]at h1
 have:(d:Rat)*(r/d)=r:=O4
 rw [this]at h1;grind
theorem Ybd{xs:List Int}{F:Nat}(hx:Tr xs)(h0:xs≠[])(hok:eok F (gA (Yn xs) (Yi (Yn xs))) (gB (Yn xs) (Yi (Yn xs)))){r d:Int}(hd:d≠0)(h:Ze xs ((r:Rat)/d)=0):Ze (sqf F xs) ((r:Rat)/d)=0:=by
 obtain⟨f1,f2,f3,f4,f5,f6⟩:=Og (F:=F) hx h0 hok
 have hs:Tr (Yn xs):=On (Yf hx)
 have hd':Tr (Yi (Yn xs)):=Oh hs
 have h1:Ed [-r,d] (Yn xs):=(Yg0 hx hd h).sim ((Xt hx).symm.trans (Kp _).symm)
 have h2:∀x:Rat,Ze (Yn xs) x=Ze (sqf F xs) x*Ze (Ou F (Yn xs) (Yi (Yn xs))) x:=fun x=>by
  have:Ze (Yn xs) x=Ze (Xq (sqf F xs) (Ou F (Yn xs) (Yi (Yn xs)))) x:=by rw [←f4]
  rw [this,Zz]
 have h3:Ed (Ou F (Yn xs) (Yi (Yn xs))) (ld (Yn xs)):=((Zcw hs hd' hok).2.ed).congr fun x=>Lr _ x
 exact(Yh6 h2 (Zch hs hd') f5 h3 (Yhy hd) h1).root hd
def Away(s t:Rat)(f:Rat→Rat):Prop:=∃δ:Rat,0<δ∧∀x,s≤x→x≤t→δ≤f x∨f x≤-δ
theorem Away.mul{s t:Rat}{f g h:Rat→Rat}(hf:Away s t f)(hg:Away s t g)(e:∀x,h x=f x*g x):Away s t h:=by
 obtain⟨a,a1,a2⟩:=hf
 obtain⟨b,b1,b2⟩:=hg
 refine⟨a*b,Rat.mul_pos a1 b1,fun x h1 h2=>?_⟩
 rw [e x]
 rcases a2 x h1 h2 with h3 | h3<;>rcases b2 x h1 h2 with h4 | h4
 ·left;have:=Rat.mul_nonneg (a:=f x-a) (b:=g x) O4 O4;have:=Rat.mul_nonneg (a:=a) (b:=g x-b) O4 O4;grind
 ·right;have:=Rat.mul_nonneg (a:=f x-a) (b:=- g x) O4 O4;have:=Rat.mul_nonneg (a:=a) (b:=- g x-b) O4 O4;grind
 ·right;have:=Rat.mul_nonneg (a:=- f x-a) (b:=g x) O4 O4;have:=Rat.mul_nonneg (a:=a) (b:=g x-b) O4 O4;grind
 ·left;have:=Rat.mul_nonneg (a:=- f x-a) (b:=- g x) O4 O4;have:=Rat.mul_nonneg (a:=a) (b:=- g x-b) O4 O4;grind
theorem Away.lin{s t:Rat}{r d:Int}(hd:0<d)(h:(r:Rat)<d*s∨(d:Rat)*t<r):Away s t (Ze [-r,d]):=by
 have hd':(0:Rat)<(d:Rat):=by exact_mod_cast hd
 rcases h with h | h
 ·refine⟨d*s-r,O4,fun x h1 h2=> .inl ?_⟩
  rw [Zia];have:=Rat.mul_nonneg (a:=(d:Rat)) (b:=x-s) O4 O4;grind
 ·refine⟨r-d*t,O4,fun x h1 h2=> .inr ?_⟩
  rw [Zia];have:=Rat.mul_nonneg (a:=(d:Rat)) (b:=t-x) O4 O4;grind
theorem Away.sq(s t:Rat):Away s t (Ze [1,0,1]):=⟨1,O3,fun x _ _=>by
 left
 show(1:Rat)≤((1:Int):Rat)+x*(((0:Int):Rat)+x*(((1:Int):Rat)+x*0))
 have:0≤x*x:=by
  rcases(show 0≤x∨x<0 by grind)with h | h
  ·exact Rat.mul_nonneg h h
  ·have:=Rat.mul_nonneg (a:=-x) (b:=-x) O4 O4;grind
 push_cast;grind⟩
theorem Away.one(s t:Rat):Away s t (Ze [1]):=⟨1,O3,fun x _ _=>by left;rw [Pq];exact Rat.le_refl⟩
def cntP(P:Int→Prop)[DecidablePred P](m:Int):Nat→Int
 | 0=>0
 | n+1=>cntP P m n+(if P (m+n+1)then 1 else 0)
def eB(K C:Nat):Nat→Nat
 | 0=>0
 | n+1=>C+K*eB K C n
def eL(K C:Nat):Nat→Nat
 | 0=>0
 | n+1=>K*eL K C n+eB K C n
def eM(K C:Nat):Nat→Nat
 | 0=>0
 | n+1=>eL K C n+K*eM K C n
theorem Hj{a b:Nat}(h:a≤b):(a:Rat)≤(b:Rat):=by exact_mod_cast h
theorem Yfg{c:Int}{C:Nat}(h:c.natAbs≤C):-(C:Rat)≤(c:Rat)∧(c:Rat)≤(C:Rat):=by
 have h1:((-(C:Int):Int):Rat)≤(c:Rat):=by exact_mod_cast (show -(C:Int)≤c by omega)
 have h2:(c:Rat)≤(((C:Nat):Int):Rat):=by exact_mod_cast (show c≤(C:Int) by omega)
 push_cast at h1 h2
 constructor<;>grind
theorem Zo3{c:Int}{p:List Int}{C:Nat}(h:∀i,(cf (c :: p) i).natAbs≤C):c.natAbs≤C∧∀i,(cf p i).natAbs≤C:=⟨h 0,fun i=>h (i+1)⟩
theorem Znd{K C:Nat} : ∀(n:Nat) (p:List Int),p.length≤n→(∀i,(cf p i).natAbs≤C)→∀x:Rat,-(K:Rat)≤x→x≤(K:Rat)→-(eB K C n:Rat)≤Ze p x∧Ze p x≤(eB K C n:Rat)
 | n,[],_,_,x,_,_=>by
  have h:(0:Rat)≤(eB K C n:Rat):=Hj (Nat.zero_le _)
  show -(eB K C n:Rat)≤0∧(0:Rat)≤(eB K C n:Rat)
  constructor<;>grind
 | 0,c :: p,hl,_,_,_,_=>absurd hl O5
 | n+1,c :: p,hl,hc,x,h1,h2=>by
  obtain⟨hc0,hc1⟩:=Zo3 hc
  obtain⟨a1,a2⟩:=Znd n p (by simpa using hl) hc1 x h1 h2
  obtain⟨b1,b2⟩:=Yfg hc0
  have hK:(0:Rat)≤(K:Rat):=Hj (Nat.zero_le _)
  obtain⟨f1,f2⟩:=Za8 h1 h2 a1 a2 hK
  have e:((eB K C (n+1):Nat):Rat)=(C:Rat)+(K:Rat)*(eB K C n:Rat):=by show((C+K*eB K C n:Nat):Rat)=_;push_cast;rfl
  rw [e,show Ze (c :: p) x=(c:Rat)+x*Ze p x from rfl]
  constructor<;>grind
theorem Znc{K C:Nat} : ∀(n:Nat) (p:List Int),p.length≤n→(∀i,(cf p i).natAbs≤C)→Lip (-(K:Rat)) (K:Rat) (eL K C n:Rat) (Ze p)
 | n,[],_,_,x,y,_,hxy,_=>by
  have h:(0:Rat)≤(eL K C n:Rat):=Hj (Nat.zero_le _)
  have:=Rat.mul_nonneg (a:=(eL K C n:Rat)) (b:=y-x) h O4
  show(0:Rat)-0≤_∧(0:Rat)-0≤_
  constructor<;>grind
 | 0,c :: p,hl,_,_,_,_,_,_=>absurd hl O5
 | n+1,c :: p,hl,hc,x,y,h1,hxy,h2=>by
  obtain⟨hc0,hc1⟩:=Zo3 hc
  obtain⟨a1,a2⟩:=Znc n p (by simpa using hl) hc1 x y h1 hxy h2
  obtain⟨b1,b2⟩:=Znd n p (by simpa using hl) hc1 y O4 h2
  have hK:(0:Rat)≤(K:Rat):=Hj (Nat.zero_le _)
  obtain⟨f1,f2⟩:=Za8 (q:=x) (g:=Ze p x-Ze p y) (e:=(eL K C n:Rat)*(y-x)) h1 O4 O4 O4 hK
  have g1:=Rat.mul_nonneg (a:=(eB K C n:Rat)-Ze p y) (b:=y-x) O4 O4
  have g2:=Rat.mul_nonneg (a:=(eB K C n:Rat)+Ze p y) (b:=y-x) O4 O4
  have e:((eL K C (n+1):Nat):Rat)=(K:Rat)*(eL K C n:Rat)+(eB K C n:Rat):=by show((K*eL K C n+eB K C n:Nat):Rat)=_;push_cast;rfl
  rw [e,show Ze (c :: p) x=(c:Rat)+x*Ze p x from rfl,show Ze (c :: p) y=(c:Rat)+y*Ze p y from rfl]
  constructor<;>grind
theorem Yb5{K C:Nat} : ∀(n:Nat) (p:List Int),p.length≤n→(∀i,(cf p i).natAbs≤C)→Tay (-(K:Rat)) (K:Rat) (eM K C n:Rat) p
 | n,[],_,_,x,y,_,hxy,_=>by
  have h:(0:Rat)≤(eM K C n:Rat):=Hj (Nat.zero_le _)
  have h1:=Rat.mul_nonneg (a:=y-x) (b:=y-x) O4 O4
  have:=Rat.mul_nonneg h h1
  show -((eM K C n:Rat)*(y-x)*(y-x))≤(0:Rat)-0-(y-x)*0∧(0:Rat)-0-(y-x)*0≤(eM K C n:Rat)*(y-x)*(y-x)
  constructor<;>grind
 | 0,c :: p,hl,_,_,_,_,_,_=>absurd hl O5
 | n+1,c :: p,hl,hc,x,y,hs,hxy,ht=>by
  obtain⟨hc0,hc1⟩:=Zo3 hc
  obtain⟨a1,a2⟩:=Yb5 n p (by simpa using hl) hc1 x y hs hxy ht
  obtain⟨b1,b2⟩:=Znc n p (by simpa using hl) hc1 x y hs hxy ht
  have hK:(0:Rat)≤(K:Rat):=Hj (Nat.zero_le _)
  have hd:0≤y-x:=O4
  obtain⟨f1,f2⟩:=Za8 (q:=x) (Q:=(K:Rat)) (g:=Ze p y-Ze p x-(y-x)*Ze (ld p) x) (e:=(eM K C n:Rat)*(y-x)*(y-x)) hs O4 a1 a2 hK
  have g1:=Rat.mul_nonneg (a:=y-x) (b:=(eL K C n:Rat)*(y-x)-(Ze p y-Ze p x)) hd O4
  have g2:=Rat.mul_nonneg (a:=y-x) (b:=(eL K C n:Rat)*(y-x)+(Ze p y-Ze p x)) hd O4
  have e:((eM K C (n+1):Nat):Rat)=(eL K C n:Rat)+(K:Rat)*(eM K C n:Rat):=by show((eL K C n+K*eM K C n:Nat):Rat)=_;push_cast;rfl
  rw [e,Ze2,show Ze (c :: p) y=(c:Rat)+y*Ze p y from rfl,show Ze (c :: p) x=(c:Rat)+x*Ze p x from rfl]
  constructor<;>grind
theorem Zue{a b:List Int}{A:Nat}(ha:Tr a)(hb:Tr b)(la:2≤a.length)(lb:b.length+1=a.length)(hA:0<A)(na:∀i,(cf a i).natAbs≤A)(nb:∀i,(cf b i).natAbs≤A)(hc:∀q,Tr q→Ed q a→Ed q b→q.length≤1) :
  ∃(U V:List Int) (c:Int),c≠0∧U.length+2=a.length∧V.length+1=a.length∧(∀i,(cf U i).natAbs≤(2*(2*a.length-3)*A)^(2*a.length-4))∧(∀i,(cf V i).natAbs≤(2*(2*a.length-3)*A)^(2*a.length-4))∧
   ∀x,(c:Rat)=Ze U x*Ze a x+Ze V x*Ze b x:=by
 obtain⟨U,V,lU,lV,hne,bU,bV,hz⟩:=Zg8 (a:=a) (b:=b) (p:=a.length-2) (q:=a.length-1) (lo:=1) hA na nb O O O
 have hne2:¬(tzl U=[]∧tzl V=[]):=fun⟨h1,h2⟩=>by
  rcases hne with⟨i,hi⟩ | ⟨i,hi⟩
  ·exact hi ((Ld U).1 h1 i)
  ·exact hi ((Ld V).1 h2 i)
 clear hne
 rw [show a.length-2+(a.length-1)=2*a.length-3 by omega]at bU bV
 rw [show 2*a.length-3-1=2*a.length-4 by omega]at bU bV
 have ha0:a≠[]:=fun e=>by rw [e]at la;simp at la
 have cR:∀i,cf (Mp (Pb U a) (Pb V b)) i=(ps U*ps a).c i+(ps V*ps b).c i:=fun i=>by
  rw [Lv,Gw,Gw,PS.mul_c,PS.mul_c];rfl
 have rR:∀t,Ze (Mp (Pb U a) (Pb V b)) t=Ze U t*Ze a t+Ze V t*Ze b t:=fun t=>by rw [Xf,Zt,Zt]
 generalize Mp (Pb U a) (Pb V b)=R at cR rR
 have hR:∀t,Ze R t=(cf R 0:Rat):=fun t=>by
  rw [←Pq (cf R 0) t]
  refine Nz t _ _ fun i=>?_
  match i with
  | 0=>rfl
  | i+1=>rw [cR,hz (i+1) O,Yb O5]
 refine⟨U,V,cf R 0,fun h0=>?_,O,O,bU,bV,fun x=>by rw [←rR,hR]⟩
 have hz0:∀t,Ze U t*Ze a t+Ze V t*Ze b t=0:=fun t=>by rw [←rR,hR,h0];rfl
 obtain⟨g,P,Q,g1,g2,g3,g4⟩:=Zkv _ a b ha hb (Nat.le_refl _)
 have hl:=hc g g1 g2 g3
 have hg:=(g2.len g1 ha ha0).1
 have hV:tzl V=[]:=by
  refine Classical.byContradiction fun hV=>?_
  match g,hg,hl,g1,g4 with
  | [c],_,_,g1,g4=>
   have hc0:c≠0:=g1.mem O5
   have hd:Ed a (tzl V):=⟨c,Mp (Pb P V) ((Pb Q U).map fun z=>(-1)*z),hc0,fun x=>by
    have h4:=g4 x
    rw [Pq]at h4
    rw [Mf,Xf,Zm,Zt,Zt,h4]
    have:=hz0 x
    have e:Ze V x*Ze b x=- (Ze U x*Ze a x):=O4
    have:(Ze P x*Ze a x+Ze Q x*Ze b x)*Ze V x=Ze P x*Ze V x*Ze a x+Ze Q x*(Ze V x*Ze b x):=O4
    rw [this,e];push_cast;grind⟩
   have:=(hd.len ha (Pk V) hV).2
   have:=La V
   omega
  | c :: d :: r,_,h9,_,_=>simp at h9
 have hU:tzl U=[]:=by
  refine Classical.byContradiction fun hU=>?_
  have:∀t,Ze a t=0:=Gq (v:=U) hU fun t=>by
   have:=hz0 t
   rw [Ba hV]at this
   grind
  exact ha.mem ha0 (Zvl this _)
 exact hne2 ⟨hU,hV⟩
def Zvg(K A n e:Nat):Bool:=
 let X:=(2*(2*n-3)*A)^(2*n-4)
 let W:=eB K X (n-1)
 Nat.ble (2*(2*W+1)*(2*eL K A n)) (2^e) && Nat.ble (2*(2*W+1)*eM K A n) (2^e)
theorem big_or {a b:List Int} {K A n e:Nat} (hK:0<K) (hA:0<A) (ha:Tr a) (hb:Tr b) (hn:a.length=n) (h2:2≤n) (lb:b.length+1=a.length) (na:∀i,(cf a i).natAbs≤A) (nb:∀i,(cf b i).natAbs≤A) (hc:∀q,Tr q→Ed q a→Ed q b→q.length≤1)
  (x:Rat) (h1:-(K:Rat)≤x) (h3:x≤(K:Rat)):Big (1/((2*eB K ((2*(2*n-3)*A)^(2*n-4)) (n-1)+1:Nat):Rat)) x (Ze a)∨Big (1/((2*eB K ((2*(2*n-3)*A)^(2*n-4)) (n-1)+1:Nat):Rat)) x (Ze b):=by
 obtain⟨U,V,c,c0,lU,lV,bU,bV,hid⟩:=Zue ha hb O lb hA na nb hc
 rw [hn]at bU bV
 generalize (2*(2*n-3)*A)^(2*n-4)=X at *
 obtain⟨u1,u2⟩:=Znd (n-1) U O bU x h1 h3
 obtain⟨v1,v2⟩:=Znd (n-1) V O bV x h1 h3
 generalize eB K X (n-1)=W at *
 have hW:(0:Rat)≤(W:Rat):=Hj (Nat.zero_le _)
 have hD:(0:Rat)<((2*W+1:Nat):Rat):=by
   have:(((0:Nat)):Rat)<((2*W+1:Nat):Rat):=by exact_mod_cast Nat.succ_pos _
   exact this
 have hDe:((2*W+1:Nat):Rat)=2*(W:Rat)+1:=by push_cast;rfl
 generalize hε:1/((2*W+1:Nat):Rat)=ε
 have hε2:ε*(2*(W:Rat)+1)=1:=by rw [←hε,hDe];rw [hDe]at hD;grind
 have hε0:0≤ε:=by
  rw [←hε]
  have:=Rat.inv_pos.2 hD
  rw [Rat.div_def];grind
 by_cases p1:Big ε x (Ze a)
 ·exact .inl p1
 ·by_cases p2:Big ε x (Ze b)
  ·exact .inr p2
  ·exfalso
   obtain⟨a1,a2⟩:=Zcz p1
   obtain⟨b1,b2⟩:=Zcz p2
   obtain⟨q1,q2⟩:=Za8 u1 u2 a1 a2 hW
   obtain⟨r1,r2⟩:=Za8 v1 v2 b1 b2 hW
   have h4:=hid x
   have h5:(c:Rat)≤-1∨1≤(c:Rat):=by
    rcases Int.lt_or_gt_of_ne c0 with h | h
    ·left;have:((c:Int):Rat)≤((-1:Int):Rat):=by exact_mod_cast (show c≤-1 by omega)
     rwa [show(((-1:Int)):Rat)=-1 from rfl]at this
    ·right;have:1≤c:=O
     exact_mod_cast this
   have hεp:0<ε:=by
    rcases(show ε=0∨0<ε by grind)with h | h
    ·rw [h]at hε2;grind
    ·exact h
   rcases h5 with h5 | h5<;>grind
theorem two_pow_pos(e:Nat):(0:Rat)<((2^e:Nat):Rat):=by
 have:0<2^e:=Nat.pow_pos O3
 exact_mod_cast this
theorem Yi6 {xs:List Int} {F K A n e:Nat} (hx:Tr xs) (h0:xs≠[]) (hC:Ct F xs) (hK:0<K) (hA:0<A) (hn:(sqf F xs).length=n) (h2:2≤n) (na:∀i,(cf (sqf F xs) i).natAbs≤A) (nb:∀i,(cf (Yi (sqf F xs)) i).natAbs≤A) (hs:Zvg K A n e=true)
  {u v:Rat} (h1:-(K:Rat)≤u) (huv:u≤v) (h3:v≤(K:Rat)) (hh:v-u≤1/((2^e:Nat):Rat)) :
  vat ((Bt F xs).map Ze) u-vat ((Bt F xs).map Ze) v=crs (Ze (sqf F xs)) u v:=by
 have hok:=hC.1.2.2.1
 obtain⟨f1,f2,f3,f4,f5,f6⟩:=Og (F:=F) hx h0 hok
 have htp:=Oh f2
 have hlp:=Pn (sqf F xs)
 have hd:Yi (sqf F xs)≠[]:=fun e=>by rw [e]at hlp;simp at hlp;omega
 have hpc:1≤Yk (Yi (sqf F xs)):=by
  have h1:=El htp hd
  have h2:=Nf (Yi (sqf F xs))
  omega
 have hpc':(1:Rat)≤(Yk (Yi (sqf F xs)):Rat):=by exact_mod_cast hpc
 have nbp:∀i,(cf (Zr (Yi (sqf F xs))) i).natAbs≤A:=fun i=>by
  have h5:=Ir (Yi (sqf F xs)) i
  have h6:=nb i
  rw [←h5,Int.natAbs_mul]at h6
  have:(cf (Zr (Yi (sqf F xs))) i).natAbs*1≤(cf (Zr (Yi (sqf F xs))) i).natAbs*(Yk (Yi (sqf F xs))).natAbs:=Nat.mul_le_mul_left _ O
  omega
 have hcop:∀q,Tr q→Ed q (sqf F xs)→Ed q (Zr (Yi (sqf F xs)))→q.length≤1:=fun q hq a b=>Zet hx h0 hok hq a (b.sim (Xt htp))
 have hlb:(Zr (Yi (sqf F xs))).length+1=(sqf F xs).length:=by rw [Zq];omega
 have hbig:=big_or (e:=e) hK hA f2 (Yf htp) hn h2 hlb na nbp hcop
 unfold Zvg at hs
 simp only [Bool.and_eq_true,Nat.ble_eq]at hs
 obtain⟨s1,s2⟩:=hs
 generalize (2*(2*n-3)*A)^(2*n-4)=X at *
 generalize eB K X (n-1)=W at *
 have hD:(0:Rat)<((2*W+1:Nat):Rat):=by
   have:(((0:Nat)):Rat)<((2*W+1:Nat):Rat):=by exact_mod_cast Nat.succ_pos _
   exact this
 have hP:=two_pow_pos e
 have s1':=Hj s1
 have s2':=Hj s2
 have c1:((2*(2*W+1)*(2*eL K A n):Nat):Rat)=2*((2*W+1:Nat):Rat)*(2*(eL K A n:Rat)):=by push_cast;rfl
 have c2:((2*(2*W+1)*eM K A n:Nat):Rat)=2*((2*W+1:Nat):Rat)*(eM K A n:Rat):=by push_cast;rfl
 rw [c1]at s1'
 rw [c2]at s2'
 have hi:=Rat.inv_pos.2 hD
 have hj:=Rat.inv_pos.2 hP
 have hii:((2*W+1:Nat):Rat)*((2*W+1:Nat):Rat)⁻¹=1:=O4
 have hjj:((2^e:Nat):Rat)*((2^e:Nat):Rat)⁻¹=1:=O4
 rw [Rat.div_def,Rat.one_mul]at hh
 simp only [Rat.div_def,Rat.one_mul]at hbig
 generalize ((2*W+1:Nat):Rat)=D at *
 generalize ((2^e:Nat):Rat)=P at *
 have hLn:(0:Rat)≤(eL K A n:Rat):=Hj (Nat.zero_le _)
 have hMn:(0:Rat)≤(eM K A n:Rat):=Hj (Nat.zero_le _)
 refine Zg6 (s:=-(K:Rat)) (t:=(K:Rat)) (κ:=(Yk (Yi (sqf F xs)):Rat)) (ε:=D⁻¹) (L:=(eL K A n:Rat)) (L':=(eL K A n:Rat)) (M:=(eM K A n:Rat)) (h:=P⁻¹) f2 (Yf htp) hC.2.2 O4 (fun x=>?_) hi hbig hLn (Znc n _ O na) hLn (Znc n _ O nbp) hMn (Yb5 n _ O na) hj ?_ ?_ h1 huv h3 hh
 ·rw [←Lr,←Zm]
  exact Nz x _ _ fun i=>by rw [Qd,Int.mul_comm,Ir]
 ·-- P⁻¹ * (2 L) ≤ D⁻¹ / 2
  have t1:=Rat.mul_nonneg (a:=P⁻¹*D⁻¹) (b:=P-2*D*(2*(eL K A n:Rat))) (by have:=Rat.mul_pos hj hi;grind) O4
  have e1:P⁻¹*D⁻¹*(P-2*D*(2*(eL K A n:Rat)))=D⁻¹*(P*P⁻¹)-2*P⁻¹*(D*D⁻¹)*(2*(eL K A n:Rat)):=O4
  rw [e1,hii,hjj]at t1
  grind
 ·have t1:=Rat.mul_nonneg (a:=P⁻¹*D⁻¹) (b:=P-2*D*(eM K A n:Rat)) (by have:=Rat.mul_pos hj hi;grind) O4
  have e1:P⁻¹*D⁻¹*(P-2*D*(eM K A n:Rat))=D⁻¹*(P*P⁻¹)-2*P⁻¹*(D*D⁻¹)*(eM K A n:Rat):=O4
  rw [e1,hii,hjj]at t1
  have t2:=Rat.mul_nonneg (a:=(Yk (Yi (sqf F xs)):Rat)-1) (b:=D⁻¹) O4 O4
  grind
theorem Zkn{xs:List Int}{F:Nat}(hx:Tr xs)(h0:xs≠[])(hC:Ct F xs){s t:Rat}(hst:s≤t):vat ((Bt F xs).map Ze) t≤vat ((Bt F xs).map Ze) s:=by
 obtain⟨h,h1,h2⟩:=Zkm hx h0 hC s t
 have hc:∀f u v,0≤crs f u v:=fun f u v=>by unfold crs;split<;>decide
 have key:∀n:Nat,∀y,s≤y→y≤t→y-s≤(n:Rat)*h→vat ((Bt F xs).map Ze) y≤vat ((Bt F xs).map Ze) s:=fun n=>by
  induction n with
  | zero=>
    intro y h3 h4 h5;have:y=s:=by simp at h5;grind
    rw [this];exact Int.le_refl _
  | succ n ih=>
   intro y h3 h4 h5
   have h6:((n+1:Nat):Rat)*h=(n:Rat)*h+h:=by push_cast;grind
   rcases(show y-s≤(n:Rat)*h∨(n:Rat)*h<y-s by grind)with h7 | h7
   ·exact ih y h3 h4 h7
   ·have h8:(0:Rat)≤(n:Rat)*h:=Rat.mul_nonneg (by exact_mod_cast Nat.zero_le n) O4
    rcases(show s≤y-h∨y-h<s by grind)with h9 | h9
    ·have a:=ih (y-h) h9 O4 O4
     have b:=h2 (y-h) y h9 O4 h4 O4
     have c:=hc (Ze (sqf F xs)) (y-h) y
     omega
    ·have b:=h2 s y O4 h3 h4 O4
     have c:=hc (Ze (sqf F xs)) s y
     omega
 have h3:∃n:Nat,t-s≤(n:Rat)*h:=by
  have h4:0<h⁻¹:=Rat.inv_pos.2 h1
  refine⟨((t-s)*h⁻¹).ceil.toNat,?_⟩
  have h5:=@Rat.le_ceil ((t-s)*h⁻¹)
  have h6:((((t-s)*h⁻¹).ceil:Int):Rat)≤((((t-s)*h⁻¹).ceil.toNat:Nat):Rat):=by
   have:((t-s)*h⁻¹).ceil≤((((t-s)*h⁻¹).ceil.toNat:Nat):Int):=Int.self_le_toNat _
   exact_mod_cast this
  have h7:=Rat.mul_le_mul_of_nonneg_right (Rat.le_trans h5 h6) (show 0≤h by grind)
  have h8:(t-s)*h⁻¹*h=t-s:=O4
  grind
 obtain⟨n,hn⟩:=h3
 exact key n t hst O4 hn
def qv(z:R2):Rat:=(z.1:Rat)/(z.2:Rat)
theorem Zr4{x y X Y g:Nat}(hg:g=Nat.gcd x y)(hy:0<y)(hY:0<Y)(h:x*Y=X*y):y/g∣Y∧x/g≤X:=by
 have hg0:0<g:=by rw [hg];exact Nat.gcd_pos_of_pos_right _ hy
 have hc:Nat.Coprime (x/g) (y/g):=by rw [hg];exact Nat.coprime_div_gcd_div_gcd (by rw [←hg];exact hg0)
 have hx':x/g*g=x:=Nat.div_mul_cancel (by rw [hg];exact Nat.gcd_dvd_left _ _)
 have hy':y/g*g=y:=Nat.div_mul_cancel (by rw [hg];exact Nat.gcd_dvd_right _ _)
 have h2:x/g*Y=X*(y/g):=by
  refine Nat.eq_of_mul_eq_mul_right hg0 ?_
  have e1:x/g*Y*g=x/g*g*Y:=O4
  have e2:X*(y/g)*g=X*(y/g*g):=O4
  rw [e1,e2,hx',hy',h]
 have hd:y/g∣Y:=hc.symm.dvd_of_dvd_mul_left (by rw [h2];exact Nat.dvd_mul_left _ _)
 refine⟨hd,?_⟩
 obtain⟨k,hk⟩:=hd
 have hk0:0<k:=Nat.pos_of_ne_zero fun e=>by rw [e,Nat.mul_zero]at hk;omega
 have hyg:0<y/g:=Nat.pos_of_ne_zero fun e=>by rw [e,Nat.zero_mul]at hy';omega
 rw [hk]at h2
 have h3:x/g*k=X:=by
  refine Nat.eq_of_mul_eq_mul_right hyg ?_
  have:x/g*k*(y/g)=x/g*(y/g*k):=O4
  rw [this,h2]
 rw [←h3]
 exact Nat.le_mul_of_pos_right _ hk0
theorem Zn7{x y X Y:Int}(hy:0<y)(hY:0<Y)(h:x*Y=X*y){B:Nat}(hX:bl X.natAbs≤B)(hYb:bl Y.natAbs≤B)(hB:B≤65536) :
  ¬Lg x y∧Gn x y∣Y∧0<Gn x y∧bl (Fh x y).natAbs≤B∧bl (Gn x y).natAbs≤B∧Fh x y*y=x*Gn x y:=by
 have hg:Pa x y=(Nat.gcd x.natAbs y.natAbs:Int):=by rw [Zwm O];rfl
 have hn:x.natAbs*Y.natAbs=X.natAbs*y.natAbs:=by rw [←Int.natAbs_mul,←Int.natAbs_mul,h]
 obtain⟨d1,d2⟩:=Zr4 (g:=Nat.gcd x.natAbs y.natAbs) rfl (by omega:0<y.natAbs) (by omega:0<Y.natAbs) hn
 have e1:(y/Pa x y).natAbs=y.natAbs/Nat.gcd x.natAbs y.natAbs:=by
  rw [Int.natAbs_ediv_of_dvd (Zj0 x y),Am]
 have e2:(x/Pa x y).natAbs=x.natAbs/Nat.gcd x.natAbs y.natAbs:=by
  rw [Int.natAbs_ediv_of_dvd (Zq9 x y),Am]
 have b1:bl (y/Pa x y).natAbs≤B:=Nat.le_trans (Od (by rw [e1];exact Nat.le_of_dvd O d1)) hYb
 have b2:bl (x/Pa x y).natAbs≤B:=Nat.le_trans (Od (by rw [e2];exact d2)) hX
 have hf:¬Lg x y:=fun h=>by unfold Lg at h;omega
 obtain⟨n1,n2,-⟩:=Co hf
 refine⟨hf,?_,Ztl hf hy,by rw [n1];exact b2,by rw [n2];exact b1,?_⟩
 ·rw [n2]
  refine Int.natAbs_dvd_natAbs.1 ?_
  rw [e1];exact d1
 ·rw [n1,n2];exact Yd8 x y
structure En (K Q:Nat) (d:Nat) (z:R2):Prop where
 pos:0<z.2
 dv:z.2∣((Q*2^d:Nat):Int)
 lo:-(K:Rat)≤qv z
 hi:qv z≤(K:Rat)
theorem En.up{K Q d:Nat}{z:R2}(h:En K Q d z):En K Q (d+1) z:=by
 obtain⟨h1,h2,h3,h4⟩:=h
 refine⟨h1,?_,h3,h4⟩
 have:((Q*2^(d+1):Nat):Int)=((Q*2^d:Nat):Int)*2:=by rw [Nat.pow_succ];push_cast;grind
 rw [this];exact Int.dvd_trans h2 (Int.dvd_mul_right _ _)
theorem canc{N p s Y X D:Int}(hp:p≠0)(h1:N*p=s*D)(h2:s*Y=X*p):N*Y=X*D:=by
 refine Int.eq_of_mul_eq_mul_right hp ?_
 have e1:N*Y*p=(N*p)*Y:=O4
 have e2:X*D*p=(X*p)*D:=O4
 rw [e1,e2,h1,←h2];grind
theorem Iq{z:Int}(h:0<z):(0:Rat)<(z:Rat):=by exact_mod_cast h
theorem Zcb{n m:Nat}(h:n<2^m):bl n≤m:=(Xn m n).2 h
theorem mid_en{K Q d B:Nat}{a b:R2}(ha:En K Q d a)(hb:En K Q d b)(hQ:0<Q)(hB1:Q*2^(d+1)<2^B)(hB2:2*K*(Q*2^d)<2^B)(hB:B≤65536) :
  Zdo a b∧En K Q (d+1) (Pr a b)∧qv (Pr a b)=(qv a+qv b)/2∧bl (Pr a b).1.natAbs≤B∧bl (Pr a b).2.natAbs≤B:=by
 obtain⟨pa,⟨ka,da⟩,la,ua⟩:=ha
 obtain⟨pb,⟨kb,db⟩,lb,ub⟩:=hb
 generalize hY:((Q*2^d:Nat):Int)=Y at *
 have hQd:0<Q*2^d:=Nat.mul_pos hQ (Nat.pow_pos O3)
 have hY0:0<Y:=by rw [←hY];exact_mod_cast hQd
 have rpa:=Iq pa
 have rpb:=Iq pb
 have rY:=Iq hY0
 have hpp:0<a.2*b.2:=Int.mul_pos pa pb
 have hsum:(a.1*b.2+b.1*a.2)*Y=(a.1*ka+b.1*kb)*(a.2*b.2):=by
  have e1:(a.1*ka+b.1*kb)*(a.2*b.2)=a.1*b.2*(a.2*ka)+b.1*a.2*(b.2*kb):=O4
  rw [e1,←da,←db];grind
 have hqa:(a.1:Rat)*ka=qv a*Y:=by
  unfold qv;have:(Y:Rat)=(a.2:Rat)*ka:=by rw [da];push_cast;rfl
  rw [this];grind
 have hqb:(b.1:Rat)*kb=qv b*Y:=by
  unfold qv;have:(Y:Rat)=(b.2:Rat)*kb:=by rw [db];push_cast;rfl
  rw [this];grind
 have hX:((a.1*ka+b.1*kb:Int):Rat)=(qv a+qv b)*Y:=by push_cast;rw [hqa,hqb];grind
 have hXb:(a.1*ka+b.1*kb).natAbs≤2*K*(Q*2^d):=by
  have hKn:((2*K*(Q*2^d):Nat):Rat)=2*(K:Rat)*(Y:Rat):=by rw [←hY];push_cast;grind
  have t1:=Rat.mul_nonneg (a:=2*(K:Rat)-(qv a+qv b)) (b:=(Y:Rat)) O4 O4
  have t2:=Rat.mul_nonneg (a:=2*(K:Rat)+(qv a+qv b)) (b:=(Y:Rat)) O4 O4
  have u1:((a.1*ka+b.1*kb:Int):Rat)≤(((2*K*(Q*2^d):Nat):Int):Rat):=by rw [hX];push_cast at hKn ⊢;grind
  have u2:((-((2*K*(Q*2^d):Nat):Int):Int):Rat)≤((a.1*ka+b.1*kb:Int):Rat):=by rw [hX];push_cast at hKn ⊢;grind
  have v1:a.1*ka+b.1*kb≤((2*K*(Q*2^d):Nat):Int):=by exact_mod_cast u1
  have v2:-((2*K*(Q*2^d):Nat):Int)≤a.1*ka+b.1*kb:=by exact_mod_cast u2
  omega
 have hYb:Y.natAbs=Q*2^d:=by rw [←hY];rfl
 have hB3:Q*2^(d+1)=2*(Q*2^d):=by rw [Nat.pow_succ];grind
 have hbY:bl Y.natAbs≤B:=Zcb (by rw [hYb];omega)
 have hbX:bl (a.1*ka+b.1*kb).natAbs≤B:=Zcb O
 obtain⟨f1,f2,f3,f4,f5,f6⟩:=Zn7 hpp hY0 hsum hbX hbY hB
 have hv1:=canc (Int.ne_of_gt hpp) f6 hsum
 have hbY2:bl (2*Y).natAbs≤B:=Zcb (by rw [Int.natAbs_mul,hYb];show 2*(Q*2^d)<_;omega)
 have hs2:Fh (a.1*b.2+b.1*a.2) (a.2*b.2)*1*(2*Y)=(a.1*ka+b.1*kb)*(Gn (a.1*b.2+b.1*a.2) (a.2*b.2)*2):=by
  rw [Int.mul_one]
  have e1:Fh (a.1*b.2+b.1*a.2) (a.2*b.2)*(2*Y)=2*(Fh (a.1*b.2+b.1*a.2) (a.2*b.2)*Y):=O4
  rw [e1,hv1];grind
 have hp2:0<Gn (a.1*b.2+b.1*a.2) (a.2*b.2)*2:=O
 obtain⟨g1,g2,g3,g4,g5,g6⟩:=Zn7 hp2 (by omega:0<2*Y) hs2 hbX hbY2 hB
 have hv2:=canc (Int.ne_of_gt hp2) g6 hs2
 have hm1:(Pr a b).1=Fh (Fh (a.1*b.2+b.1*a.2) (a.2*b.2)*1) (Gn (a.1*b.2+b.1*a.2) (a.2*b.2)*2):=rfl
 have hm2:(Pr a b).2=Gn (Fh (a.1*b.2+b.1*a.2) (a.2*b.2)*1) (Gn (a.1*b.2+b.1*a.2) (a.2*b.2)*2):=rfl
 rw [←hm1,←hm2]at hv2
 rw [←hm2]at g2 g3 g5
 rw [←hm1]at g4
 have hq:qv (Pr a b)=(qv a+qv b)/2:=by
  have h1:(((Pr a b).1:Int):Rat)*(2*(Y:Rat))=((a.1*ka+b.1*kb:Int):Rat)*(((Pr a b).2:Int):Rat):=by
   have:(((Pr a b).1*(2*Y):Int):Rat)=(((a.1*ka+b.1*kb)*(Pr a b).2:Int):Rat):=by rw [hv2]
   push_cast at this ⊢;grind
  rw [hX]at h1
  have rd:=Iq g3
  unfold qv at *
  generalize (((Pr a b).1:Int):Rat)=n at *
  generalize (((Pr a b).2:Int):Rat)=m at *
  generalize (a.1:Rat)/(a.2:Rat)=p at *
  generalize (b.1:Rat)/(b.2:Rat)=q at *
  generalize (Y:Rat)=y at *
  grind
 refine⟨⟨f1,g1⟩,⟨g3,?_,by rw [hq];grind,by rw [hq];grind⟩,hq,g4,g5⟩
 have e:((Q*2^(d+1):Nat):Int)=2*Y:=by rw [hB3,←hY];push_cast;rfl
 rw [e];exact g2
def Bv(F:Nat)(xs:List Int)(x:Rat):Int:=vat ((Bt F xs).map Ze) x
theorem cvc_v{F:Nat}{xs:List Int}{z:R2}(h:0<z.2):cvc F xs z=Bv F xs (qv z):=Yiw h
def Sqn(P:R2→R2→Prop)(hi:Rat):Rat→List (R2×R2)→Prop
 | lo,[]=>lo≤hi
 | lo,c :: r=>lo≤qv c.1∧qv c.1<qv c.2∧P c.1 c.2∧Sqn P hi (qv c.2) r
theorem Sqn.le{P:R2→R2→Prop}{hi:Rat} : ∀{lo:Rat} {l:List (R2×R2)},Sqn P hi lo l→lo≤hi
 | lo,[],h=>h
 | lo,c :: r,h=>by have:=Sqn.le h.2.2.2;have:=h.1;have:=h.2.1;grind
theorem Sqn.low{P:R2→R2→Prop}{hi:Rat}{lo lo':Rat}(h1:lo'≤lo):∀{l:List (R2×R2)},Sqn P hi lo l→Sqn P hi lo' l
 | [],h=>by have h:lo≤hi:=h;show lo'≤hi;grind
 | c :: r,h=>⟨by have:=h.1;grind,h.2⟩
theorem Sqn.app{P:R2→R2→Prop}{mid hi:Rat}{l2:List (R2×R2)}(h2:Sqn P hi mid l2):∀{lo:Rat} {l1:List (R2×R2)},Sqn P mid lo l1→Sqn P hi lo (l1 ++ l2)
 | lo,[],h=>h2.low h
 | lo,c :: r,h=>⟨h.1,h.2.1,h.2.2.1,Sqn.app h2 h.2.2.2⟩
theorem Znm{a:R2}{K:Nat}(ha:0<a.2)(h:a.1.natAbs≤K):-(K:Rat)≤qv a∧qv a≤(K:Rat):=by
 obtain⟨c1,c2⟩:=Yfg h
 have ra:(1:Rat)≤(a.2:Rat):=by exact_mod_cast (show 1≤a.2 by omega)
 have hK:(0:Rat)≤(K:Rat):=Hj (Nat.zero_le _)
 have hi:=Rat.inv_pos.2 (show 0<(a.2:Rat) by grind)
 have hm:(a.2:Rat)*(a.2:Rat)⁻¹=1:=O4
 unfold qv;rw [Rat.div_def]
 have t1:=Rat.mul_nonneg (a:=(a.2:Rat)⁻¹) (b:=(K:Rat)*a.2-a.1) O4 (by have:=Rat.mul_nonneg (a:=(K:Rat)) (b:=(a.2:Rat)-1) hK O4;grind)
 have t2:=Rat.mul_nonneg (a:=(a.2:Rat)⁻¹) (b:=(K:Rat)*a.2+a.1) O4 (by have:=Rat.mul_nonneg (a:=(K:Rat)) (b:=(a.2:Rat)-1) hK O4;grind)
 have e1:(a.2:Rat)⁻¹*((K:Rat)*a.2-a.1)=(K:Rat)*(a.2*(a.2:Rat)⁻¹)-a.1*(a.2:Rat)⁻¹:=O4
 have e2:(a.2:Rat)⁻¹*((K:Rat)*a.2+a.1)=(K:Rat)*(a.2*(a.2:Rat)⁻¹)+a.1*(a.2:Rat)⁻¹:=O4
 rw [e1,hm]at t1
 rw [e2,hm]at t2
 constructor<;>grind
theorem Zbh{a:R2}{n:Nat}(ha:0<a.2)(h1:bl a.1.natAbs≤n)(h2:bl a.2.natAbs≤n)(hn:n≤65536) :
  ¬Lg a.1 a.2∧0<(slow a).2∧bl (slow a).1.natAbs≤n∧bl (slow a).2.natAbs≤n∧qv (slow a)=qv a:=by
 obtain⟨f1,f2,f3,f4,f5,f6⟩:=Zn7 (x:=a.1) (y:=a.2) (X:=a.1) (Y:=a.2) ha ha rfl h1 h2 hn
 refine⟨f1,f3,f4,f5,?_⟩
 have r1:=Iq ha
 have r2:=Iq f3
 have h6:((Fh a.1 a.2:Int):Rat)*(a.2:Rat)=(a.1:Rat)*((Gn a.1 a.2:Int):Rat):=by exact_mod_cast f6
 show((Fh a.1 a.2:Int):Rat)/((Gn a.1 a.2:Int):Rat)=(a.1:Rat)/(a.2:Rat)
 generalize ((Fh a.1 a.2:Int):Rat)=N at *
 generalize ((Gn a.1 a.2:Int):Rat)=D at *
 generalize (a.1:Rat)=x at *
 generalize (a.2:Rat)=y at *
 have:N/D*(D*y)=x/y*(D*y):=by
  have e1:N/D*(D*y)=N*y:=O4
  have e2:x/y*(D*y)=x*D:=O4
  rw [e1,e2,h6]
 have hp:=Rat.mul_pos r2 r1
 have e3:N/D=N/D*(D*y)*(D*y)⁻¹:=O4
 have e4:x/y=x/y*(D*y)*(D*y)⁻¹:=O4
 rw [e3,this,←e4]
theorem sep_of {xs:List Int} {F K A e:Nat} (hx:Tr xs) (h0:xs≠[]) (hC:Ct F xs) (hK:0<K) (hA:0<A) (na:∀i,(cf (sqf F xs) i).natAbs≤A) (nb:∀i,(cf (Yi (sqf F xs)) i).natAbs≤A)
  (hs:2≤(sqf F xs).length→Zvg K A (sqf F xs).length e=true) (u v:Rat) (h1:-(K:Rat)≤u) (huv:u≤v) (h3:v≤(K:Rat)) (hh:v-u≤1/((2^e:Nat):Rat)):Bv F xs u-Bv F xs v≤1:=by
 by_cases h2:2≤(sqf F xs).length
 ·have h:=Yi6 hx h0 hC hK hA rfl h2 na nb (hs h2) h1 huv h3 hh
  show vat _ u-vat _ v≤1
  rw [h];unfold crs;split<;>decide
 ·have hl:=Pn (sqf F xs)
  have hd:Yi (sqf F xs)=[]:=List.eq_nil_of_length_eq_zero O
  have hc:Bt F xs=[sqf F xs]:=by unfold Bt;rw [hd,Zza,Fg]
  unfold Bv vat
  rw [hc]
  have r1:=Ar (([Ze (sqf F xs)]).map fun g=>Gl (g u))
  have r2:=Ar (([Ze (sqf F xs)]).map fun g=>Gl (g v))
  simp only [List.map_cons,List.map_nil,List.length_cons,List.length_nil]at r1 r2 ⊢
  omega
end Go.Sky

