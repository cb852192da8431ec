/- Rules, arithmetic and contracts: part 6. No conditions but those that each theorem names. -/
import Derived.Test.YteikicbnfbgpnaaGreatDb04
set_option linter.all false
namespace Go.Sky
theorem Zvo(t:Int):∀p:List Int,Zb p (t:Rat)=((ev1 p t:Int):Rat)
 | []=>rfl
 | c :: p=>by
  have h:=Zvo t p
  rw [show Zb (c :: p) (t:Rat)=(c:Rat)+(t:Rat)*Zb p (t:Rat)from rfl,show ev1 (c :: p) t=c+t*ev1 p t from rfl,h];push_cast;rfl
theorem Zly{p:List Int}(h:∀x:Rat,Zb p x=0)(i:Nat):cf p i=0:=by
 by_cases h0:cf p i=0
 ·exact h0
 ·exfalso
  have:=Zo4 p.length p ((List.range p.length).map fun n:Nat=>(n:Int)) rfl ⟨i,h0⟩ (by
   refine List.Pairwise.map _ (fun a b hab=>?_) List.nodup_range
   intro e;exact hab (by exact_mod_cast e)) (fun t ht=>by
   have h1:=Zvo t p
   rw [h]at h1
   exact_mod_cast h1.symm)
  simp at this
theorem Od{p q:List Int}(h:∀x:Rat,Zb p x=Zb q x)(i:Nat):cf p i=cf q i:=by
 have h1:=Zly (p:=Nj p (q.map fun a=>(-1)*a)) (fun x=>by rw [Xd,Ze,h x];push_cast;grind) i
 rw [Md,Xv]at h1;omega
theorem Ma(p:List Int)(x:Rat):Zb (tzl p) x=Zb p x:=On x _ _ fun i=>Lj p i
theorem Yc(p q:List Int)(x:Rat):Zb (Xs p q) x=Zb p x*Zb q x:=by
 rw [←Zq];exact On x _ _ fun i=>by rw [Kq,Gs,PS.mul_c];rfl
theorem Qq(c:Int)(x:Rat):Zb [c] x=(c:Rat):=by show(c:Rat)+x*0=c;grind
def ld:List Int→List Int
 | []=>[]
 | _ :: p=>Nj p (0 :: ld p)
theorem Zdx(c:Int)(p:List Int)(x:Rat):Zb (ld (c :: p)) x=Zb p x+x*Zb (ld p) x:=by
 rw [show ld (c :: p)=Nj p (0 :: ld p)from rfl,Xd];show Zb p x+(((0:Int):Rat)+x*Zb (ld p) x)=_;push_cast;grind
theorem Zet:∀(p:List Int) (i:Nat),cf (ld p) i=cf p (i+1)*((i:Int)+1)
 | [],i=>by rw [Az,show ld []=[]from rfl,Az,Int.zero_mul]
 | c :: p,0=>by
  rw [show ld (c :: p)=Nj p (0 :: ld p)from rfl,Md];show cf p 0+0=cf p 0*_;simp
 | c :: p,i+1=>by
  have h:=Zet p i
  rw [show ld (c :: p)=Nj p (0 :: ld p)from rfl,Md];show cf p (i+1)+cf (ld p) i=cf p (i+1)*_
  rw [h];push_cast;grind
theorem Ll(p:List Int)(x:Rat):Zb (Yx p) x=Zb (ld p) x:=On x _ _ fun i=>by rw [Zes,Zet]
theorem Fy{p q:List Int}(h:∀x,Zb p x=Zb q x)(x:Rat):Zb (ld p) x=Zb (ld q) x:=On x _ _ fun i=>by rw [Zet,Zet,Od h]
theorem Ygl(p q:List Int)(x:Rat):Zb (ld (Nj p q)) x=Zb (ld p) x+Zb (ld q) x:=by
 rw [←Xd];exact On x _ _ fun i=>by rw [Zet,Md,Md,Zet,Zet];grind
theorem Ch(c:Int)(p:List Int)(x:Rat):Zb (ld (p.map fun a=>c*a)) x=(c:Rat)*Zb (ld p) x:=by
 rw [←Ze];exact On x _ _ fun i=>by rw [Zet,Xv,Xv,Zet];grind
theorem Eu(x:Rat):∀p q:List Int,Zb (ld (lmul p q)) x=Zb (ld p) x*Zb q x+Zb p x*Zb (ld q) x
 | [],q=>by show(0:Rat)=0*Zb q x+0*Zb (ld q) x;grind
 | c :: p,q=>by
  have h:=Eu x p q
  rw [show lmul (c :: p) q=Nj (q.map fun a=>c*a) (0 :: lmul p q)from rfl,Ygl,Ch,Zdx,Zdx,h,Zq,show Zb (c :: p) x=(c:Rat)+x*Zb p x from rfl]
  grind
def Ed(g a:List Int):Prop:=∃(k:Int) (s:List Int),k≠0∧∀x:Rat,(k:Rat)*Zb a x=Zb s x*Zb g x
theorem Ed.refl(a:List Int):Ed a a:=⟨1,[1],O3,fun x=>by rw [Qq]⟩
theorem Ed.nil(g:List Int):Ed g []:=⟨1,[],O3,fun x=>by show(((1:Int)):Rat)*0=0*Zb g x;grind⟩
theorem Ed.trans{a b c:List Int} : Ed a b→Ed b c→Ed a c:=fun⟨k,s,hk,h⟩ ⟨m,u,hm,e⟩=>
 ⟨k*m,lmul u s,Int.mul_ne_zero hk hm,fun x=>by
  have h1:=h x
  have h2:=e x
  rw [Zq];push_cast
  have:(k:Rat)*m*Zb c x=k*(m*Zb c x):=O4
  rw [this,h2];grind⟩
theorem Ed.congr{g a b:List Int}(h:Ed g a)(e:∀x,Zb a x=Zb b x):Ed g b:=by
 obtain⟨k,s,hk,h⟩:=h
 exact⟨k,s,hk,fun x=>by rw [←e x];exact h x⟩
theorem Ed.congr_l{g g' a:List Int}(h:Ed g a)(e:∀x,Zb g x=Zb g' x):Ed g' a:=by
 obtain⟨k,s,hk,h⟩:=h
 exact⟨k,s,hk,fun x=>by rw [←e x];exact h x⟩
theorem Ed.sim{g a b:List Int}(h:Ed g a)(e:Sim a b):Ed g b:=by
 obtain⟨k,s,hk,h⟩:=h
 obtain⟨m,n,hm,hn,e⟩:=e
 refine⟨k*n,s.map fun c=>m*c,Int.mul_ne_zero hk hn,fun x=>?_⟩
 have h1:Zb (a.map fun c=>m*c) x=Zb (b.map fun c=>n*c) x:=On x _ _ fun i=>by rw [Xv,Xv,e]
 rw [Ze,Ze]at h1
 rw [Ze]
 have:=h x
 push_cast
 have e2:(k:Rat)*n*Zb b x=k*(n*Zb b x):=O4
 rw [e2,←h1];grind
theorem Ed.lin{g a b c:List Int}(ha:Ed g a)(hb:Ed g b)(s:List Int)(L:Int)(hL:L≠0)(h:∀x,(L:Rat)*Zb c x=Zb s x*Zb a x+Zb b x):Ed g c:=by
 obtain⟨k,u,hk,h1⟩:=ha
 obtain⟨m,v,hm,h2⟩:=hb
 refine⟨L*(k*m),Nj ((lmul s u).map fun c=>m*c) (v.map fun c=>k*c),Int.mul_ne_zero hL (Int.mul_ne_zero hk hm),fun x=>?_⟩
 have h1:=h1 x
 have h2:=h2 x
 have h:=h x
 rw [Xd,Ze,Ze,Zq]
 push_cast
 have e:(L:Rat)*(k*m)*Zb c x=k*m*(L*Zb c x):=O4
 rw [e,h]
 have e2:(k:Rat)*m*(Zb s x*Zb a x+Zb b x)=m*Zb s x*(k*Zb a x)+k*(m*Zb b x):=O4
 rw [e2,h1,h2];grind
theorem Zs2{g a s:List Int}{k:Int}(hk:k≠0)(hg:Tr g)(ha:Tr a)(h0:a≠[])(h:∀x:Rat,(k:Rat)*Zb a x=Zb s x*Zb g x):g≠[]∧tzl s≠[]∧(tzl s).length+g.length≤a.length+1:=by
 have hc:∀i,k*cf a i=(ps (tzl s)*ps g).c i:=fun i=>by
  have h1:=Od (p:=a.map fun c=>k*c) (q:=lmul (tzl s) g) (fun x=>by rw [Ze,Zq,Ma];exact h x) i
  rw [Xv,Gs]at h1
  rw [h1,PS.mul_c];rfl
 have hz:∀i,k*cf a i=0→cf a i=0:=fun i hi=>(Int.mul_eq_zero.1 hi).resolve_left hk
 have hla:=ha.mem h0
 have h1:tzl s≠[]:=fun e=>hla (hz _ (by rw [hc,e,Lf (fun t=>Yl (Nat.zero_le _))]))
 have h2:g≠[]:=fun e=>hla (hz _ (by rw [hc,e,PS.mul_comm',Lf (fun t=>Yl (Nat.zero_le _))]))
 refine⟨h2,h1,?_⟩
 have l1:=List.length_pos_iff.2 h1
 have l2:=List.length_pos_iff.2 h2
 have ht:=Dz (p:=tzl s) (q:=g) (a:=(tzl s).length-1) (b:=g.length-1) (fun i hi=>Yl O) (fun i hi=>Yl O)
 rw [←hc]at ht
 have hne:=Int.mul_ne_zero ((Xp s).mem h1) (hg.mem h2)
 rcases Nat.lt_or_ge ((tzl s).length-1+(g.length-1)) a.length with h9 | h9
 ·omega
 ·rw [Yl h9,Int.mul_zero]at ht;exact absurd ht.symm hne
theorem Ed.len{g a:List Int}(h:Ed g a)(hg:Tr g)(ha:Tr a)(h0:a≠[]):g≠[]∧g.length≤a.length:=by
 obtain⟨k,s,hk,h⟩:=h
 obtain⟨a1,a2,a3⟩:=Zs2 hk hg ha h0 h
 have:=List.length_pos_iff.2 a2
 exact⟨a1,O⟩
theorem Ed.same{g a:List Int}(h:Ed g a)(hg:Tr g)(ha:Tr a)(h0:a≠[])(hl:g.length=a.length):Ed a g:=by
 obtain⟨k,s,hk,h⟩:=h
 obtain⟨a1,a2,a3⟩:=Zs2 hk hg ha h0 h
 have hl1:=List.length_pos_iff.2 a2
 match hs:tzl s,hl1,a3 with
 | [c],_,_=>
  have hc:c≠0:=by have:=(Xp s).mem a2;rw [hs]at this;exact this
  refine⟨c,[k],hc,fun x=>?_⟩
  have h1:=h x
  rw [←Ma s,hs,Qq]at h1
  rw [Qq];exact h1.symm
 | c :: d :: r,_,h9=>simp at h9;omega
theorem Zjp:∀(n:Nat) (a b:List Int),Tr a→Tr b→b.length≤n→∃g A B:List Int,Tr g∧Ed g a∧Ed g b∧∀x,Zb g x=Zb A x*Zb a x+Zb B x*Zb b x
 | n,a,[],ha,hb,_=>⟨a,[1],[],ha,Ed.refl a,Ed.nil a,fun x=>by rw [Qq];show _=_+0*(0:Rat);push_cast;grind⟩
 | 0,a,c :: r,_,_,hl=>absurd hl O7
 | n+1,a,c :: b',ha,hb,hl=>by
  have h0:(c :: b')≠[]:=O7
  generalize c :: b'=b at *
  obtain⟨k,s,hs⟩:=Bj a h0
  have hL:=Lg (hb.mem h0) k
  generalize cf b (b.length-1)^k=L at hs hL
  have hlt:=Pf a h0
  obtain⟨g,A,B,g1,g2,g3,g4⟩:=Zjp n b (Xy a b) hb (Kk ha) O
  have he:∀x,(L:Rat)*Zb a x=Zb s x*Zb b x+Zb (Xy a b) x:=fun x=>by
   have:=Fs (a:=L) (c:=-1) (x:=a) (s:=s) (y:=b) (z:=Xy a b) (fun t=>by rw [hs t];omega) x
   push_cast at this;grind
  refine⟨g,B.map fun c=>L*c,Nj A ((lmul B s).map fun c=>(-1)*c),g1,g2.lin g3 s L hL he,g2,fun x=>?_⟩
  rw [Ze,Xd,Ze,Zq,g4 x]
  have:=he x
  have e:Zb (Xy a b) x=L*Zb a x-Zb s x*Zb b x:=O4
  rw [e];push_cast;grind
def Irr(q:List Int):Prop:=Tr q∧2≤q.length∧∀d,Tr d→Ed d q→d.length≤1∨d.length=q.length
theorem Zbv{q:List Int}(h:2≤q.length):q≠[]:=fun e=>by rw [e]at h;simp at h
theorem Ycg:∀(n:Nat) (q:List Int),q.length≤n→Tr q→2≤q.length→∃p,Irr p∧Ed p q
 | 0,q,hl,_,h2=>O
 | n+1,q,hl,ht,h2=>by
  by_cases h:Irr q
  ·exact⟨q,h,Ed.refl q⟩
  ·have:∃d,Tr d∧Ed d q∧¬(d.length≤1∨d.length=q.length):=by
    refine Classical.byContradiction fun h9=>h ⟨ht,h2,fun d hd he=>Classical.byContradiction fun h8=>h9 ⟨d,hd,he,h8⟩⟩
   obtain⟨d,hd,he,hn⟩:=this
   have hle:=(he.len hd ht (Zbv h2)).2
   obtain⟨p,hp,hp2⟩:=Ycg n d O hd O
   exact⟨p,hp,hp2.trans he⟩
theorem Bq{q f h m:List Int}{k:Int}(hq:Irr q)(hk:k≠0)(e:∀x:Rat,(k:Rat)*(Zb f x*Zb h x)=Zb m x*Zb q x):Ed q f∨Ed q h:=by
 obtain⟨hq1,hq2,hq3⟩:=hq
 obtain⟨g,A,B,g1,g2,g3,g4⟩:=Zjp _ q (tzl f) hq1 (Xp f) (Nat.le_refl _)
 have hg:=(g2.len g1 hq1 (Zbv hq2)).1
 rcases hq3 g g1 g2 with h1 | h1
 ·right
  match g,hg,h1,g1,g4 with
  | [c],_,_,g1,g4=>
   have hc:c≠0:=g1.mem O7
   refine⟨c*k,Nj ((lmul A h).map fun c=>k*c) (lmul B m),Int.mul_ne_zero hc hk,fun x=>?_⟩
   have h4:=g4 x
   have h5:=e x
   rw [Qq,Ma]at h4
   rw [Xd,Ze,Zq,Zq]
   push_cast
   rw [h4]
   have:(Zb A x*Zb q x+Zb B x*Zb f x)*k*Zb h x=k*Zb A x*Zb q x*Zb h x+Zb B x*(k*(Zb f x*Zb h x)):=O4
   rw [this,h5];grind
  | c :: d :: r,_,h9,_,_=>simp at h9
 ·left
  have h2:=g2.same g1 hq1 (Zbv hq2) h1
  exact(h2.trans g3).congr fun x=>Ma f x
def Hi(q:List Int):Nat→List Int
 | 0=>[1]
 | n+1=>Xs q (Hi q n)
theorem Bk{q:List Int}(hq:Tr q)(h2:2≤q.length):∀n,Tr (Hi q n)∧n+1≤(Hi q n).length
 | 0=>⟨.inr (show cf [1] 0≠0 by decide),Nat.le_refl _⟩
 | n+1=>by
  obtain⟨h1,h3⟩:=Bk hq h2 n
  refine⟨Xo _ _,?_⟩
  show n+1+1≤(Xs q (Hi q n)).length
  rw [Pu hq h1 (Zbv h2) (fun e=>by rw [e]at h3;simp at h3)]
  omega
theorem Gh(q:List Int)(n:Nat)(x:Rat):Zb (Hi q (n+1)) x=Zb q x*Zb (Hi q n) x:=Yc _ _ _
theorem Zlz(q:List Int):∀(n:Nat) (x:Rat),Zb (ld (Hi q (n+1))) x=((n:Rat)+1)*(Zb (Hi q n) x*Zb (ld q) x)
 | n,x=>by
  have h1:Zb (ld (Hi q (n+1))) x=Zb (ld (lmul q (Hi q n))) x:=Fy (fun y=>by rw [Gh,Zq]) x
  rw [h1,Eu]
  match n with
  | 0=>
   rw [show Zb (ld (Hi q 0)) x=0 from by rw [show Hi q 0=[1]from rfl,Zdx];show(0:Rat)+x*0=0;grind]
   simp;grind
  | n+1=>
   rw [Zlz q n x,Gh];push_cast;grind
theorem Zzv{p s g q u:List Int}{c:Int}{k:Nat}(hps:∀x:Rat,Zb p x=Zb s x*Zb g x)(hgr:∀d,Tr d→Ed d p→Ed d (ld p)→Ed d g)(hq:Irr q)(h1:Ed q s)(h2:Ed q (ld s))(hk:Ed (Hi q k) g):Ed (Hi q (k+1)) g:=by
 obtain⟨hq1,hq2,hq3⟩:=hq
 obtain⟨c1,s1,k1,e1⟩:=h1
 obtain⟨c2,s2,k2,e2⟩:=h2
 have d1:∀x:Rat,(c1:Rat)*Zb (ld s) x=Zb (ld s1) x*Zb q x+Zb s1 x*Zb (ld q) x:=fun x=>by
  have:=Fy (p:=s.map fun a=>c1*a) (q:=lmul s1 q) (fun y=>by rw [Ze,Zq];exact e1 y) x
  rwa [Ch,Eu]at this
 have h3:Ed q s1:=by
  rcases Bq (f:=s1) (h:=ld q) (m:=Nj (s2.map fun a=>c1*a) ((ld s1).map fun a=>(-c2)*a)) ⟨hq1,hq2,hq3⟩ k2 (fun x=>by
   have a1:=d1 x
   have a2:=e2 x
   rw [Xd,Ze,Ze];push_cast
   have:(c2:Rat)*(Zb s1 x*Zb (ld q) x)=c1*(c2*Zb (ld s) x)-c2*(Zb (ld s1) x*Zb q x):=O4
   rw [this,a2];grind)with h9 | h9
  ·exact h9
  ·exfalso
   have h8:Ed q (Yx q):=h9.congr fun x=>(Ll q x).symm
   have hl:=Oz q
   have:=(h8.len hq1 (Nn hq1) (fun e=>by rw [e]at hl;simp at hl;omega)).2
   omega
 obtain⟨c3,s3,k3,e3⟩:=h3
 obtain⟨c,u,kc,eu⟩:=hk
 have hP:∀x:Rat,((c1*c3*c:Int):Rat)*Zb p x=Zb (lmul s3 u) x*Zb (Hi q (k+1+1)) x:=fun x=>by
  rw [hps x,Zq,Gh,Gh];push_cast
  have a1:=e1 x
  have a3:=e3 x
  have a4:=eu x
  have:(c1:Rat)*c3*c*(Zb s x*Zb g x)=c3*(c1*Zb s x)*(c*Zb g x):=O4
  rw [this,a1,a4]
  have:(c3:Rat)*(Zb s1 x*Zb q x)*(Zb u x*Zb (Hi q k) x)=(c3*Zb s1 x)*Zb q x*(Zb u x*Zb (Hi q k) x):=O4
  rw [this,a3];grind
 have hC:c1*c3*c≠0:=Int.mul_ne_zero (Int.mul_ne_zero k1 k3) kc
 generalize c1*c3*c=C at hP hC
 have hD:∀x:Rat,(C:Rat)*Zb (ld p) x=Zb (ld (lmul s3 u)) x*Zb (Hi q (k+1+1)) x+Zb (lmul s3 u) x*((((k+1:Nat):Rat)+1)*(Zb (Hi q (k+1)) x*Zb (ld q) x)):=fun x=>by
  have:=Fy (p:=p.map fun a=>C*a) (q:=lmul (lmul s3 u) (Hi q (k+1+1))) (fun y=>by rw [Ze,Zq];exact hP y) x
  rwa [Ch,Eu,Zlz]at this
 refine hgr _ (Bk hq1 hq2 _).1 ⟨C,lmul (lmul s3 u) q,hC,fun x=>?_⟩ ⟨C,Nj (lmul (ld (lmul s3 u)) q) ((lmul (lmul s3 u) (ld q)).map fun a=>((k+2:Nat):Int)*a),hC,fun x=>?_⟩
 ·rw [hP x,Zq _ (lmul s3 u),Gh q (k+1)];grind
 ·rw [hD x,Xd,Ze,Zq _ (ld (lmul s3 u)),Zq _ (lmul s3 u),Gh q (k+1)];push_cast;grind
theorem Zzx{p s g q:List Int}(hps:∀x:Rat,Zb p x=Zb s x*Zb g x)(hg:Tr g)(g0:g≠[])(hgr:∀d,Tr d→Ed d p→Ed d (ld p)→Ed d g)(hq:Tr q)(h1:Ed q s)(h2:Ed q (ld s)):q.length≤1:=by
 refine Classical.byContradiction fun h=>?_
 obtain⟨r,hr,hr2⟩:=Ycg _ q (Nat.le_refl _) hq O
 have key:∀k,Ed (Hi r k) g:=fun k=>by
  induction k with
  | zero=>exact⟨1,g,O3,fun x=>by rw [show Hi r 0=[1]from rfl,Qq];push_cast;grind⟩
  | succ k ih=>exact Zzv (u:=[]) (c:=0) hps hgr hr (hr2.trans h1) (hr2.trans h2) ih
 obtain⟨a1,a2⟩:=Bk hr.1 hr.2.1 g.length
 have:=((key g.length).len a1 hg g0).2
 omega
theorem Yhr{d a b:List Int}(hb:Tr b)(h0:b≠[])(h1:Ed d a)(h2:Ed d b):Ed d (Xy a b):=by
  obtain⟨k,s,hs⟩:=Bj a h0
  have hL:=Lg (hb.mem h0) k
  generalize cf b (b.length-1)^k=L at hs hL
  have he:∀x,(L:Rat)*Zb a x=Zb s x*Zb b x+Zb (Xy a b) x:=fun x=>by
    have:=Fs (a:=L) (c:=-1) (x:=a) (s:=s) (y:=b) (z:=Xy a b) (fun t=>by rw [hs t];omega) x
    push_cast at this;grind
  have h3:Ed d (a.map fun c=>L*c):=by
    obtain⟨k,u,hk,e⟩:=h1
    exact⟨k,u.map fun c=>L*c,hk,fun x=>by rw [Ze,Ze];have:=e x;grind⟩
  exact h2.lin h3 (s.map fun c=>(-1)*c) 1 O3 fun x=>by
    rw [Ze,Ze];push_cast;have:=he x;grind
theorem Zqi{d:List Int} : ∀(f:Nat) {a b:List Int},Tr a→Tr b→Ed d a→Ed d b→Ed d (eu f a b)
  | 0,a,b,_,_,h1,_=>h1
  | f+1,a,b,ha,hb,h1,h2=>by
    by_cases h0:b=[]
    · rw [h0,Zfl];exact h1
    · rw [show eu (f + 1) a b = eu f b (Zt (Xy a b)) by
          conv=>lhs;unfold eu
          rw [if_neg h0]]
      have t1:=Kk (q:=b) ha
      exact Zqi f hb (Yv t1) h2 ((Yhr hb h0 h1 h2).sim (Qb t1).symm)
theorem Zh8{F:Nat}{d p q:List Int}(hp:Tr p)(hq:Tr q)(h1:Ed d p)(h2:Ed d q):Ed d (Ni F p q):=by
  have a1:=h1.sim (Qb hp).symm
  have a2:=h2.sim (Qb hq).symm
  unfold Ni
  refine Ed.sim ?_ (Kn _).symm
  refine Zqi F (Zhh hp hq) (Zhg hp hq) ?_ ?_
  · unfold gA;split<;>assumption
  · unfold gB;split<;>assumption
theorem Zdo{xs:List Int}{F:Nat}(hx:Tr xs)(h0:xs≠[])(hok:eok F (gA (Yy xs) (Yx (Yy xs))) (gB (Yy xs) (Yx (Yy xs)))){q:List Int}(hq:Tr q)(h1:Ed q (sqf F xs))(h2:Ed q (Yx (sqf F xs))):q.length≤1:=by
  obtain⟨f1,f2,f3,f4,f5,f6⟩:=Ps (F:=F) hx h0 hok
  have hs:Tr (Yy xs):=Oc (Yv hx)
  have hd:Tr (Yx (Yy xs)):=Nn hs
  refine Zzx (p:=Yy xs) (s:=sqf F xs) (g:=Ni F (Yy xs) (Yx (Yy xs))) (fun x=>?_) (Zdk hs hd) f5 (fun d _ a b=>?_) hq h1 (h2.congr fun x=>Ll _ x)
  · have:Zb (Yy xs) x=Zb (Xs (sqf F xs) (Ni F (Yy xs) (Yx (Yy xs)))) x:=by rw [←f4]
    rw [this,Yc]
  · exact Zh8 hs hd a (b.congr fun x=>(Ll _ x).symm)
theorem Bx:∀(l:List Int) (n z:Int),(l.foldl Nm (n,z)).1=n+(l.foldl Nm (0,z)).1
 | [],n,z=>O7
 | x :: l,n,z=>by
  simp only [List.foldl_cons]
  by_cases h:x=0
  ·have e:∀n,Nm (n,z) x=(n,z):=fun n=>by unfold Nm;rw [if_pos h]
   rw [e,e];exact Bx l n z
  ·by_cases h2:x=-z
   ·have e:∀n,Nm (n,z) x=(n+1,x):=fun n=>by unfold Nm;rw [if_neg h,if_pos (by dsimp only;exact h2)]
    rw [e,e,Bx l (n+1) x,Bx l (0+1) x];omega
   ·have e:∀n,Nm (n,z) x=(n,x):=fun n=>by unfold Nm;rw [if_neg h,if_neg (by dsimp only;exact h2)]
    rw [e,e];exact Bx l n x
theorem Yio{x y:Int}(l:List Int)(hy:y≠0):chg (x :: y :: l)=chg (y :: l)+(if x=-y then 1 else 0):=by
 unfold chg
 simp only [List.foldl_cons]
 have h1:Nm (0,0) y=(0,y):=by unfold Nm;rw [if_neg hy,if_neg O11]
 rw [h1]
 by_cases hx:x=0
 ·have h2:Nm (0,0) x=(0,0):=by unfold Nm;rw [if_pos hx]
  rw [h2,h1,if_neg O];omega
 ·have h2:Nm (0,0) x=(0,x):=by unfold Nm;rw [if_neg hx,if_neg O11]
  rw [h2]
  have h3:Nm (0,x) y=(if x=-y then 1 else 0,y):=by
   unfold Nm;rw [if_neg hy]
   by_cases h:x=-y
   ·rw [if_pos O11,if_pos h];rfl
   ·rw [if_neg O11,if_neg h]
  rw [h3,Bx];omega
def crs(f:Rat→Rat)(u v:Rat):Int:=if f u≠0∧f u*f v≤0 then 1 else 0
theorem Zgv(s t:Rat):∀p:List Int,∃M:Rat,0<M∧∀x y,s≤x→x≤y→y≤t→
  -(M*(y-x)*(y-x))≤Zb p y-Zb p x-(y-x)*Zb (ld p) x∧Zb p y-Zb p x-(y-x)*Zb (ld p) x≤M*(y-x)*(y-x)
 | []=>⟨1,O3,fun x y h1 h2 h3=>by
   have:=Rat.mul_nonneg (a:=y-x) (b:=y-x) O4 O4
   show -(1*(y-x)*(y-x))≤(0:Rat)-0-(y-x)*0∧(0:Rat)-0-(y-x)*0≤1*(y-x)*(y-x)
   constructor<;>grind⟩
 | c :: p=>by
  obtain⟨M,m1,m2⟩:=Zgv s t p
  obtain⟨L,l1,l2⟩:=Et s t p
  obtain⟨K,k1,k2⟩:=Yho s t
  refine⟨L+K*M,by have:=Rat.mul_pos k1 m1;grind,fun x y hs hxy ht=>?_⟩
  obtain⟨a1,a2⟩:=m2 x y hs hxy ht
  obtain⟨b1,b2⟩:=l2 x y hs hxy ht
  obtain⟨e1,e2⟩:=k2 x hs O4
  have hd:0≤y-x:=O4
  obtain⟨f1,f2⟩:=Zac (q:=x) (Q:=K) (g:=Zb p y-Zb p x-(y-x)*Zb (ld p) x) (e:=M*(y-x)*(y-x)) e1 e2 a1 a2 O4
  have g1:=Rat.mul_nonneg (a:=y-x) (b:=L*(y-x)-(Zb p y-Zb p x)) hd O4
  have g2:=Rat.mul_nonneg (a:=y-x) (b:=L*(y-x)+(Zb p y-Zb p x)) hd O4
  rw [Zdx,show Zb (c :: p) y=(c:Rat)+y*Zb p y from rfl,show Zb (c :: p) x=(c:Rat)+x*Zb p x from rfl]
  constructor<;>grind
theorem Zv8{a b:List Int}(ha:Tr a)(hb:Tr b)(h0:a≠[])(hc:∀q,Tr q→Ed q a→Ed q b→q.length≤1)(s t:Rat):∃ε:Rat,0<ε∧∀x,s≤x→x≤t→Big ε x (Zb a)∨Big ε x (Zb b):=by
 obtain⟨g,A,B,g1,g2,g3,g4⟩:=Zjp _ a b ha hb (Nat.le_refl _)
 have hl:=hc g g1 g2 g3
 have hg:=(g2.len g1 ha h0).1
 match g,hg,hl,g1,g4 with
 | [c],_,_,g1,g4=>
  have hc0:c≠0:=g1.mem O7
  obtain⟨P,p1,p2⟩:=Zo8 s t A
  obtain⟨Q,q1,q2⟩:=Zo8 s t B
  obtain⟨ε,e1,e2,e3⟩:=Ih (show(0:Rat)<1 by decide) (show 0<(P+Q)+(P+Q) by grind) (show(0:Rat)<1 by decide)
  refine⟨ε,e1,fun x hs ht=>?_⟩
  by_cases h1:Big ε x (Zb a)
  ·exact .inl h1
  ·by_cases h2:Big ε x (Zb b)
   ·exact .inr h2
   ·exfalso
    obtain⟨a1,a2⟩:=Zbt h1
    obtain⟨b1,b2⟩:=Zbt h2
    obtain⟨c1,c2⟩:=p2 x hs ht
    obtain⟨d1,d2⟩:=q2 x hs ht
    obtain⟨u1,u2⟩:=Zac c1 c2 a1 a2 O4
    obtain⟨v1,v2⟩:=Zac d1 d2 b1 b2 O4
    have h4:=g4 x
    rw [Qq]at h4
    have h5:(c:Rat)≤-1∨1≤(c:Rat):=by
     rcases Int.lt_or_gt_of_ne hc0 with h | h
     ·left;have:((c:Int):Rat)≤((-1:Int):Rat):=by exact_mod_cast (show c≤-1 by omega)
      rwa [show(((-1:Int)):Rat)=-1 from rfl]at this
     ·right;have:1≤c:=O
      exact_mod_cast this
    rcases h5 with h5 | h5<;>grind
 | c :: d :: r,_,h9,_,_=>simp at h9
theorem Big.near{ε x y:Rat}{f:Rat→Rat}(h:Big ε x f)(h1:f x-f y≤ε/2)(h2:f y-f x≤ε/2):Big (ε/2) y f:=by
 unfold Big at *;grind
theorem Zf2(x:Rat):Gx x=-1↔x<0:=by
 unfold Gx
 by_cases h:x<0
 ·rw [if_pos h];simp [h]
 ·rw [if_neg h]
  by_cases h2:x=0
  ·rw [if_pos h2];simp [h]
  ·rw [if_neg h2];simp [h]
theorem Yao(x:Rat):Gx (-x)=- Gx x:=by
 unfold Gx
 by_cases h:x<0
 ·rw [if_pos h,if_neg O4,if_neg O4];rfl
 ·rw [if_neg h]
  by_cases h2:x=0
  ·rw [if_pos h2,if_neg O4,if_pos O4];rfl
  ·rw [if_neg h2,if_pos O4]
theorem Zkb{f g:Rat→Rat}(r:List (Rat→Rat)){x:Rat}(h:Gx (g x)≠0):vat (f :: g :: r) x=vat (g :: r) x+(if Gx (f x)=- Gx (g x)then 1 else 0):=by
 unfold vat
 simp only [List.map_cons]
 exact Yio _ h
def Tay(s t M:Rat)(p:List Int):Prop:=∀x y,s≤x→x≤y→y≤t→-(M*(y-x)*(y-x))≤Zb p y-Zb p x-(y-x)*Zb (ld p) x∧Zb p y-Zb p x-(y-x)*Zb (ld p) x≤M*(y-x)*(y-x)
theorem Zfx {s t:Rat} {f:Nat} {a b:List Int} (ha:Tr a) (hb:Tr b) (hok:cok f a b) {κ:Rat} (hκ:0<κ) (hder:∀x,Zb (ld a) x=κ*Zb b x)
  {ε L L' M h:Rat} (e1:0<ε) (e2:∀x,s≤x→x≤t→Big ε x (Zb a)∨Big ε x (Zb b)) (l1:0≤L) (l2:Lip s t L (Zb a)) (l1':0≤L') (l2':Lip s t L' (Zb b)) (m1:0≤M) (m2:Tay s t M a)
  (h5:0<h) (h3:h*(L+L')≤ε/2) (h7:h*M≤κ*ε/2) {u v:Rat} (hs:s≤u) (huv:u≤v) (ht:v≤t) (hh:v-u≤h) :
  vat ((Nu f a b).map Zb) u-vat ((Nu f a b).map Zb) v=crs (Zb a) u v:=by
 have hL:∀w,u≤w→w≤v→L*(w-u)≤ε/2∧L'*(w-u)≤ε/2:=fun w q1 q2=>by
  have p1:=Rat.mul_nonneg (a:=L) (b:=h-(w-u)) O4 O4
  have p2:=Rat.mul_nonneg (a:=L') (b:=h-(w-u)) O4 O4
  have p3:=Rat.mul_nonneg (a:=L) (b:=h) O4 O4
  have p4:=Rat.mul_nonneg (a:=L') (b:=h) O4 O4
  constructor<;>grind
 by_cases hba:Big ε u (Zb a)
 ·have hB:∀w,u≤w→w≤v→Big (ε/2) w (Zb a):=fun w q1 q2=>by
   obtain⟨x1,x2⟩:=l2 u w hs q1 O4
   have:=hL w q1 q2
   exact hba.near O4 O4
  rw [Zds ha hb hok huv (show 0<ε/2 by grind) hB]
  have hv:=hB v huv O4
  have:crs (Zb a) u v=0:=by
   unfold crs
   refine if_neg fun⟨_,h9⟩=>?_
   obtain⟨x1,x2⟩:=l2 u v hs huv ht
   have hLv:=hL v huv O4
   unfold Big at hba hv
   rcases hba with hp | hp
   ·have:0<Zb a v:=O4
    have:=Rat.mul_pos (show 0<Zb a u by grind) this
    grind
   ·have:0 < - Zb a v:=O4
    have:=Rat.mul_pos (show 0 < - Zb a u by grind) this
    grind
  omega
 ·have hbb:Big ε u (Zb b):=(e2 u hs O4).resolve_left hba
  have hB:∀w,u≤w→w≤v→Big (ε/2) w (Zb b):=fun w q1 q2=>by
   obtain⟨x1,x2⟩:=l2' u w hs q1 O4
   have:=hL w q1 q2
   exact hbb.near O4 O4
  have hb0:b≠[]:=fun e=>by
   rw [e]at hbb;unfold Big at hbb
   have:Zb [] u=0:=rfl
   rw [this]at hbb;grind
  obtain⟨g,hg,hd,hle,hcg,hsc⟩:=Zjd hok hb0
  have hT:=Zds hb (Zak ha) hcg huv (show 0<ε/2 by grind) hB
  obtain⟨r,hr,_,_,_⟩:=Zkq (s:=u) (t:=v) g b (Oo a b) hb (Zak ha) hcg
  rw [hsc,hr]
  rw [hr]at hT
  simp only [List.map_cons]at hT ⊢
  have hsg:∃σ:Rat,(σ=1∨σ=-1)∧ε<σ*Zb b u∧∀w,u≤w→w≤v→0<σ*Zb b w:=by
   unfold Big at hbb
   rcases hbb with hp | hp
   ·refine⟨1,.inl rfl,O4,fun w q1 q2=>?_⟩
    obtain⟨x1,x2⟩:=l2' u w hs q1 O4
    have:=hL w q1 q2
    grind
   ·refine⟨-1,.inr rfl,O4,fun w q1 q2=>?_⟩
    obtain⟨x1,x2⟩:=l2' u w hs q1 O4
    have:=hL w q1 q2
    grind
  obtain⟨σ,hσ,hbu,hbw⟩:=hsg
  have hmono:u<v→σ*Zb a u<σ*Zb a v:=fun hlt=>by
   obtain⟨y1,y2⟩:=m2 u v hs huv ht
   rw [hder u]at y1 y2
   have hd:0<v-u:=O4
   have z1:M*(v-u)≤κ*ε/2:=by
    have:=Rat.mul_nonneg (a:=M) (b:=h-(v-u)) O4 O4
    grind
   have z2:0<κ*(σ*Zb b u)-M*(v-u):=by
    have:=Rat.mul_pos hκ (show 0<σ*Zb b u-ε by grind)
    have:=Rat.mul_pos hκ e1
    grind
   have z3:=Rat.mul_pos hd z2
   rcases hσ with rfl | rfl<;>grind
  have hne:∀w,u≤w→w≤v→Gx (Zb b w)≠0:=fun w q1 q2=>by
   have:=hbw w q1 q2
   rcases hσ with rfl | rfl
   ·rw [Ce O4];decide
   ·rw [Cf O4];decide
  rw [Zkb _ (hne u O4 huv),Zkb _ (hne v huv O4),hT]
  have hite:∀w,u≤w→w≤v→(Gx (Zb a w)=- Gx (Zb b w)↔σ*Zb a w<0):=fun w q1 q2=>by
   have:=hbw w q1 q2
   rcases hσ with rfl | rfl
   ·rw [Ce (x:=Zb b w) O4,Zf2]
    constructor<;>intro<;>grind
   ·rw [Cf (x:=Zb b w) O4,show(-(-1:Int))=- -1 from rfl]
    have h9:=Zf2 (-(Zb a w))
    rw [Yao]at h9
    constructor
    ·intro h8
     have:=h9.1 O
     grind
    ·intro h8
     have:=h9.2 O4
     omega
  rw [show(if Gx (Zb a u)=- Gx (Zb b u)then(1:Int)else 0)=if σ*Zb a u<0 then 1 else 0 from by simp only [hite u O4 huv]]
  rw [show(if Gx (Zb a v)=- Gx (Zb b v)then(1:Int)else 0)=if σ*Zb a v<0 then 1 else 0 from by simp only [hite v huv O4]]
  have hcrs:crs (Zb a) u v=if σ*Zb a u<0∧¬σ*Zb a v<0 then 1 else 0:=by
   unfold crs
   have hpp:Zb a u*Zb a v=(σ*Zb a u)*(σ*Zb a v):=by rcases hσ with rfl | rfl<;>grind
   have hz:Zb a u≠0↔σ*Zb a u≠0:=by rcases hσ with rfl | rfl<;>constructor<;>intro h9 h8<;>exact h9 O4
   have hiff:(Zb a u≠0∧Zb a u*Zb a v≤0)↔(σ*Zb a u<0∧¬σ*Zb a v<0):=by
    rw [hpp,hz]
    generalize hp:σ*Zb a u=p at *
    generalize hq:σ*Zb a v=q at *
    constructor
    ·intro ⟨n1,n2⟩
     rcases(show u<v∨u=v by grind)with hlt | heq
     ·have:=hmono hlt
      rcases(show p<0∨0<p by grind)with n3 | n3
      ·refine⟨n3,fun n4=>?_⟩
       have:=Rat.mul_pos (show 0 < -p by grind) (show 0 < -q by grind)
       grind
      ·have:=Rat.mul_pos n3 (show 0<q by grind)
       grind
     ·exfalso
      have:q=p:=by rw [←hp,←hq,heq]
      rw [this]at n2
      rcases(show p<0∨0<p by grind)with n3 | n3
      ·have:=Rat.mul_pos (show 0 < -p by grind) (show 0 < -p by grind)
       grind
      ·have:=Rat.mul_pos n3 n3
       grind
    ·intro ⟨n1,n2⟩
     refine⟨O4,?_⟩
     have:=Rat.mul_nonneg (show 0≤-p by grind) (show 0≤q by grind)
     grind
   simp only [hiff]
  rw [hcrs]
  by_cases k1:σ*Zb a u<0<;>by_cases k2:σ*Zb a v<0
  ·simp [k1,k2]
  ·simp [k1,k2]
   omega
  ·exfalso
   rcases(show u<v∨u=v by grind)with hlt | heq
   ·have:=hmono hlt;grind
   ·rw [heq]at k1;exact k1 k2
  ·simp [k1,k2]
theorem Zho{s t:Rat}{f:Nat}{a b:List Int}(ha:Tr a)(hb:Tr b)(h0:a≠[])(hok:cok f a b){κ:Rat}(hκ:0<κ)(hder:∀x,Zb (ld a) x=κ*Zb b x)(hc:∀q,Tr q→Ed q a→Ed q b→q.length≤1) :
  ∃h:Rat,0<h∧∀u v,s≤u→u≤v→v≤t→v-u≤h→vat ((Nu f a b).map Zb) u-vat ((Nu f a b).map Zb) v=crs (Zb a) u v:=by
 obtain⟨ε,e1,e2⟩:=Zv8 ha hb h0 hc s t
 obtain⟨L,l1,l2⟩:=Et s t a
 obtain⟨L',l1',l2'⟩:=Et s t b
 obtain⟨M,m1,m2⟩:=Zgv s t a
 obtain⟨h1,h2,h3,h4⟩:=Ih (show(0:Rat)<1 by decide) (show 0<L+L' by grind) (show 0<ε/2 by grind)
 obtain⟨h,h5,h6,h7⟩:=Ih h2 m1 (show 0<κ*ε/2 by have:=Rat.mul_pos hκ e1;grind)
 refine⟨h,h5,fun u v hs huv ht hh=>Zfx ha hb hok hκ hder e1 e2 O4 l2 O4 l2' O4 m2 h5 ?_ h7 hs huv ht hh⟩
 have:=Rat.mul_nonneg (a:=L+L') (b:=h1-h) O4 O4
 grind
theorem Ycj:∀(n m:Nat) (f:Nat→Nat),(∀k,k<n→f k<m)→(∀a b,a<n→b<n→f a=f b→a=b)→n≤m
 | 0,_,_,_,_=>Nat.zero_le _
 | n+1,m,f,hf,hi=>by
  have h0:=hf n O
  have:=Ycj n (m-1) (fun k=>if f n<f k then f k-1 else f k) (fun k hk=>by
   have h1:=hf k O
   have h2:f k≠f n:=fun e=>by have:=hi k n O O e;omega
   split<;>omega) (fun a b ha hb e=>by
   have h2:f a≠f n:=fun e=>by have:=hi a n O O e;omega
   have h3:f b≠f n:=fun e=>by have:=hi b n O O e;omega
   refine hi a b O O ?_
   split at e<;>split at e<;>omega)
  omega
theorem php{n m:Nat}{f:Nat→Nat}(h:m<n)(hf:∀k,k<n→f k<m):∃a b,a<n∧b<n∧a≠b∧f a=f b:=by
 refine Classical.byContradiction fun h9=>?_
 have:=Ycj n m f hf fun a b ha hb e=>Classical.byContradiction fun h8=>h9 ⟨a,b,ha,hb,h8,e⟩
 omega
def enc(B:Nat)(d:Nat→Nat):Nat→Nat
 | 0=>0
 | n+1=>enc B d n+d n*B^n
theorem Znf{B:Nat}{d:Nat→Nat} : ∀n,(∀i,i<n→d i<B)→enc B d n<B^n
 | 0,_=>by simp [enc]
 | n+1,h=>by
  have h1:=Znf n fun i hi=>h i O
  have h2:=h n O
  have h3:(d n+1)*B^n≤B*B^n:=Nat.mul_le_mul_right _ h2
  rw [Nat.add_mul,Nat.one_mul]at h3
  rw [Nat.pow_succ,Nat.mul_comm (B^n) B]
  show enc B d n+d n*B^n<_
  omega
theorem Zvs{B:Nat}{d e:Nat→Nat} : ∀n,(∀i,i<n→d i<B)→(∀i,i<n→e i<B)→enc B d n=enc B e n→∀i,i<n→d i=e i
 | 0,_,_,_,i,hi=>absurd hi (Nat.not_lt_zero i)
 | n+1,h1,h2,h,i,hi=>by
  have a1:=Znf n fun i hi=>h1 i O
  have a2:=Znf n fun i hi=>h2 i O
  have h:enc B d n+d n*B^n=enc B e n+e n*B^n:=h
  have hp:0<B^n:=O
  have hd:d n=e n:=by
   have b1:(enc B d n+d n*B^n)/B^n=d n:=by rw [Nat.add_mul_div_right _ _ hp,Nat.div_eq_of_lt a1,Nat.zero_add]
   have b2:(enc B e n+e n*B^n)/B^n=e n:=by rw [Nat.add_mul_div_right _ _ hp,Nat.div_eq_of_lt a2,Nat.zero_add]
   rw [←b1,←b2,h]
  rcases Nat.lt_or_ge i n with h3 | h3
  ·exact Zvs n (fun i hi=>h1 i O) (fun i hi=>h2 i O) (by rw [hd]at h;omega) i h3
  ·rw [show i=n by omega];exact hd
def dig(B k j:Nat):Nat:=k/B^j%B
theorem Zng(B k:Nat):∀n,enc B (dig B k) n=k%B^n
 | 0=>by simp [enc,Nat.mod_one]
 | n+1=>by
  show enc B (dig B k) n+dig B k n*B^n=_
  rw [Zng B k n,Nat.pow_succ,Nat.mod_mul]
  unfold dig;rw [Nat.mul_comm]
theorem Zhn{f:Nat→Int}{C:Int} : ∀n,(∀i,i<n→-C≤f i∧f i≤C)→-((n:Int)*C)≤Zy f n∧Zy f n≤(n:Int)*C
 | 0,_=>by simp [Kw]
 | n+1,h=>by
  have h1:=Zhn n fun i hi=>h i O
  have h2:=h n O
  have h3:((n+1:Nat):Int)*C=(n:Int)*C+C:=by push_cast;grind
  rw [Yi,h3];omega
theorem Zki(f g:Nat→Int):∀n,Zy (fun i=>f i-g i) n=Zy f n-Zy g n
 | 0=>by simp [Kw]
 | n+1=>by rw [Yi,Yi,Yi,Zki f g n];omega
theorem siegel{N M A:Nat}(hMN:M<N)(hA:0<A)(c:Nat→Nat→Int)(hc:∀i j,i<M→j<N→(c i j).natAbs≤A) :
  ∃x:Nat→Int,(∃j,j<N∧x j≠0)∧(∀j,j<N→(x j).natAbs≤(2*N*A)^M)∧∀i,i<M→Zy (fun j=>c i j*x j) N=0:=by
 generalize hX:(2*N*A)^M=X
 generalize hW:N*(A*X)=W
 let d:=fun k j=>dig (X+1) k j
 have hd:∀k j,d k j≤X:=fun k j=>Nat.le_of_lt_succ (Nat.mod_lt _ (Nat.succ_pos X))
 let y:=fun k i=>Zy (fun j=>c i j*(d k j:Int)) N
 have hy:∀k i,i<M→-(W:Int)≤y k i∧y k i≤(W:Int):=fun k i hi=>by
  have h1:=Zhn (f:=fun j=>c i j*(d k j:Int)) (C:=((A*X:Nat):Int)) N fun j hj=>by
   have h2:=hc i j hi hj
   have h3:(c i j*(d k j:Int)).natAbs≤A*X:=by
    rw [Int.natAbs_mul,Int.natAbs_natCast];exact Nat.mul_le_mul h2 (hd k j)
   omega
  have h4:((N:Int)*((A*X:Nat):Int))=(W:Int):=by rw [←hW];push_cast;rfl
  rw [h4]at h1;exact h1
 let e:=fun k=>enc (2*W+1) (fun i=>(y k i+(W:Int)).toNat) M
 have he:∀k i,i<M→(y k i+(W:Int)).toNat<2*W+1:=fun k i hi=>by have:=hy k i hi;omega
 have hlt:(2*W+1)^M<(X+1)^N:=by
  have h1:2*W+1≤(2*N*A)*(X+1):=by
   have:0<N*A:=Nat.mul_pos O hA
   have e1:2*N*A*(X+1)=2*W+2*(N*A):=by rw [←hW];grind
   omega
  have h2:=Nat.pow_le_pow_left h1 M
  rw [Nat.mul_pow,hX]at h2
  have h3:(X+1)^(M+1)≤(X+1)^N:=Nat.pow_le_pow_right O O
  rw [Nat.pow_succ]at h3
  have h4:0<(X+1)^M:=Nat.pow_pos O
  have h5:X*(X+1)^M<(X+1)^M*(X+1):=by rw [Nat.mul_comm];exact Nat.mul_lt_mul_of_pos_left O h4
  omega
 obtain⟨a,b,ha,hb,hab,hf⟩:=php (f:=e) hlt (fun k _=>Znf M (he k))
 have hyy:=Zvs M (he a) (he b) hf
 refine⟨fun j=>(d a j:Int)-(d b j:Int),?_,fun j _=>?_,fun i hi=>?_⟩
 ·refine Classical.byContradiction fun h9=>hab ?_
  have h8:∀j,j<N→d a j=d b j:=fun j hj=>Classical.byContradiction fun h7=>h9 ⟨j,hj,fun h6=>h7 (by have h6:(d a j:Int)-(d b j:Int)=0:=h6;omega)⟩
  have e1:=Zng (X+1) a N
  have e2:=Zng (X+1) b N
  rw [Nat.mod_eq_of_lt ha]at e1
  rw [Nat.mod_eq_of_lt hb]at e2
  have e3:∀n,n≤N→enc (X+1) (dig (X+1) a) n=enc (X+1) (dig (X+1) b) n:=fun n=>by
   induction n with
   | zero=>intro _;rfl
   | succ n ih=>
    intro hn
    have h7:dig (X+1) a n=dig (X+1) b n:=h8 n O
    show enc _ _ n+dig (X+1) a n*_=enc _ _ n+dig (X+1) b n*_
    rw [ih O,h7]
  rw [←e1,←e2];exact e3 N (Nat.le_refl _)
 ·have h1:=hd a j
  have h2:=hd b j
  dsimp only;omega
 ·have h1:Zy (fun j=>c i j*((d a j:Int)-(d b j:Int))) N=y a i-y b i:=by
   rw [←Zki];exact Yu fun j _=>O4
  rw [h1]
  have h2:=hyy i hi
  have h3:=hy a i hi
  have h4:=hy b i hi
  omega
theorem Zfv(f:Nat→Int)(p:Nat):∀q,Zy f (p+q)=Zy f p+Zy (fun k=>f (p+k)) q
 | 0=>by simp [Kw]
 | q+1=>by rw [←Nat.add_assoc,Yi,Yi,Zfv f p q];omega
def sft(a:List Int)(t k:Nat):Int:=if k≤t then cf a (t-k)else 0
theorem Zjc{U a:List Int}{p:Nat}(h:U.length=p)(t:Nat):(ps U*ps a).c t=Zy (fun k=>sft a t k*cf U k) p:=by
 rw [←Zrg,←h]
 refine Yu fun k _=>?_
 unfold sft;split<;>grind
theorem Zb3{U a:List Int}{p t:Nat}(h:U.length≤p)(ht:p+a.length≤t+1):(ps U*ps a).c t=0:=by
 rw [PS.mul_c]
 refine Hb fun k hk=>?_
 rw [Oj,Oj]
 rcases Nat.lt_or_ge k U.length with h1 | h1
 ·rw [Yl (p:=a) O,Int.mul_zero]
 ·rw [Yl h1,Int.zero_mul]
theorem Zfz{a b:List Int}{p q lo A:Nat}(hA:0<A)(ha:∀i,(cf a i).natAbs≤A)(hb:∀i,(cf b i).natAbs≤A)(h0:0<p+q)(h1:p+a.length≤p+q+lo)(h2:q+b.length≤p+q+lo) :
  ∃U V:List Int,U.length=p∧V.length=q∧((∃i,cf U i≠0)∨∃i,cf V i≠0)∧(∀i,(cf U i).natAbs≤(2*(p+q)*A)^(p+q-1))∧(∀i,(cf V i).natAbs≤(2*(p+q)*A)^(p+q-1))∧
   ∀t,lo≤t→(ps U*ps a).c t+(ps V*ps b).c t=0:=by
 obtain⟨x,⟨j,hj,hne⟩,hx,he⟩:=siegel (N:=p+q) (M:=p+q-1) (A:=A) O hA (fun i j=>if j<p then sft a (lo+i) j else sft b (lo+i) (j-p)) (fun i j _ _=>by
  split<;>unfold sft<;>split
  ·exact ha _
  ·simp
  ·exact hb _
  ·simp)
 have cU:∀i,cf (mk p x) i=if i<p then x i else 0:=fun i=>Mh _ _ _
 have cV:∀i,cf (mk q fun k=>x (p+k)) i=if i<q then x (p+i)else 0:=fun i=>Mh _ _ _
 refine⟨mk p x,mk q fun k=>x (p+k),Yq _ _,Yq _ _,?_,fun i=>?_,fun i=>?_,fun t ht=>?_⟩
 ·rcases Nat.lt_or_ge j p with h | h
  ·exact .inl ⟨j,by rw [cU,if_pos h];exact hne⟩
  ·exact .inr ⟨j-p,by rw [cV,if_pos O,show p+(j-p)=j by omega];exact hne⟩
 ·rw [cU];split
  ·exact hx i O
  ·exact Nat.zero_le _
 ·rw [cV];split
  ·exact hx _ O
  ·exact Nat.zero_le _
 ·rcases Nat.lt_or_ge (t-lo) (p+q-1)with h | h
  ·have h3:=he (t-lo) h
   rw [show lo+(t-lo)=t by omega,Zfv]at h3
   rw [Zjc (Yq _ _),Zjc (Yq _ _),←h3]
   congr 1
   ·exact Yu fun k hk=>by rw [if_pos hk,cU,if_pos hk]
   ·exact Yu fun k hk=>by rw [if_neg O,cV,if_pos hk,show p+k-p=k by omega]
  ·rw [Zb3 (Nat.le_of_eq (Yq _ _)) O,Zb3 (Nat.le_of_eq (Yq _ _)) O];rfl
theorem Zv9{U a:List Int}{p t X A:Nat}(h:U.length=p)(hU:∀i,(cf U i).natAbs≤X)(ha:∀i,(cf a i).natAbs≤A):((ps U*ps a).c t).natAbs≤p*(X*A):=by
 rw [Zjc h]
 have h1:=Zhn (f:=fun k=>sft a t k*cf U k) (C:=((X*A:Nat):Int)) p fun k _=>by
  have:(sft a t k*cf U k).natAbs≤X*A:=by
   rw [Int.natAbs_mul,Nat.mul_comm]
   refine Nat.mul_le_mul (hU k) ?_
   unfold sft;split
   ·exact ha _
   ·simp
  omega
 have h2:((p:Int)*((X*A:Nat):Int))=((p*(X*A):Nat):Int):=by push_cast;rfl
 rw [h2]at h1;omega
theorem Zdz{w q y:List Int}{n:Nat}(h:∀x,Zb w x=Zb q x*Zb y x)(hy:Tr y)(h0:y≠[])(hn:∀i,n≤i→cf w i=0):tzl q=[]∨(tzl q).length+y.length≤n+1:=by
 by_cases hq:tzl q=[]
 ·exact .inl hq
 ·right
  have hc:∀i,cf w i=(ps (tzl q)*ps y).c i:=fun i=>by
   rw [Od (p:=w) (q:=lmul (tzl q) y) (fun x=>by rw [Zq,Ma];exact h x) i,Gs,PS.mul_c];rfl
  have l1:=List.length_pos_iff.2 hq
  have l2:=List.length_pos_iff.2 h0
  have ht:=Dz (p:=tzl q) (q:=y) (a:=(tzl q).length-1) (b:=y.length-1) (fun i hi=>Yl O) (fun i hi=>Yl O)
  rw [←hc]at ht
  have hne:=Int.mul_ne_zero ((Xp q).mem hq) (hy.mem h0)
  rcases Nat.lt_or_ge ((tzl q).length-1+(y.length-1)) n with h9 | h9
  ·omega
  ·rw [hn _ h9]at ht;exact absurd ht.symm hne
theorem Gk{v f:List Int}(hv:tzl v≠[])(h:∀x,Zb v x*Zb f x=0)(x:Rat):Zb f x=0:=by
 by_cases hf:tzl f=[]
 ·rw [←Ma,hf];rfl
 ·exfalso
  rcases Zdz (w:=[]) (q:=v) (y:=tzl f) (n:=0) (fun x=>by rw [Ma,h x];rfl) (Xp f) hf (fun i _=>Az i)with h9 | h9
  ·exact hv h9
  ·have:=List.length_pos_iff.2 hf
   have:=List.length_pos_iff.2 hv
   omega
structure Inv (a b x y:List Int):Prop where
 ex:∃(α β γ:Int) (u' v' u v:List Int),α≠0∧β≠0∧γ≠0∧
  (∀t:Rat,(α:Rat)*Zb x t=Zb u' t*Zb a t+Zb v' t*Zb b t)∧(∀t:Rat,(β:Rat)*Zb y t=Zb u t*Zb a t+Zb v t*Zb b t)∧
  (∀t:Rat,Zb u' t*Zb v t-Zb u t*Zb v' t=(γ:Rat))∧(tzl v).length≤a.length-x.length+1∧(tzl v').length≤a.length-x.length+1
 xl:x.length≤b.length
 yl:y.length<x.length
theorem Zus{x q y z:List Int}{L:Int}{c:Int}(hy:Tr y)(h0:y≠[])(hz:z.length≤x.length)(h:∀t:Rat,(L:Rat)*Zb x t=Zb q t*Zb y t+(c:Rat)*Zb z t):tzl q=[]∨(tzl q).length+y.length≤x.length+1:=
 Zdz (w:=Nj (x.map fun a=>L*a) (z.map fun a=>(-c)*a)) (n:=x.length) (fun t=>by rw [Xd,Ze,Ze];have:=h t;push_cast;grind) hy h0 fun i hi=>by
  rw [Md,Xv,Xv,Yl hi,Yl (p:=z) O];omega
theorem Cn{p q:List Int}{m n:Nat}(hp:(tzl p).length≤m)(hq:(tzl q).length≤n)(i:Nat)(hi:m+n≤i+1):cf (lmul p q) i=0:=by
 have h1:cf (lmul p q) i=cf (lmul (tzl p) (tzl q)) i:=Od (fun x=>by rw [Zq,Zq,Ma,Ma]) i
 rw [h1,Gs]
 have h2:=Zb3 (U:=tzl p) (a:=tzl q) (p:=m) (t:=i) hp O
 rw [PS.mul_c]at h2
 exact h2
theorem Zlj{p:List Int}{n:Nat}(h:∀i,n≤i→cf p i=0):(tzl p).length≤n:=Aj h
theorem Zwk{p:List Int}{n i:Nat}(h:(tzl p).length≤n)(hi:n≤i):cf p i=0:=by
 rw [←Lj];exact Yl O
theorem Inv.next{a b x y z z' q:List Int}{L:Int}(hI:Inv a b x y)(hab:b.length≤a.length)(hx:Tr x)(hy:Tr y)(h0:y≠[])(hL:L≠0)(h:∀t:Rat,(L:Rat)*Zb x t=Zb q t*Zb y t+Zb z' t)(hz:Sim z' z)(hzl:z.length<y.length):Inv a b y z:=by
 obtain⟨⟨α,β,γ,u',v',u,v,hα,hβ,hγ,e1,e2,e3,l1,l2⟩,xl,yl⟩:=hI
 obtain⟨m,n,hm,hn,hs⟩:=hz
 have hs':∀t:Rat,(m:Rat)*Zb z' t=(n:Rat)*Zb z t:=fun t=>by
  have:=On t (z'.map fun a=>m*a) (z.map fun a=>n*a) fun i=>by rw [Xv,Xv,hs]
  rwa [Ze,Ze]at this
 have h9:∀t:Rat,((L*m:Int):Rat)*Zb x t=Zb (q.map fun a=>m*a) t*Zb y t+(n:Rat)*Zb z t:=fun t=>by
  rw [Ze];push_cast
  have:=h t;have:=hs' t;grind
 have hql:=Zus hy h0 O h9
 have hqz:(tzl (q.map fun a=>m*a)).length≤x.length-y.length+1:=by
  rcases hql with hq | hq
  ·rw [hq];simp
  ·omega
 generalize hQ:(q.map fun a=>m*a)=Q at *
 have key:∀t:Rat,((n*(α*β):Int):Rat)*Zb z t=Zb (Nj (u'.map fun c=>(L*m*β)*c) ((lmul Q u).map fun c=>(-α)*c)) t*Zb a t+Zb (Nj (v'.map fun c=>(L*m*β)*c) ((lmul Q v).map fun c=>(-α)*c)) t*Zb b t:=fun t=>by
  rw [Xd,Xd,Ze,Ze,Ze,Ze,Zq,Zq]
  have a1:=h9 t;have a2:=e1 t;have a3:=e2 t
  push_cast at a1 ⊢
  have:(n:Rat)*(α*β)*Zb z t=α*β*(n*Zb z t):=O4
  rw [this,show(n:Rat)*Zb z t=L*m*Zb x t-Zb Q t*Zb y t by grind]
  have:(α:Rat)*β*(L*m*Zb x t-Zb Q t*Zb y t)=L*m*β*(α*Zb x t)-α*Zb Q t*(β*Zb y t):=O4
  rw [this,a2,a3];grind
 refine⟨⟨β,n*(α*β),-(L*m*β*γ),u,v,_,_,hβ,Int.mul_ne_zero hn (Int.mul_ne_zero hα hβ),?_,e2,key,fun t=>?_,?_,?_⟩,O,hzl⟩
 ·have:=Int.mul_ne_zero (Int.mul_ne_zero (Int.mul_ne_zero hL hm) hβ) hγ;omega
 ·rw [Xd,Xd,Ze,Ze,Ze,Ze,Zq,Zq]
  have:=e3 t;push_cast;grind
 ·refine Zlj fun i hi=>?_
  rw [Md,Xv,Xv,Zwk (p:=v') l2 O,Cn hqz l1 i O];omega
 ·omega
theorem Inv.first{a b z z' q:List Int}{L:Int}(hab:b.length≤a.length)(ha:Tr a)(hb:Tr b)(h0:b≠[])(hL:L≠0)(h:∀t:Rat,(L:Rat)*Zb a t=Zb q t*Zb b t+Zb z' t)(hz:Sim z' z)(hzl:z.length<b.length):Inv a b b z:=by
 obtain⟨m,n,hm,hn,hs⟩:=hz
 have hs':∀t:Rat,(m:Rat)*Zb z' t=(n:Rat)*Zb z t:=fun t=>by
  have:=On t (z'.map fun a=>m*a) (z.map fun a=>n*a) fun i=>by rw [Xv,Xv,hs]
  rwa [Ze,Ze]at this
 have h9:∀t:Rat,((L*m:Int):Rat)*Zb a t=Zb (q.map fun a=>m*a) t*Zb b t+(n:Rat)*Zb z t:=fun t=>by
  rw [Ze];push_cast
  have:=h t;have:=hs' t;grind
 have hql:=Zus hb h0 O h9
 have hqz:(tzl (q.map fun a=>m*a)).length≤a.length-b.length+1:=by
  rcases hql with hq | hq
  ·rw [hq];simp
  ·omega
 generalize hQ:(q.map fun a=>m*a)=Q at *
 refine⟨⟨1,n,-(L*m),[],[1],[L*m],Q.map fun c=>(-1)*c,O3,hn,?_,fun t=>?_,fun t=>?_,fun t=>?_,?_,?_⟩,Nat.le_refl _,hzl⟩
 ·have:=Int.mul_ne_zero hL hm;omega
 ·rw [Qq];show _=(0:Rat)*_+_;grind
 ·rw [Qq,Ze];have:=h9 t;push_cast at this ⊢;grind
 ·rw [Qq,Qq];show(0:Rat)*_-_=_;push_cast;grind
 ·refine Zlj fun i hi=>?_
  rw [Xv,Zwk hqz O];omega
 ·refine Nat.le_trans (Ko _) ?_
  simp
theorem Ze6{n:Nat}{a:List Int}(h:Sz n a)(i:Nat):(cf a i).natAbs≤2^n:=Nat.le_of_lt ((Xw n _).1 (h i))
theorem Cg{p:List Int}(h:tzl p=[])(x:Rat):Zb p x=0:=by rw [←Ma,h];rfl
theorem tzl_ne{p:List Int}{i:Nat}(h:cf p i≠0):tzl p≠[]:=fun e=>h ((Mu p).1 e i)
theorem nn_eq{x a b:Nat}(h1:x≤b)(h2:b≤a):b-x+1+(a-x+1)=a+b-2*x+2:=O
theorem Inv.bound{a b x y:List Int}{n s:Nat}(hI:Inv a b x y)(hab:b.length≤a.length)(ha:Tr a)(hx:Tr x)(hy:Tr y)(h0:y≠[])(hp:Ym y=1)(na:Sz n a)(nb:Sz n b)(hs:a.length+b.length-2*x.length+2≤2^s) :
  Qk y≤(s+1+n)*(a.length+b.length-2*x.length+2):=by
 obtain⟨⟨α,β,γ,u',v',u,v,hα,hβ,hγ,e1,e2,e3,l1,l2⟩,xl,yl⟩:=hI
 have hy1:=List.length_pos_iff.2 h0
 have hx0:x≠[]:=fun e=>by rw [e]at yl;simp at yl
 have ha0:a≠[]:=fun e=>by
  have h9:a.length=0:=by rw [e];rfl
  omega
 obtain⟨U,V,lU,lV,hne,bU,bV,hz⟩:=Zfz (a:=a) (b:=b) (p:=b.length-x.length+1) (q:=a.length-x.length+1) (lo:=x.length-1) (A:=2^n) (Nat.pow_pos O3) (Ze6 na) (Ze6 nb) O O O
 have hv:a.length+1≤(tzl v).length+x.length:=by
  refine Classical.byContradiction fun h9=>?_
  have hid:∀i,cf (Nj (a.map fun c=>γ*c) ((lmul y v').map fun c=>β*c)) i=cf (lmul (tzl v) (x.map fun c=>α*c)) i:=fun i=>Od (fun t=>by
   rw [Xd,Ze,Ze,Zq,Zq,Ze,Ma]
   have a1:=e1 t;have a2:=e2 t;have a3:=e3 t
   have:Zb v t*(α*Zb x t)=(Zb u' t*Zb v t-Zb u t*Zb v' t)*Zb a t+(Zb u t*Zb a t+Zb v t*Zb b t)*Zb v' t:=by rw [a1];grind
   rw [this,a3,←a2];grind) i
  have h1:=hid (a.length-1)
  rw [Md,Xv,Xv,Cn (m:=y.length) (n:=a.length-x.length+1) (Ko _) l2 _ O,Gs]at h1
  have h2:=Zb3 (U:=tzl v) (a:=x.map fun c=>α*c) (p:=(tzl v).length) (t:=a.length-1) (Nat.le_refl _) (by rw [List.length_map];omega)
  rw [PS.mul_c]at h2
  have h3:Zy (fun k=>cf (tzl v) k*cf (x.map fun c=>α*c) (a.length-1-k)) (a.length-1+1)=0:=h2
  rw [h3]at h1
  have:=Int.mul_ne_zero hγ (ha.mem ha0)
  omega
 have hvne:tzl v≠[]:=fun e=>by rw [e]at hv;simp at hv;omega
 have cR:∀i,cf (Nj (lmul U a) (lmul V b)) i=(ps U*ps a).c i+(ps V*ps b).c i:=fun i=>by
  rw [Md,Gs,Gs,PS.mul_c,PS.mul_c];rfl
 generalize hR:Nj (lmul U a) (lmul V b)=R at cR
 have rR:∀t,Zb R t=Zb U t*Zb a t+Zb V t*Zb b t:=fun t=>by rw [←hR,Xd,Zq,Zq]
 have lR:(tzl R).length≤x.length-1:=Zlj fun i hi=>by rw [cR];exact hz i hi
 have hf:tzl (Nj (lmul U v) ((lmul u V).map fun c=>(-1)*c))=[]:=by
  rcases Zdz (w:=Nj (lmul R v) ((lmul y V).map fun c=>(-β)*c)) (q:=Nj (lmul U v) ((lmul u V).map fun c=>(-1)*c)) (y:=a) (n:=a.length-1) (fun t=>by
   rw [Xd,Ze,Zq,Zq,Xd,Ze,Zq,Zq,rR]
   have a2:=e2 t
   push_cast
   have:(-(β:Rat))*(Zb y t*Zb V t)=- (β*Zb y t)*Zb V t:=O4
   rw [this,a2];grind) ha ha0 (fun i hi=>by
   rw [Md,Xv,Cn lR l1 i O,Cn (m:=y.length) (n:=a.length-x.length+1) (Ko _) (Nat.le_trans (Ko _) (Nat.le_of_eq lV)) i O];omega)with h9 | h9
  ·exact h9
  ·refine Classical.byContradiction fun h8=>?_
   have:=List.length_pos_iff.2 h8;omega
 have huv:∀t,Zb U t*Zb v t=Zb u t*Zb V t:=fun t=>by
  have:=Cg hf t
  rw [Xd,Ze,Zq,Zq]at this
  push_cast at this;grind
 have hRv:∀t,Zb R t*Zb v t=β*Zb y t*Zb V t:=fun t=>by
  rw [rR,e2 t]
  have:=huv t;grind
 have hw:∀t,(γ:Rat)*Zb V t=Zb v t*Zb (Nj (lmul u' V) ((lmul v' U).map fun c=>(-1)*c)) t:=fun t=>by
  rw [Xd,Ze,Zq,Zq,←e3 t]
  have:=huv t;push_cast;grind
 generalize Nj (lmul u' V) ((lmul v' U).map fun c=>(-1)*c)=w at hw
 have hV:tzl V≠[]:=fun e=>by
  rcases hne with⟨i,hi⟩ | ⟨i,hi⟩
  ·refine hi (Od (p:=U) (q:=[]) (fun t=>?_) i▸Az i)
   exact Gk (v:=v) (f:=U) hvne (fun t=>by have:=huv t;rw [Cg e]at this;grind) t
  ·exact tzl_ne hi e
 have hwl:∃c:Int,c≠0∧∀t,Zb w t=(c:Rat):=by
  have hwne:tzl w≠[]:=fun e=>hV ((Mu V).2 fun i=>by
   have:=Od (p:=V.map fun c=>γ*c) (q:=[]) (fun t=>by rw [Ze,hw t,Cg e];show _=(0:Rat);grind) i
   rw [Xv,Az]at this
   exact(Int.mul_eq_zero.1 this).resolve_left hγ)
  rcases Zdz (w:=V.map fun c=>γ*c) (q:=w) (y:=tzl v) (n:=a.length-x.length+1) (fun t=>by rw [Ze,Ma,hw t];grind) (Xp v) hvne (fun i hi=>by rw [Xv,Yl O];omega)with h9 | h9
  ·exact absurd h9 hwne
  ·have h8:=List.length_pos_iff.2 hwne
   have h7:(tzl w).length=1:=O
   match hc:tzl w,h7 with
   | [c],_=>
    refine⟨c,?_,fun t=>by rw [←Ma,hc,Qq]⟩
    have:=(Xp w).mem hwne
    rw [hc]at this;exact this
 obtain⟨c,hc0,hc⟩:=hwl
 have hsim:Sim R y:=by
  refine⟨γ,β*c,hγ,Int.mul_ne_zero hβ hc0,fun i=>?_⟩
  have:=Od (p:=R.map fun d=>γ*d) (q:=y.map fun d=>(β*c)*d) (fun t=>by
   rw [Ze,Ze];push_cast
   have h1:Zb (Nj (R.map fun d=>γ*d) (y.map fun d=>(-(β*c))*d)) t=0:=Gk (v:=v) hvne (fun t=>by
    rw [Xd,Ze,Ze];push_cast
    have a1:=hRv t;have a2:=hw t;rw [hc]at a2
    have:Zb v t*(γ*Zb R t + -(β*c:Rat)*Zb y t)=γ*(Zb R t*Zb v t)-β*Zb y t*(Zb v t*c):=O4
    rw [this,a1,←a2];grind) t
   rw [Xd,Ze,Ze]at h1
   push_cast at h1;grind) i
  rwa [Xv,Xv]at this
 have hsz:Sz ((s+1+n)*(a.length+b.length-2*x.length+2)) R:=fun i=>by
  rw [cR]
  have c1:=Zv9 (t:=i) lU bU (Ze6 na)
  have c2:=Zv9 (t:=i) lV bV (Ze6 nb)
  have hN3:b.length-x.length+1+(a.length-x.length+1)=a.length+b.length-2*x.length+2:=nn_eq xl hab
  rw [←hN3]at hs ⊢
  generalize hN:b.length-x.length+1+(a.length-x.length+1)=N at *
  generalize hXX:(2*N*2^n)^(N-1)=X at *
  have c3:((ps U*ps a).c i+(ps V*ps b).c i).natAbs≤N*(X*2^n):=by
   rw [←hN,Nat.add_mul]
   have:=Int.natAbs_add_le ((ps U*ps a).c i) ((ps V*ps b).c i)
   omega
  refine(Xw _ _).2 (Nat.lt_of_le_of_lt c3 ?_)
  have hX0:0<X:=by rw [←hXX];exact Nat.pow_pos (Nat.mul_pos O (Nat.pow_pos O3))
  have c4:N*(X*2^n)<(2*N*2^n)^N:=by
   have e:(2*N*2^n)^N=X*(2*N*2^n):=by
    rw [←hXX,←Nat.pow_succ,Nat.succ_eq_add_one,show N-1+1=N by omega]
   rw [e]
   have:0<N*(X*2^n):=Nat.mul_pos O (Nat.mul_pos hX0 (Nat.pow_pos O3))
   have e2:X*(2*N*2^n)=2*(N*(X*2^n)):=O4
   omega
  have c5:2*N*2^n≤2^(s+1+n):=by
   rw [Nat.pow_add,Nat.pow_succ]
   exact Nat.mul_le_mul_right _ O
  have c6:=Nat.pow_le_pow_left c5 N
  rw [←Nat.pow_mul]at c6
  exact Nat.lt_of_lt_of_le c4 c6
 have h1:tzl R≠[]:=fun e=>by
  obtain⟨m,k,hm,hk,e9⟩:=hsim
  have:=e9 (y.length-1)
  rw [(Mu R).1 e,Int.mul_zero]at this
  exact Int.mul_ne_zero hk (hy.mem h0) this.symm
 have hsim2:Sim (tzl R) y:=by
  obtain⟨m,k,hm,hk,e9⟩:=hsim
  exact⟨m,k,hm,hk,fun i=>by rw [Lj];exact e9 i⟩
 have h2:=(Qb (Xp R)).trans hsim2
 have h3:∀i,(cf y i).natAbs=(cf (Zt (tzl R)) i).natAbs:=fun i=>by
  rcases Zhq (Yv (Xp R)) hy (fun e=>h1 (List.eq_nil_of_length_eq_zero (by rw [←Zr,e];rfl))) (Mz (Xp R) h1) hp h2 with h9 | h9
  ·rw [h9]
  ·rw [h9 i,Int.natAbs_neg]
 exact Pd fun i=>by rw [h3];exact Gd hsz.tzl i
def Zpt(la lb K:Nat):Prop:=∀l,l≤lb→(l+1)*(K*(la+lb-2*l+2)+1)≤65536
theorem Zq7{la lb K l m:Nat}(h:l≤m):K*(la+lb-2*m+2)≤K*(la+lb-2*l+2):=Nat.mul_le_mul_left _ O
theorem Zen{x y:List Int}{C:Nat}(hy:y≠[])(hl:y.length<x.length)(h1:Qk x≤C)(h2:Qk y≤C)(h:(x.length+1)*(C+1)≤65536):Dc x y=0:=by
 have l1:=List.length_pos_iff.2 hy
 unfold Dc
 rw [if_neg O,if_neg O]
 have h3:(x.length-y.length+1)*(Qk y+1)≤x.length*(C+1):=Nat.mul_le_mul O O
 rw [Nat.add_mul,Nat.one_mul]at h
 rw [if_neg O]
theorem Zyc{a b x y:List Int}(hI:Inv a b x y)(hab:b.length≤a.length)(hx:Tr x)(hy:Tr y)(h0:y≠[]):Inv a b y (Zt (Xy x y)):=by
 obtain⟨k,s,hs⟩:=Bj x h0
 have hL:=Lg (hy.mem h0) k
 generalize cf y (y.length-1)^k=L at hs hL
 have he:∀t:Rat,(L:Rat)*Zb x t=Zb s t*Zb y t+Zb (Xy x y) t:=fun t=>by
  have:=Fs (a:=L) (c:=-1) (x:=x) (s:=s) (y:=y) (z:=Xy x y) (fun t=>by rw [hs t];omega) t
  push_cast at this;grind
 exact hI.next hab hx hy h0 hL he (Qb (Kk hx)).symm (by rw [Zr];exact Pf x h0)
theorem Zd3{p:List Int}(h:Tr p):Zt p=[]∨Ym (Zt p)=1:=by
 by_cases h0:p=[]
 ·left;rw [h0];rfl
 ·right;exact Mz h h0
theorem Ey{x y:List Int}(hx:Tr x)(h0:y≠[]):(Oo x y).length<y.length:=by rw [Av hx];exact Pf x h0
theorem Zyb{a b x y:List Int}(hI:Inv a b x y)(hab:b.length≤a.length)(hx:Tr x)(hy:Tr y)(h0:y≠[]):Inv a b y (Oo x y)∧(Oo x y=[]∨Ym (Oo x y)=1):=by
 have l0:=List.length_pos_iff.2 h0
 have hxy:=hI.yl
 obtain⟨r1,r2,k,u,hk⟩:=Zdu hy h0 x.length x hx O
 have hs:=Ze9 (f:=x.length) hx hy h0 O O
 have htn:Tr (Zcy (Bi x.length x y)):=Xq _ _
 have hK:Ao y^k≠0:=Lg (by have:=Zdy hy h0;omega) _
 constructor
 ·refine hI.next (z':=Bi x.length x y) (q:=u) hab hx hy h0 hK (fun t=>?_) ?_ (Ey hx h0)
  ·have:=Fs (a:=Ao y^k) (c:=-1) (x:=x) (s:=u) (y:=y) (z:=Bi x.length x y) (fun t=>by rw [hk t];omega) t
   push_cast at this ⊢;grind
  ·rw [←hs]
   exact Sim.trans ⟨1,-1,O3,O3,fun i=>by rw [Fu];omega⟩ (Qb htn).symm
 ·rw [←hs];exact Zd3 htn
theorem Zvr{a b:List Int}{n s K:Nat}(hab:b.length≤a.length)(ha:Tr a)(na:Sz n a)(nb:Sz n b)(hs:a.length+b.length≤2^s)(hK:s+1+n≤K)(hN:Zpt a.length b.length K) :
  ∀(f:Nat) (x y:List Int),Inv a b x y→Tr x→Tr y→(y=[]∨Ym y=1)→Qk x≤K*(a.length+b.length-2*x.length+2)→y.length≤f→eok f x y∧Qk (eu f x y)≤K*(a.length+b.length)
 | 0,x,y,hI,hx,hy,hp,hm,hl=>by
  have hxl:=hI.yl
  refine⟨List.eq_nil_of_length_eq_zero O,Nat.le_trans hm (Nat.mul_le_mul_left _ (by have:=hI.xl;omega))⟩
 | f+1,x,y,hI,hx,hy,hp,hm,hl=>by
  have hyl:=hI.yl
  have hxl:=hI.xl
  by_cases h0:y=[]
  ·subst h0
   refine⟨.inl rfl,?_⟩
   rw [Zfl]
   exact Nat.le_trans hm (Nat.mul_le_mul_left _ O)
  ·have l0:=List.length_pos_iff.2 h0
   have hb:=hI.bound hab ha hx hy h0 (hp.resolve_left h0) na nb (s:=s) O
   have hb2:Qk y≤K*(a.length+b.length-2*x.length+2):=Nat.le_trans hb (Nat.mul_le_mul_right _ hK)
   have hd:=Zen h0 hyl hm hb2 (hN x.length hxl)
   have ht:=Kk (q:=y) hx
   have ih:=Zvr hab ha na nb hs hK hN f y (Zt (Xy x y)) (Zyc hI hab hx hy h0) hy (Yv ht) (Zd3 ht) (Nat.le_trans hb2 (Zq7 O)) (by rw [Zr];have:=Pf x h0;omega)
   refine⟨.inr ⟨hd,ih.1⟩,?_⟩
   rw [show eu (f+1) x y=eu f y (Zt (Xy x y)) by
     conv=>lhs;unfold eu
     rw [if_neg h0]]
   exact ih.2
theorem Zwb{a b:List Int}{n s K:Nat}(hab:b.length≤a.length)(ha:Tr a)(na:Sz n a)(nb:Sz n b)(hs:a.length+b.length≤2^s)(hK:s+1+n≤K)(hN:Zpt a.length b.length K) :
  ∀(f:Nat) (x y:List Int),Inv a b x y→Tr x→Tr y→(y=[]∨Ym y=1)→Qk x≤K*(a.length+b.length-2*x.length+2)→y.length≤f→cok f x y∧∀p∈Nu f x y,Qk p≤K*(a.length+b.length)∧p.length≤a.length
 | 0,x,y,hI,hx,hy,hp,hm,hl=>by
  have hxl:=hI.yl
  have hxl2:=hI.xl
  have h0:y=[]:=List.eq_nil_of_length_eq_zero O
  refine⟨h0,fun p hp=>?_⟩
  have:p=x:=by unfold Nu at hp;simpa using hp
  rw [this]
  exact⟨Nat.le_trans hm (Nat.mul_le_mul_left _ O),O⟩
 | f+1,x,y,hI,hx,hy,hp,hm,hl=>by
  have hyl:=hI.yl
  have hxl:=hI.xl
  by_cases h0:y=[]
  ·subst h0
   refine⟨.inl rfl,fun p hp=>?_⟩
   rw [Ds]at hp
   have:p=x:=by simpa using hp
   rw [this]
   exact⟨Nat.le_trans hm (Nat.mul_le_mul_left _ O),O⟩
  ·have l0:=List.length_pos_iff.2 h0
   have hb:=hI.bound hab ha hx hy h0 (hp.resolve_left h0) na nb (s:=s) O
   have hb2:Qk y≤K*(a.length+b.length-2*x.length+2):=Nat.le_trans hb (Nat.mul_le_mul_right _ hK)
   have hd:=Zen h0 hyl hm hb2 (hN x.length hxl)
   obtain⟨i1,i2⟩:=Zyb hI hab hx hy h0
   have ih:=Zwb hab ha na nb hs hK hN f y (Oo x y) i1 hy (Zak hx) i2 (Nat.le_trans hb2 (Zq7 O)) (by have:=Ey hx h0;omega)
   refine⟨.inr ⟨hd,O,ih.1⟩,fun p hp=>?_⟩
   unfold Nu at hp
   rw [if_neg h0]at hp
   rcases List.mem_cons.1 hp with rfl | hp
   ·exact⟨Nat.le_trans hm (Nat.mul_le_mul_left _ O),O⟩
   ·exact ih.2 p hp
theorem Yhq{a b:List Int}{n s K f:Nat}(hab:b.length<a.length)(ha:Tr a)(hb:Tr b)(na:Sz n a)(nb:Sz n b)(hs:a.length+b.length≤2^s)(hK:s+1+n≤K)(hN:Zpt a.length b.length K)(hd:(a.length+1)*(n+1)≤65536)(hf:b.length≤f) :
  eok f a b∧Qk (eu f a b)≤K*(a.length+b.length):=by
 have ma:=Pd na
 have mb:=Pd nb
 have la:0<a.length:=O
 have hKn:n≤K*(a.length+b.length):=Nat.le_trans (by omega:n≤K*1) (Nat.mul_le_mul_left _ O)
 by_cases h0:b=[]
 ·subst h0
  cases f with
  | zero=>exact⟨rfl,by rw [Zfl];omega⟩
  | succ f=>exact⟨.inl rfl,by rw [Zfl];omega⟩
 ·have l0:=List.length_pos_iff.2 h0
  obtain⟨g,rfl⟩:∃g,f=g+1:=⟨f-1,O⟩
  have ht:=Kk (q:=b) ha
  obtain⟨k,q,hq⟩:=Bj a h0
  have hL:=Lg (hb.mem h0) k
  generalize cf b (b.length-1)^k=L at hq hL
  have he:∀t:Rat,(L:Rat)*Zb a t=Zb q t*Zb b t+Zb (Xy a b) t:=fun t=>by
   have:=Fs (a:=L) (c:=-1) (x:=a) (s:=q) (y:=b) (z:=Xy a b) (fun t=>by rw [hq t];omega) t
   push_cast at this;grind
  have hI:Inv a b b (Zt (Xy a b)):=Inv.first O ha hb h0 hL he (Qb ht).symm (by rw [Zr];exact Pf a h0)
  have ih:=Zvr O ha na nb hs hK hN g b (Zt (Xy a b)) hI hb (Yv ht) (Zd3 ht) (Nat.le_trans (by omega:Qk b≤K*1) (Nat.mul_le_mul_left _ O)) (by rw [Zr];have:=Pf a h0;omega)
  refine⟨.inr ⟨Zen h0 hab ma mb hd,ih.1⟩,?_⟩
  rw [show eu (g+1) a b=eu g b (Zt (Xy a b)) by
    conv=>lhs;unfold eu
    rw [if_neg h0]]
  exact ih.2
theorem Yh7{a b:List Int}{n s K f:Nat}(hab:b.length<a.length)(ha:Tr a)(hb:Tr b)(na:Sz n a)(nb:Sz n b)(hs:a.length+b.length≤2^s)(hK:s+1+n≤K)(hN:Zpt a.length b.length K)(hd:(a.length+1)*(n+1)≤65536)(hf:b.length≤f) :
  cok f a b∧∀p∈Nu f a b,Qk p≤K*(a.length+b.length)∧p.length≤a.length:=by
 have ma:=Pd na
 have mb:=Pd nb
 have la:0<a.length:=O
 have hKn:n≤K*(a.length+b.length):=Nat.le_trans (by omega:n≤K*1) (Nat.mul_le_mul_left _ O)
 by_cases h0:b=[]
 ·subst h0
  have hall:∀p∈Nu f a [],Qk p≤K*(a.length+([]:List Int).length)∧p.length≤a.length:=fun p hp=>by
   rw [Ds]at hp
   have:p=a:=by simpa using hp
   rw [this];exact⟨O,Nat.le_refl _⟩
  cases f with
  | zero=>exact⟨rfl,hall⟩
  | succ f=>exact⟨.inl rfl,hall⟩
 ·have l0:=List.length_pos_iff.2 h0
  obtain⟨g,rfl⟩:∃g,f=g+1:=⟨f-1,O⟩
  obtain⟨r1,r2,k,u,hk⟩:=Zdu hb h0 a.length a ha O
  have hs':=Ze9 (f:=a.length) ha hb h0 O O
  have htn:Tr (Zcy (Bi a.length a b)):=Xq _ _
  have hKK:Ao b^k≠0:=Lg (by have:=Zdy hb h0;omega) _
  have hI:Inv a b b (Oo a b):=by
   refine Inv.first (z':=Bi a.length a b) (q:=u) O ha hb h0 hKK (fun t=>?_) ?_ (Ey ha h0)
   ·have:=Fs (a:=Ao b^k) (c:=-1) (x:=a) (s:=u) (y:=b) (z:=Bi a.length a b) (fun t=>by rw [hk t];omega) t
    push_cast at this ⊢;grind
   ·rw [←hs']
    exact Sim.trans ⟨1,-1,O3,O3,fun i=>by rw [Fu];omega⟩ (Qb htn).symm
  have hp:Oo a b=[]∨Ym (Oo a b)=1:=by rw [←hs'];exact Zd3 htn
  have ih:=Zwb O ha na nb hs hK hN g b (Oo a b) hI hb (Zak ha) hp (Nat.le_trans (by omega:Qk b≤K*1) (Nat.mul_le_mul_left _ O)) (by have:=Ey ha h0;omega)
  refine⟨.inr ⟨Zen h0 hab ma mb hd,O,ih.1⟩,fun p hp=>?_⟩
  unfold Nu at hp
  rw [if_neg h0]at hp
  rcases List.mem_cons.1 hp with rfl | hp
  ·exact⟨O,Nat.le_refl _⟩
  ·exact ih.2 p hp
def al:List Int→List Int→List Int
 | [],g=>g
 | a :: f,[]=>a :: f
 | a :: f,b :: g=>(a+b) :: al f g
def Cc(c:Int)(f:List Int):List Int:=f.map (c*·)
def ddl(k:Nat):List Int→List Int
 | []=>[]
 | b :: g=>(k:Int)*b :: ddl (k+1) g
def dl(f:List Int):List Int:=ddl 1 f.tail
def xl:List Int→List Int
 | []=>[]
 | a :: f=>0 :: a :: f
def fc:Nat→Int
 | 0=>1
 | k+1=>((k:Int)+1)*fc k
def Ik:Nat→List Int→List Int→Int
 | k,a :: f,b :: g=>fc k*(a*b)+Ik (k+1) f g
 | _,_,_=>0
theorem Zi1(k:Nat)(f:List Int):Ik k f []=0:=by cases f<;>rfl
theorem Yez(f:List Int):al f []=f:=by cases f<;>rfl
theorem Zwz:∀f g:List Int,al f g=al g f
 | [],g=>(Yez g).symm
 | a :: f,[]=>rfl
 | a :: f,b :: g=>by show(a+b) :: al f g=(b+a) :: al g f;rw [Zwz f g,Int.add_comm]
theorem Zrf:∀f g h:List Int,al (al f g) h=al f (al g h)
 | [],g,h=>rfl
 | a :: f,[],h=>rfl
 | a :: f,b :: g,[]=>rfl
 | a :: f,b :: g,c :: h=>by
  show(a+b+c) :: al (al f g) h=(a+(b+c)) :: al f (al g h)
  rw [Zrf f g h,Int.add_assoc]
instance:Std.Commutative al:=⟨Zwz⟩
instance:Std.Associative al:=⟨Zrf⟩
theorem Yak(c:Int):∀f g,Cc c (al f g)=al (Cc c f) (Cc c g)
 | [],g=>rfl
 | a :: f,[]=>rfl
 | a :: f,b :: g=>by
  show c*(a+b) :: Cc c (al f g)=(c*a+c*b) :: al (Cc c f) (Cc c g)
  rw [Yak c f g,Int.mul_add]
theorem Zui(c d:Int):∀f,Cc (c+d) f=al (Cc c f) (Cc d f)
 | []=>rfl
 | a :: f=>by
  show(c+d)*a :: Cc (c+d) f=(c*a+d*a) :: al (Cc c f) (Cc d f)
  rw [Zui c d f,Int.add_mul]
theorem Zgt:∀f,Cc 1 f=f
 | []=>rfl
 | a :: f=>by show 1*a :: Cc 1 f=a :: f;rw [Zgt f,Int.one_mul]
theorem Ydp:∀k f g,ddl k (al f g)=al (ddl k f) (ddl k g)
 | k,[],g=>rfl
 | k,a :: f,[]=>rfl
 | k,a :: f,b :: g=>by
  show(k:Int)*(a+b) :: ddl (k+1) (al f g)=((k:Int)*a+(k:Int)*b) :: al (ddl (k+1) f) (ddl (k+1) g)
  rw [Ydp (k+1) f g,Int.mul_add]
theorem Zv0(c:Int):∀k f,ddl k (Cc c f)=Cc c (ddl k f)
 | k,[]=>rfl
 | k,a :: f=>by
  show(k:Int)*(c*a) :: ddl (k+1) (Cc c f)=c*((k:Int)*a) :: Cc c (ddl (k+1) f)
  rw [Zv0 c (k+1) f,Int.mul_left_comm]
theorem Zqu:∀k f,ddl (k+1) f=al f (ddl k f)
 | k,[]=>rfl
 | k,a :: f=>by
  show((k+1:Nat):Int)*a :: ddl (k+1+1) f=(a+(k:Int)*a) :: al f (ddl (k+1) f)
  rw [Zqu (k+1) f]
  congr 1
  push_cast;grind
theorem dl_al:∀f g,dl (al f g)=al (dl f) (dl g)
 | [],g=>rfl
 | a :: f,[]=>(Yez _).symm
 | a :: f,b :: g=>Ydp 1 f g
theorem dl_scl(c:Int):∀f,dl (Cc c f)=Cc c (dl f)
 | []=>rfl
 | a :: f=>Zv0 c 1 f
theorem dl_x:∀f,dl (xl f)=al f (xl (dl f))
 | []=>rfl
 | [a]=>by show(((1:Nat):Int)*a :: [])=[a];rw [show((1:Nat):Int)=1 from rfl,Int.one_mul]
 | a :: b :: f=>by
  show((1:Nat):Int)*a :: ddl (1+1) (b :: f)=(a+0) :: al (b :: f) (ddl 1 (b :: f))
  rw [Zqu 1 (b :: f),show((1:Nat):Int)=1 from rfl,Int.one_mul,Int.add_zero]
theorem xl_al:∀f g,xl (al f g)=al (xl f) (xl g)
 | [],g=>rfl
 | a :: f,[]=>rfl
 | a :: f,b :: g=>rfl
theorem xl_scl(c:Int):∀f,xl (Cc c f)=Cc c (xl f)
 | []=>rfl
 | a :: f=>by show 0 :: c*a :: Cc c f=c*0 :: c*a :: Cc c f;rw [Int.mul_zero]
theorem Gm:∀k f g,Ik k f g=Ik k g f
 | k,[],g=>(Zi1 k g).symm
 | k,a :: f,[]=>rfl
 | k,a :: f,b :: g=>by
  show fc k*(a*b)+Ik (k+1) f g=fc k*(b*a)+Ik (k+1) g f
  rw [Gm (k+1) f g,Int.mul_comm a b]
theorem Zi4:∀k f g h,Ik k (al f g) h=Ik k f h+Ik k g h
 | k,[],g,h=>by show Ik k g h=0+Ik k g h;rw [Int.zero_add]
 | k,a :: f,[],h=>(Int.add_zero _).symm
 | k,a :: f,b :: g,[]=>rfl
 | k,a :: f,b :: g,c :: h=>by
  show fc k*((a+b)*c)+Ik (k+1) (al f g) h=fc k*(a*c)+Ik (k+1) f h+(fc k*(b*c)+Ik (k+1) g h)
  rw [Zi4 (k+1) f g h];grind
theorem Zi3(k:Nat)(h f g:List Int):Ik k h (al f g)=Ik k h f+Ik k h g:=by
 rw [Gm,Zi4,Gm k f,Gm k g]
theorem Zeg(c:Int):∀k f g,Ik k (Cc c f) g=c*Ik k f g
 | k,[],g=>(Int.mul_zero c).symm
 | k,a :: f,[]=>(Int.mul_zero c).symm
 | k,a :: f,b :: g=>by
  show fc k*(c*a*b)+Ik (k+1) (Cc c f) g=c*(fc k*(a*b)+Ik (k+1) f g)
  rw [Zeg c (k+1) f g];grind
theorem Zm6(c:Int)(k:Nat)(f g:List Int):Ik k f (Cc c g)=c*Ik k f g:=by rw [Gm,Zeg,Gm]
theorem Ycz:∀k f g,Ik (k+1) f g=Ik k f (ddl (k+1) g)
 | k,[],g=>rfl
 | k,a :: f,[]=>rfl
 | k,a :: f,b :: g=>by
  show((k:Int)+1)*fc k*(a*b)+Ik (k+1+1) f g=fc k*(a*(((k+1:Nat):Int)*b))+Ik (k+1) f (ddl (k+1+1) g)
  rw [Ycz (k+1) f g];push_cast;grind
theorem fip_x:∀f g,Ik 0 (xl f) g=Ik 0 f (dl g)
 | [],g=>rfl
 | a :: f,[]=>rfl
 | a :: f,b :: g=>by
  show fc 0*(0*b)+Ik 1 (a :: f) g=Ik 0 (a :: f) (ddl 1 g)
  rw [Int.zero_mul,Int.mul_zero,Int.zero_add];exact Ycz 0 (a :: f) g
theorem Ycw(f g:List Int):Ik 0 f (xl g)=Ik 0 (dl f) g:=by rw [Gm,fip_x,Gm]
def Mq:List Int→Nat→List Int→List Int
 | [],_,_=>[]
 | c :: q,0,g=>al (Cc c g) (xl (Mq q 0 g))
 | c :: q,j+1,g=>al (xl (Mq q (j+1) g)) (Mq q j g)
def Hq:List Int→Nat→List Int→List Int
 | [],_,_=>[]
 | c :: p,0,f=>al (Cc c f) (Hq p 0 (dl f))
 | c :: p,k+1,f=>al (Hq p (k+1) (dl f)) (Hq p k f)
theorem Zvy:∀q j g,dl (Mq q j g)=al (Mq q j (dl g)) (Cc ((j:Int)+1) (Mq q (j+1) g))
 | [],j,g=>rfl
 | c :: q,0,g=>by
  show dl (al (Cc c g) (xl (Mq q 0 g)))=al (al (Cc c (dl g)) (xl (Mq q 0 (dl g)))) (Cc (((0:Nat):Int)+1) (al (xl (Mq q (0+1) g)) (Mq q 0 g)))
  rw [dl_al,dl_scl,dl_x,Zvy q 0 g,xl_al]
  rw [show((0:Nat):Int)+1=1 from rfl,Zgt,Zgt]
  ac_rfl
 | c :: q,j+1,g=>by
  show dl (al (xl (Mq q (j+1) g)) (Mq q j g))=al (al (xl (Mq q (j+1) (dl g))) (Mq q j (dl g))) (Cc (((j+1:Nat):Int)+1) (al (xl (Mq q (j+1+1) g)) (Mq q (j+1) g)))
  rw [dl_al,dl_x,Zvy q (j+1) g,Zvy q j g,xl_al,xl_scl,Yak]
  rw [show Cc (((j+1:Nat):Int)+1) (Mq q (j+1) g)=al (Cc ((j:Int)+1) (Mq q (j+1) g)) (Mq q (j+1) g) by
   rw [Zui,Zgt];rfl]
  ac_rfl
theorem Zg3:∀q j f g,Ik 0 f (Mq q j g)=Ik 0 (Hq q j f) g
 | [],j,f,g=>Zi1 0 f
 | c :: q,0,f,g=>by
  show Ik 0 f (al (Cc c g) (xl (Mq q 0 g)))=Ik 0 (al (Cc c f) (Hq q 0 (dl f))) g
  rw [Zi3,Zi4,Zm6,Zeg,Ycw,Zg3 q 0 (dl f) g]
 | c :: q,j+1,f,g=>by
  show Ik 0 f (al (xl (Mq q (j+1) g)) (Mq q j g))=Ik 0 (al (Hq q (j+1) (dl f)) (Hq q j f)) g
  rw [Zi3,Zi4,Ycw,Zg3 q (j+1) (dl f) g,Zg3 q j f g]
def wfa:Nat→Nat→Int
 | j,0=>1
 | j,k+1=>((j:Int)+1)*wfa (j+1) k
theorem Zlh:∀k j,0<wfa j k
 | 0,j=>by show(0:Int)<1;decide
 | k+1,j=>Int.mul_pos O (Zlh k (j+1))
theorem Zi2:∀(p q:List Int) (j:Nat) (f g:List Int) (K:Nat),p.length≤K→Ik 0 (Mq p 0 f) (Mq q j g)=Zy (fun k=>wfa j k*Ik 0 (Hq q (j+k) f) (Hq p k g)) K
 | [],q,j,f,g,K,_=>by
  rw [Hb (fun k hk=>by show wfa j k*Ik 0 (Hq q (j+k) f) []=0;rw [Zi1,Int.mul_zero])]
  rfl
 | c :: p,q,j,f,g,K,hK=>by
  obtain⟨K',rfl⟩:∃K',K=K'+1:=⟨K-1,by simp at hK;omega⟩
  have hp:p.length≤K':=by simpa using hK
  have i1:=Zi2 p q j f (dl g) (K'+1) O
  have i2:=Zi2 p q (j+1) f g K' hp
  show Ik 0 (al (Cc c f) (xl (Mq p 0 f))) (Mq q j g)=_
  rw [Zi4,Zeg,fip_x,Zvy,Zi3,Zm6,i1,i2,Zg3]
  rw [Ng,Ng (fun k=>wfa j k*Ik 0 (Hq q (j+k) f) (Hq (c :: p) k g))]
  have h0:Ik 0 (Hq q (j+0) f) (Hq (c :: p) 0 g)=c*Ik 0 (Hq q j f) g+Ik 0 (Hq q j f) (Hq p 0 (dl g)):=by
   show Ik 0 (Hq q j f) (al (Cc c g) (Hq p 0 (dl g)))=_
   rw [Zi3,Zm6]
  have h1:Zy (fun k=>wfa j (k+1)*Ik 0 (Hq q (j+(k+1)) f) (Hq (c :: p) (k+1) g)) K'=Zy (fun k=>wfa j (k+1)*Ik 0 (Hq q (j+(k+1)) f) (Hq p (k+1) (dl g))) K'+((j:Int)+1)*Zy (fun k=>wfa (j+1) k*Ik 0 (Hq q (j+1+k) f) (Hq p k g)) K':=by
   rw [←Np,←Fe]
   refine Yu fun k hk=>?_
   show _*Ik 0 _ (al (Hq p (k+1) (dl g)) (Hq p k g))=_
   rw [Zi3,show j+1+k=j+(k+1) by omega]
   show((j:Int)+1)*wfa (j+1) k*_=((j:Int)+1)*wfa (j+1) k*_+_
   grind
  rw [h0,h1]
  show _=(1:Int)*_+_
  show _*_+((1:Int)*_+_+_)=_
  rw [show j+0=j from rfl]
  grind
theorem Zlo(a:Int):0≤a*a:=by
 rcases Int.le_total 0 a with h | h
 ·exact Int.mul_nonneg h h
 ·have:=Int.mul_nonneg (show 0≤-a by omega) (show 0≤-a by omega)
  rwa [Int.neg_mul_neg]at this
theorem Zfk:∀k,1≤fc k
 | 0=>by show(1:Int)≤1;decide
 | k+1=>by
  have h:=Zfk k
  show 1≤((k:Int)+1)*fc k
  have h2:=Int.mul_le_mul (show(1:Int)≤(k:Int)+1 by omega) h O3 O
  omega
theorem Yc0(k:Nat)(f:List Int)(b:Int)(g:List Int):Ik k f (b :: g)=fc k*(cf f 0*b)+Ik (k+1) f.tail g:=by
 cases f with
 | nil=>show(0:Int)=fc k*(0*b)+Ik (k+1) [] g;rw [Int.zero_mul,Int.mul_zero];rfl
 | cons a f=>rfl
theorem Yeb(f:List Int)(i:Nat):cf f.tail i=cf f (i+1):=by cases f<;>rfl
theorem Zm8:∀k (f f' g:List Int),(∀i,cf f i=cf f' i)→Ik k f g=Ik k f' g
 | k,f,f',[],h=>by rw [Zi1,Zi1]
 | k,f,f',b :: g,h=>by rw [Yc0,Yc0,h 0,Zm8 (k+1) f.tail f'.tail g fun i=>by rw [Yeb,Yeb,h]]
theorem Zm7:∀k f,0≤Ik k f f
 | k,[]=>Int.le_refl _
 | k,a :: f=>by
  show 0≤fc k*(a*a)+Ik (k+1) f f
  have h1:=Zm7 (k+1) f
  have h2:=Int.mul_nonneg (show 0≤fc k by have:=Zfk k;omega) (Zlo a)
  omega
theorem Ycy:∀k f i,cf f i*cf f i≤Ik k f f
 | k,[],i=>by rw [Yl O7];exact Int.le_refl _
 | k,a :: f,0=>by
  show a*a≤fc k*(a*a)+Ik (k+1) f f
  have h1:=Zm7 (k+1) f
  have h2:=Int.mul_le_mul_of_nonneg_right (Zfk k) (Zlo a)
  omega
 | k,a :: f,i+1=>by
  show cf f i*cf f i≤fc k*(a*a)+Ik (k+1) f f
  have h1:=Ycy (k+1) f i
  have h2:=Int.mul_nonneg (show 0≤fc k by have:=Zfk k;omega) (Zlo a)
  omega
def fcs:Nat→Nat→Int
 | k,0=>0
 | k,n+1=>fc k+fcs (k+1) n
theorem Yc2:∀n k,0≤fcs k n
 | 0,k=>Int.le_refl _
 | n+1,k=>by have h:=Yc2 n (k+1);have:=Zfk k;show 0≤fc k+fcs (k+1) n;omega
theorem Ycx:∀n k (f:List Int) (A:Int),f.length≤n→(∀x∈f,x*x≤A)→0≤A→Ik k f f≤fcs k n*A
 | n,k,[],A,_,_,hA=>Int.mul_nonneg (Yc2 n k) hA
 | 0,k,a :: f,A,h,_,_=>by simp at h
 | n+1,k,a :: f,A,h,hx,hA=>by
  have h1:=Ycx n (k+1) f A (by simpa using h) (fun x hm=>hx x (List.mem_cons_of_mem _ hm)) hA
  have h2:=Int.mul_le_mul_of_nonneg_left (hx a (List.mem_cons_self ..)) (show 0≤fc k by have:=Zfk k;omega)
  show fc k*(a*a)+Ik (k+1) f f≤(fc k+fcs (k+1) n)*A
  rw [Int.add_mul];omega
theorem Ztz:∀p k f,p.length≤k→Hq p k f=[]
 | [],k,f,_=>by cases k<;>rfl
 | c :: p,0,f,h=>by simp at h
 | c :: p,k+1,f,h=>by
  show al (Hq p (k+1) (dl f)) (Hq p k f)=[]
  have h':p.length≤k:=by simpa using h
  rw [Ztz p (k+1) _ O,Ztz p k _ h'];rfl
theorem Ye8:∀p k f,p.length=k+1→Hq p k f=Cc (cf p k) f
 | [],k,f,h=>by simp at h
 | [c],0,f,h=>Yez _
 | c :: d :: p,0,f,h=>by simp at h
 | c :: p,k+1,f,h=>by
  have h':p.length=k+1:=by simpa using h
  show al (Hq p (k+1) (dl f)) (Hq p k f)=Cc (cf p k) f
  rw [Ztz p (k+1) _ O,Ye8 p k f h'];rfl
theorem Yeg:∀f g i,cf (al f g) i=cf f i+cf g i
 | [],g,i=>by rw [Yl (p:=[]) O7,Int.zero_add];rfl
 | a :: f,[],i=>by rw [Yl (p:=[]) O7,Int.add_zero];rfl
 | a :: f,b :: g,0=>rfl
 | a :: f,b :: g,i+1=>Yeg f g i
theorem Yee(c:Int)(f:List Int)(i:Nat):cf (Cc c f) i=c*cf f i:=Za9 f (c*·) (Int.mul_zero c) i
theorem cf_xl0(f:List Int):cf (xl f) 0=0:=by cases f<;>rfl
theorem cf_xl(f:List Int)(i:Nat):cf (xl f) (i+1)=cf f i:=by cases f<;>rfl
theorem cf_Mq:∀p f i,cf (Mq p 0 f) i=(ps p*ps f).c i
 | [],f,i=>by
  rw [PS.mul_c,Hb (fun k _=>by rw [Oj,Yl O7,Int.zero_mul])];exact Yl (by simp [Mq])
 | c :: p,f,0=>by
  show cf (al (Cc c f) (xl (Mq p 0 f))) 0=_
  rw [Yeg,Yee,cf_xl0,PS.mul_c,Ng,Int.add_zero];exact(Int.add_zero _).symm
 | c :: p,f,i+1=>by
  show cf (al (Cc c f) (xl (Mq p 0 f))) (i+1)=_
  rw [Yeg,Yee,cf_xl,cf_Mq p f i,PS.mul_c,PS.mul_c,Ng _ (i+1)]
  refine congrArg (c*cf f (i+1)+·) (Yu fun k hk=>?_)
  show cf p k*cf f (i-k)=cf p k*cf f (i+1-(k+1))
  rw [show i+1-(k+1)=i-k by omega]
theorem Zyi{s u v:List Int}{n L e:Nat}(hu:Tr u)(hv:Tr v)(hs:Sz n s)(h0:s≠[])(hl:s.length≤L)(he:fcs 0 L≤2^e*2^e)(h:s=Xs u v):Sz (n+e) u:=by
 have hv0:v≠[]:=fun e=>h0 (by rw [h,e,Ar])
 obtain⟨m,hm⟩:∃m,v.length=m+1:=⟨v.length-1,by have:=List.length_pos_iff.2 hv0;omega⟩
 have hlead:cf v m≠0:=by
  rcases hv with hv | hv
  ·exact absurd hv hv0
  ·rwa [hm]at hv
 have hcf:∀i,cf (Mq v 0 u) i=cf s i:=fun i=>by rw [cf_Mq,h,Di,Kq]
 have hmain:=Zi2 v v 0 u u (m+1) O
 rw [Zm8 0 _ s _ hcf,Gm,Zm8 0 _ s _ hcf,Yi,Nat.zero_add,Ye8 v m u hm,Zeg,Zm6]at hmain
 have hrest:∀t,0≤Zy (fun k=>wfa 0 k*Ik 0 (Hq v (0+k) u) (Hq v k u)) t:=fun t=>by
  induction t with
  | zero=>exact Int.le_refl _
  | succ t ih=>
   rw [Yi,Nat.zero_add]
   have:=Int.mul_nonneg (show 0≤wfa 0 t by have:=Zlh t 0;omega) (Zm7 0 (Hq v t u))
   omega
 have hr:=hrest m
 have hc:1≤cf v m*cf v m:=by
  have h1:=Zlo (cf v m)
  have h2:cf v m*cf v m≠0:=fun e=>by rcases Int.mul_eq_zero.1 e with q | q<;>exact hlead q
  omega
 have hf:=Zm7 0 u
 have h3:Ik 0 u u≤cf v m*(cf v m*Ik 0 u u):=by
  have:=Int.mul_le_mul_of_nonneg_right hc hf
  rw [Int.mul_assoc]at this;omega
 have h4:Ik 0 u u≤wfa 0 m*(cf v m*(cf v m*Ik 0 u u)):=by
  have:=Int.mul_le_mul_of_nonneg_right (show 1≤wfa 0 m from Zlh m 0) (show 0≤cf v m*(cf v m*Ik 0 u u) by omega)
  omega
 intro i
 rw [Xw]
 have h5:=Ycy 0 u i
 have hA:∀x∈s,x*x≤(2^n-1)*(2^n-1):=fun x hx=>by
  have hb:x.natAbs<2^n:=(Xw n _).1 (hs.mem hx)
  have hb2:((2^n:Nat):Int)=2^n:=by push_cast;rfl
  have p1:x≤2^n-1:=O
  have p2:-(2^n-1)≤x:=O
  generalize (2:Int)^n-1=y at *
  have:=Int.mul_nonneg (show 0≤y-x by omega) (show 0≤y+x by omega)
  grind
 have hp:(1:Int)≤2^n:=by exact_mod_cast Nat.pow_pos (n:=n) (show 0<2 by decide)
 have hq:(1:Int)≤2^e:=by exact_mod_cast Nat.pow_pos (n:=e) (show 0<2 by decide)
 have h6:=Ycx L 0 s _ hl hA (Int.mul_nonneg O O)
 have h7:cf u i*cf u i≤(2^e*2^e)*((2^n-1)*(2^n-1)):=by
  have:=Int.mul_le_mul_of_nonneg_right he (show(0:Int)≤(2^n-1)*(2^n-1)from Int.mul_nonneg O O)
  omega
 rcases Nat.lt_or_ge (cf u i).natAbs (2^(n+e))with hlt | hge
 ·exact hlt
 ·exfalso
  have h8:(2^n*2^e:Int)≤((cf u i).natAbs:Int):=by rw [←Int.pow_add];exact_mod_cast hge
  have h9:((cf u i).natAbs:Int)*((cf u i).natAbs:Int)=cf u i*cf u i:=Int.natAbs_mul_self
  have h10:(2^n*2^e:Int)*(2^n*2^e)≤((cf u i).natAbs:Int)*((cf u i).natAbs:Int):=Int.mul_le_mul h8 h8 (Int.mul_nonneg O O) O
  rw [h9]at h10
  generalize (2:Int)^n=X at *
  generalize (2:Int)^e=Y at *
  have h11:(Y*Y)*((X-1)*(X-1))<(Y*Y)*(X*X):=by
   have hy:=Int.mul_le_mul hq hq O3 O
   refine Int.mul_lt_mul_of_pos_left ?_ O
   grind
  grind
def kkR(R:Nat):Nat→Nat
 | 0=>0
 | d+1=>2*(R+1)*kkR R d+1
theorem Fk{s u v:List Int}{n L R e:Nat}(hu:Tr u)(hv:Tr v)(hs:Sz n s)(h0:s≠[])(hts:Tr s)(hl:s.length≤L)(hR:2*L≤R+2)(he:fcs 0 L≤2^e*2^e)(h:s=Xs u v):Sz (n+e) u:=Zyi hu hv hs h0 hl he h
theorem num13{la lb K:Nat}(h1:la≤13)(h2:lb+1=la)(hK:K≤600):Zpt la lb K:=fun l hl=>by
 have h3:∀l,l≤12→(l+1)*(600*(27-2*l)+1)≤65536:=O3
 refine Nat.le_trans (Nat.mul_le_mul_left _ (Nat.succ_le_succ (Nat.mul_le_mul hK O))) (h3 l O)
theorem chH{xs:List Int}{n:Nat}(F:Nat)(hx:Tr xs)(h0:xs≠[])(hs:Sz n xs)(hn:n≤350)(hl:xs.length≤13)(hb:(xs.length+2)*(xs.length+2)*(n+13)≤65536)(hF:xs.length≤F+1) :
  Cd F xs∧Sz (n+15) (sqf F xs)∧(sqf F xs).length≤xs.length∧∀p∈chn F xs,Qk p≤(n+26)*25∧p.length≤xs.length:=by
 have hnn:=Zrr hs
 have hln:=Qu hx
 have ht:Tr (Yy xs):=Oc (Yv hx)
 have hd:=Bf hnn O
 have hld:=Oz (Yy xs)
 have htd:Tr (Yx (Yy xs)):=Nn ht
 have m1:=Pd hnn
 have m2:=Pd hd
 have l0:=List.length_pos_iff.2 h0
 have hgA:gA (Yy xs) (Yx (Yy xs))=Zt (Yy xs):=if_neg O
 have hgB:gB (Yy xs) (Yx (Yy xs))=Zt (Yx (Yy xs)):=if_neg O
 have hok:eok F (gA (Yy xs) (Yx (Yy xs))) (gB (Yy xs) (Yx (Yy xs))):=by
  rw [hgA,hgB]
  refine(Yhq (n:=n+5) (s:=5) (K:=n+11) (by rw [Zr,Zr];omega) (Yv ht) (Yv htd) (Gd (hnn.mono O)) (Gd hd) ?_ O ?_ ?_ ?_).1
  ·rw [Zr,Zr];omega
  ·rw [Zr,Zr];exact num13 O O O
  ·rw [Zr]
   exact Nat.le_trans (Nat.mul_le_mul (show(Yy xs).length+1≤14 by omega) (show n+5+1≤400 by omega)) O3
  ·rw [Zr];omega
 obtain⟨f1,f2,f3,f4,f5,f6⟩:=Ps (F:=F) hx h0 hok
 have hg:=Zdk (F:=F) ht htd
 have hn0:=Zic hx h0
 have hK:fcs 0 13≤2^15*2^15:=O5
 have hq:=Fk (L:=13) (R:=24) f2 hg hnn hn0 ht O O3 hK f4
 have hgs:=Fk (L:=13) (R:=24) hg f2 hnn hn0 ht O O3 hK (by rw [Di];exact f4)
 have hlq:=Pu f2 hg f3 f5
 rw [←f4]at hlq
 have lg:=List.length_pos_iff.2 f5
 have lq:=List.length_pos_iff.2 f3
 have mg:=Pd hgs
 have hql:(sqf F xs).length≤xs.length:=O
 have hqd:=Bf hq O
 have hlqd:=Oz (sqf F xs)
 have hc:=Yh7 (a:=sqf F xs) (b:=Zt (Yx (sqf F xs))) (n:=n+15+5) (s:=5) (K:=n+26) (f:=F) (by rw [Zr];omega) f2 (Yv (Nn f2)) (hq.mono O) (Gd hqd) (by rw [Zr];omega) O (by rw [Zr];exact num13 O O O) (Nat.le_trans (Nat.mul_le_mul (show(sqf F xs).length+1≤14 by omega) (show n+15+5+1≤500 by omega)) O3) (by rw [Zr];omega)
 refine⟨⟨⟨fun i _=>Nat.le_trans (Zs5 hnn O i) O,?_,hok,?_,f1⟩,fun i _=>Nat.le_trans (Zs5 hq O i) O,hc.1⟩,hq,hql,fun p hp=>?_⟩
 ·intro h
  have h3:(max (Yy xs).length (Yx (Yy xs)).length+2)*(max (Yy xs).length (Yx (Yy xs)).length+2)*(max (Qk (Yy xs)) (Qk (Yx (Yy xs)))+8)≤(xs.length+2)*(xs.length+2)*(n+13):=Nat.mul_le_mul (Nat.mul_le_mul O O) O
  have:=h.2.2
  omega
 ·unfold Dc
  rw [if_neg O]
  split
  ·rfl
  ·have:((Yy xs).length-(Ni F (Yy xs) (Yx (Yy xs))).length+1)*(Qk (Ni F (Yy xs) (Yx (Yy xs)))+1)≤14*500:=Nat.mul_le_mul O O
   rw [if_neg O]
 ·obtain⟨a1,a2⟩:=hc.2 p hp
  refine⟨Nat.le_trans a1 (Nat.mul_le_mul_left _ ?_),O⟩
  rw [Zr];omega
theorem chG{xs:List Int}{n:Nat}(F:Nat)(hx:Tr xs)(h0:xs≠[])(hs:Sz n xs)(hn:n≤350)(hl:xs.length≤11)(hF:xs.length≤F+1) :
  Cd F xs∧Sz (n+15) (sqf F xs)∧(sqf F xs).length≤xs.length∧∀p∈chn F xs,Qk p≤(n+26)*25∧p.length≤xs.length:=
 chH F hx h0 hs hn O (Nat.le_trans (Nat.mul_le_mul (Nat.mul_le_mul (show _≤13 by omega) (show _≤13 by omega)) (show _≤363 by omega)) O3) hF
theorem Dv.ed{g a:List Int}(h:Dv g a):Ed g a:=by
 obtain⟨k,s,hk,h⟩:=h
 refine⟨k,s,hk,fun x=>?_⟩
 have:=Fs (a:=k) (c:=0) (x:=a) (s:=s) (y:=g) (z:=[]) (fun t=>by rw [h t];omega) x
 push_cast at this;grind
theorem Zjg{xs:List Int}{F:Nat}(hx:Tr xs)(h0:xs≠[])(hC:Cd F xs)(s t:Rat) :
  ∃h:Rat,0<h∧∀u v,s≤u→u≤v→v≤t→v-u≤h→vat ((chn F xs).map Zb) u-vat ((chn F xs).map Zb) v=crs (Zb (sqf F xs)) u v:=by
 have hok:=hC.1.2.2.1
 obtain⟨f1,f2,f3,f4,f5,f6⟩:=Ps (F:=F) hx h0 hok
 have htp:=Nn f2
 by_cases hd:Yx (sqf F xs)=[]
 ·refine Zho (κ:=1) f2 (Yv htp) f3 hC.2.2 O3 (fun x=>?_) fun q hq a b=>?_
  ·rw [←Ll,hd];show(0:Rat)=1*0;grind
  ·exact Zdo hx h0 hok hq a (b.sim (Qb htp))
 ·have hpc:0<Ym (Yx (sqf F xs)):=by
   have h1:=Dx htp hd
   have h2:=Oe (Yx (sqf F xs))
   omega
  refine Zho (κ:=(Ym (Yx (sqf F xs)):Rat)) f2 (Yv htp) f3 hC.2.2 (by exact_mod_cast hpc) (fun x=>?_) fun q hq a b=>?_
  ·rw [←Ll,←Ze]
   exact On x _ _ fun i=>by rw [Xv,Int.mul_comm,Hs]
  ·exact Zdo hx h0 hok hq a (b.sim (Qb htp))
theorem Yhf{p s g q:List Int}(hps:∀x:Rat,Zb p x=Zb s x*Zb g x)(hg:Tr g)(g0:g≠[])(hgd:Ed g (ld p))(hq:Irr q)(hqp:Ed q p):Ed q s:=by
 refine Classical.byContradiction fun hns=>?_
 have hq1:=hq.1
 have hq2:=hq.2.1
 have hqd:¬Ed q (ld q):=fun h=>by
  have h8:Ed q (Yx q):=h.congr fun x=>(Ll q x).symm
  have hl:=Oz q
  have:=(h8.len hq1 (Nn hq1) (fun e=>by rw [e]at hl;simp at hl;omega)).2
  omega
 obtain⟨c1,m1,k1,e1⟩:=hqp
 obtain⟨c2,m,k2,e2⟩:=hgd
 have key:∀k,Ed (Hi q k) g:=fun k=>by
  induction k with
  | zero=>exact⟨1,g,O3,fun x=>by rw [show Hi q 0=[1]from rfl,Qq];push_cast;grind⟩
  | succ k ih=>
   cases k with
   | zero=>
    have h9:Ed q g:=(Bq (f:=s) (h:=g) (m:=m1) hq k1 (fun x=>by rw [←hps x];exact e1 x)).resolve_left hns
    exact h9.congr_l fun x=>by rw [Gh,show Hi q 0=[1]from rfl,Qq];push_cast;grind
   | succ k=>
    obtain⟨c,u,kc,eu⟩:=ih
    have hd:∀x:Rat,(c:Rat)*Zb (ld g) x=Zb (ld u) x*Zb (Hi q (k+1)) x+Zb u x*(((k:Rat)+1)*(Zb (Hi q k) x*Zb (ld q) x)):=fun x=>by
     have:=Fy (p:=g.map fun a=>c*a) (q:=lmul u (Hi q (k+1))) (fun y=>by rw [Ze,Zq];exact eu y) x
     rwa [Ch,Eu,Zlz]at this
    have hp:∀x:Rat,Zb (ld p) x=Zb (ld s) x*Zb g x+Zb s x*Zb (ld g) x:=fun x=>by
     have:=Fy (p:=p) (q:=lmul s g) (fun y=>by rw [Zq];exact hps y) x
     rwa [Eu]at this
    have hz:∀x:Rat,Zb (Nj ((lmul (lmul s u) (ld q)).map fun a=>(c2*((k:Int)+1))*a) ((lmul (Nj ((lmul s (ld u)).map fun a=>c2*a) ((lmul (Nj m ((ld s).map fun a=>(-c2)*a)) u).map fun a=>(-1)*a)) q))) x=0:=fun x=>by
     refine Gk (v:=Hi q k) (fun e=>?_) (fun x=>?_) x
     ·rw [Ai (Bk hq1 hq2 k).1]at e
      have:=(Bk hq1 hq2 k).2
      rw [e]at this;simp at this
     ·rw [Xd,Ze,Zq,Zq,Zq,Xd,Ze,Zq,Ze,Zq,Xd,Ze]
      have a1:=e2 x;have a2:=hp x;have a3:=hd x;have a4:=eu x
      rw [Gh]at a3 a4
      push_cast
      have b1:(c2:Rat)*Zb s x*(c*Zb (ld g) x)=(Zb m x-c2*Zb (ld s) x)*(c*Zb g x):=by
       have:(c2:Rat)*Zb s x*(c*Zb (ld g) x)=c*(c2*(Zb (ld p) x-Zb (ld s) x*Zb g x)):=by rw [a2];grind
       rw [this]
       have:(c:Rat)*(c2*(Zb (ld p) x-Zb (ld s) x*Zb g x))=c*(c2*Zb (ld p) x)-c*c2*Zb (ld s) x*Zb g x:=O4
       rw [this,a1];grind
      rw [a3,a4]at b1
      grind
    have h9:=Bq (f:=lmul s u) (h:=ld q) (k:=c2*((k:Int)+1)) (m:=Nj ((lmul (Nj m ((ld s).map fun a=>(-c2)*a)) u)) ((lmul s (ld u)).map fun a=>(-c2)*a)) hq (Int.mul_ne_zero k2 O) (fun x=>by
     have:=hz x
     rw [Xd,Ze,Zq,Zq,Zq,Xd,Ze,Zq,Ze,Zq,Xd,Ze]at this
     rw [Zq,Xd,Zq,Xd,Ze,Ze,Zq]
     push_cast at this ⊢
     grind)
    have h8:=Bq (f:=s) (h:=u) (k:=1) (m:=[]) hq O3
    have h7:Ed q u:=by
     obtain⟨c3,w,k3,e3⟩:=h9.resolve_right hqd
     exact(Bq (f:=s) (h:=u) (k:=c3) (m:=w) hq k3 (fun x=>by have:=e3 x;rwa [Zq]at this)).resolve_left hns
    obtain⟨c3,w,k3,e3⟩:=h7
    refine⟨c3*c,w,Int.mul_ne_zero k3 kc,fun x=>?_⟩
    have a4:=eu x;have a5:=e3 x
    rw [Gh q (k+1)];push_cast
    have:(c3:Rat)*c*Zb g x=c3*(c*Zb g x):=O4
    rw [this,a4]
    have:(c3:Rat)*(Zb u x*Zb (Hi q (k+1)) x)=(c3*Zb u x)*Zb (Hi q (k+1)) x:=O4
    rw [this,a5];grind
 obtain⟨a1,a2⟩:=Bk hq1 hq2 g.length
 have:=((key g.length).len a1 hg g0).2
 omega
theorem Yg6{r d:Int}(hd:d≠0):Irr [-r,d]:=by
 have ht:Tr [-r,d]:= .inr hd
 refine⟨ht,O7,fun q hq he=>?_⟩
 have:=(he.len hq ht O7).2
 simp at this ⊢;omega
theorem Zgx(r d:Int)(x:Rat):Zb [-r,d] x=(d:Rat)*x-r:=by
 show((-r:Int):Rat)+x*((d:Rat)+x*0)=_;push_cast;grind
theorem Ygd{p:List Int}{r d:Int}(hp:Tr p)(hd:d≠0)(h:Zb p ((r:Rat)/d)=0):Ed [-r,d] p:=by
 have hd':(d:Rat)≠0:=by exact_mod_cast hd
 have ht:Tr [-r,d]:= .inr hd
 obtain⟨k,s,hs⟩:=Bj p (q:=[-r,d]) O7
 have hL:=Lg (ht.mem O7) k
 generalize cf [-r,d] ([-r,d].length-1)^k=L at hs hL
 have he:∀x,(L:Rat)*Zb p x=Zb s x*Zb [-r,d] x+Zb (Xy p [-r,d]) x:=fun x=>by
  have:=Fs (a:=L) (c:=-1) (x:=p) (s:=s) (y:=[-r,d]) (z:=Xy p [-r,d]) (fun t=>by rw [hs t];omega) x
  push_cast at this;grind
 have hl:=Pf p (q:=[-r,d]) O7
 have hz:∀x,Zb (Xy p [-r,d]) x=0:=fun x=>by
  have h1:=he ((r:Rat)/d)
  rw [h,Zgx]at h1
  match hr:Xy p [-r,d],hl with
  | [],_=>rfl
  | [c],_=>
   rw [hr,Qq]at h1
   rw [Qq]
   have:(d:Rat)*(r/d)=r:=O4
   rw [this]at h1;grind
 exact⟨L,s,hL,fun x=>by rw [he x,hz x];grind⟩
theorem Ed.root{p:List Int}{r d:Int}(hd:d≠0)(h:Ed [-r,d] p):Zb p ((r:Rat)/d)=0:=by
 obtain⟨k,s,hk,h⟩:=h
 have hd':(d:Rat)≠0:=by exact_mod_cast hd
 have hk':(k:Rat)≠0:=by exact_mod_cast hk
 have h1:=h ((r:Rat)/d)
 rw [Zgx]at h1
 have:(d:Rat)*(r/d)=r:=O4
 rw [this]at h1;grind
theorem Zzw{xs:List Int}{F:Nat}(hx:Tr xs)(h0:xs≠[])(hok:eok F (gA (Yy xs) (Yx (Yy xs))) (gB (Yy xs) (Yx (Yy xs)))){r d:Int}(hd:d≠0)(h:Zb xs ((r:Rat)/d)=0):Zb (sqf F xs) ((r:Rat)/d)=0:=by
 obtain⟨f1,f2,f3,f4,f5,f6⟩:=Ps (F:=F) hx h0 hok
 have hs:Tr (Yy xs):=Oc (Yv hx)
 have hd':Tr (Yx (Yy xs)):=Nn hs
 have h1:Ed [-r,d] (Yy xs):=(Ygd hx hd h).sim ((Qb hx).symm.trans (Kn _).symm)
 have h2:∀x:Rat,Zb (Yy xs) x=Zb (sqf F xs) x*Zb (Ni F (Yy xs) (Yx (Yy xs))) x:=fun x=>by
  have:Zb (Yy xs) x=Zb (Xs (sqf F xs) (Ni F (Yy xs) (Yx (Yy xs)))) x:=by rw [←f4]
  rw [this,Yc]
 have h3:Ed (Ni F (Yy xs) (Yx (Yy xs))) (ld (Yy xs)):=((Zbq hs hd' hok).2.ed).congr fun x=>Ll _ x
 exact(Yhf h2 (Zdk hs hd') f5 h3 (Yg6 hd) h1).root hd
def Away(s t:Rat)(f:Rat→Rat):Prop:=∃δ:Rat,0<δ∧∀x,s≤x→x≤t→δ≤f x∨f x≤-δ
theorem Away.mul{s t:Rat}{f g h:Rat→Rat}(hf:Away s t f)(hg:Away s t g)(e:∀x,h x=f x*g x):Away s t h:=by
 obtain⟨a,a1,a2⟩:=hf
 obtain⟨b,b1,b2⟩:=hg
 refine⟨a*b,Rat.mul_pos a1 b1,fun x h1 h2=>?_⟩
 rw [e x]
 rcases a2 x h1 h2 with h3 | h3<;>rcases b2 x h1 h2 with h4 | h4
 ·left;have:=Rat.mul_nonneg (a:=f x-a) (b:=g x) O4 O4;have:=Rat.mul_nonneg (a:=a) (b:=g x-b) O4 O4;grind
 ·right;have:=Rat.mul_nonneg (a:=f x-a) (b:=- g x) O4 O4;have:=Rat.mul_nonneg (a:=a) (b:=- g x-b) O4 O4;grind
 ·right;have:=Rat.mul_nonneg (a:=- f x-a) (b:=g x) O4 O4;have:=Rat.mul_nonneg (a:=a) (b:=g x-b) O4 O4;grind
 ·left;have:=Rat.mul_nonneg (a:=- f x-a) (b:=- g x) O4 O4;have:=Rat.mul_nonneg (a:=a) (b:=- g x-b) O4 O4;grind
theorem Away.lin{s t:Rat}{r d:Int}(hd:0<d)(h:(r:Rat)<d*s∨(d:Rat)*t<r):Away s t (Zb [-r,d]):=by
 have hd':(0:Rat)<(d:Rat):=by exact_mod_cast hd
 rcases h with h | h
 ·refine⟨d*s-r,O4,fun x h1 h2=> .inl ?_⟩
  rw [Zgx];have:=Rat.mul_nonneg (a:=(d:Rat)) (b:=x-s) O4 O4;grind
 ·refine⟨r-d*t,O4,fun x h1 h2=> .inr ?_⟩
  rw [Zgx];have:=Rat.mul_nonneg (a:=(d:Rat)) (b:=t-x) O4 O4;grind
theorem Away.sq(s t:Rat):Away s t (Zb [1,0,1]):=⟨1,O3,fun x _ _=>by
 left
 show(1:Rat)≤((1:Int):Rat)+x*(((0:Int):Rat)+x*(((1:Int):Rat)+x*0))
 have:0≤x*x:=by
  rcases(show 0≤x∨x<0 by grind)with h | h
  ·exact Rat.mul_nonneg h h
  ·have:=Rat.mul_nonneg (a:=-x) (b:=-x) O4 O4;grind
 push_cast;grind⟩
theorem Away.one(s t:Rat):Away s t (Zb [1]):=⟨1,O3,fun x _ _=>by left;rw [Qq];exact Rat.le_refl⟩
def cntP(P:Int→Prop)[DecidablePred P](m:Int):Nat→Int
 | 0=>0
 | n+1=>cntP P m n+(if P (m+n+1)then 1 else 0)
def eB(K C:Nat):Nat→Nat
 | 0=>0
 | n+1=>C+K*eB K C n
def eL(K C:Nat):Nat→Nat
 | 0=>0
 | n+1=>K*eL K C n+eB K C n
def eM(K C:Nat):Nat→Nat
 | 0=>0
 | n+1=>eL K C n+K*eM K C n
theorem Hd{a b:Nat}(h:a≤b):(a:Rat)≤(b:Rat):=by exact_mod_cast h
theorem Yef{c:Int}{C:Nat}(h:c.natAbs≤C):-(C:Rat)≤(c:Rat)∧(c:Rat)≤(C:Rat):=by
 have h1:((-(C:Int):Int):Rat)≤(c:Rat):=by exact_mod_cast (show -(C:Int)≤c by omega)
 have h2:(c:Rat)≤(((C:Nat):Int):Rat):=by exact_mod_cast (show c≤(C:Int) by omega)
 push_cast at h1 h2
 constructor<;>grind
theorem Znt{c:Int}{p:List Int}{C:Nat}(h:∀i,(cf (c :: p) i).natAbs≤C):c.natAbs≤C∧∀i,(cf p i).natAbs≤C:=⟨h 0,fun i=>h (i+1)⟩
theorem Zlw{K C:Nat} : ∀(n:Nat) (p:List Int),p.length≤n→(∀i,(cf p i).natAbs≤C)→∀x:Rat,-(K:Rat)≤x→x≤(K:Rat)→-(eB K C n:Rat)≤Zb p x∧Zb p x≤(eB K C n:Rat)
 | n,[],_,_,x,_,_=>by
  have h:(0:Rat)≤(eB K C n:Rat):=Hd (Nat.zero_le _)
  show -(eB K C n:Rat)≤0∧(0:Rat)≤(eB K C n:Rat)
  constructor<;>grind
 | 0,c :: p,hl,_,_,_,_=>absurd hl O7
 | n+1,c :: p,hl,hc,x,h1,h2=>by
  obtain⟨hc0,hc1⟩:=Znt hc
  obtain⟨a1,a2⟩:=Zlw n p (by simpa using hl) hc1 x h1 h2
  obtain⟨b1,b2⟩:=Yef hc0
  have hK:(0:Rat)≤(K:Rat):=Hd (Nat.zero_le _)
  obtain⟨f1,f2⟩:=Zac h1 h2 a1 a2 hK
  have e:((eB K C (n+1):Nat):Rat)=(C:Rat)+(K:Rat)*(eB K C n:Rat):=by show((C+K*eB K C n:Nat):Rat)=_;push_cast;rfl
  rw [e,show Zb (c :: p) x=(c:Rat)+x*Zb p x from rfl]
  constructor<;>grind
theorem Zlv{K C:Nat} : ∀(n:Nat) (p:List Int),p.length≤n→(∀i,(cf p i).natAbs≤C)→Lip (-(K:Rat)) (K:Rat) (eL K C n:Rat) (Zb p)
 | n,[],_,_,x,y,_,hxy,_=>by
  have h:(0:Rat)≤(eL K C n:Rat):=Hd (Nat.zero_le _)
  have:=Rat.mul_nonneg (a:=(eL K C n:Rat)) (b:=y-x) h O4
  show(0:Rat)-0≤_∧(0:Rat)-0≤_
  constructor<;>grind
 | 0,c :: p,hl,_,_,_,_,_,_=>absurd hl O7
 | n+1,c :: p,hl,hc,x,y,h1,hxy,h2=>by
  obtain⟨hc0,hc1⟩:=Znt hc
  obtain⟨a1,a2⟩:=Zlv n p (by simpa using hl) hc1 x y h1 hxy h2
  obtain⟨b1,b2⟩:=Zlw n p (by simpa using hl) hc1 y O4 h2
  have hK:(0:Rat)≤(K:Rat):=Hd (Nat.zero_le _)
  obtain⟨f1,f2⟩:=Zac (q:=x) (g:=Zb p x-Zb p y) (e:=(eL K C n:Rat)*(y-x)) h1 O4 O4 O4 hK
  have g1:=Rat.mul_nonneg (a:=(eB K C n:Rat)-Zb p y) (b:=y-x) O4 O4
  have g2:=Rat.mul_nonneg (a:=(eB K C n:Rat)+Zb p y) (b:=y-x) O4 O4
  have e:((eL K C (n+1):Nat):Rat)=(K:Rat)*(eL K C n:Rat)+(eB K C n:Rat):=by show((K*eL K C n+eB K C n:Nat):Rat)=_;push_cast;rfl
  rw [e,show Zb (c :: p) x=(c:Rat)+x*Zb p x from rfl,show Zb (c :: p) y=(c:Rat)+y*Zb p y from rfl]
  constructor<;>grind
theorem Yau{K C:Nat} : ∀(n:Nat) (p:List Int),p.length≤n→(∀i,(cf p i).natAbs≤C)→Tay (-(K:Rat)) (K:Rat) (eM K C n:Rat) p
 | n,[],_,_,x,y,_,hxy,_=>by
  have h:(0:Rat)≤(eM K C n:Rat):=Hd (Nat.zero_le _)
  have h1:=Rat.mul_nonneg (a:=y-x) (b:=y-x) O4 O4
  have:=Rat.mul_nonneg h h1
  show -((eM K C n:Rat)*(y-x)*(y-x))≤(0:Rat)-0-(y-x)*0∧(0:Rat)-0-(y-x)*0≤(eM K C n:Rat)*(y-x)*(y-x)
  constructor<;>grind
 | 0,c :: p,hl,_,_,_,_,_,_=>absurd hl O7
 | n+1,c :: p,hl,hc,x,y,hs,hxy,ht=>by
  obtain⟨hc0,hc1⟩:=Znt hc
  obtain⟨a1,a2⟩:=Yau n p (by simpa using hl) hc1 x y hs hxy ht
  obtain⟨b1,b2⟩:=Zlv n p (by simpa using hl) hc1 x y hs hxy ht
  have hK:(0:Rat)≤(K:Rat):=Hd (Nat.zero_le _)
  have hd:0≤y-x:=O4
  obtain⟨f1,f2⟩:=Zac (q:=x) (Q:=(K:Rat)) (g:=Zb p y-Zb p x-(y-x)*Zb (ld p) x) (e:=(eM K C n:Rat)*(y-x)*(y-x)) hs O4 a1 a2 hK
  have g1:=Rat.mul_nonneg (a:=y-x) (b:=(eL K C n:Rat)*(y-x)-(Zb p y-Zb p x)) hd O4
  have g2:=Rat.mul_nonneg (a:=y-x) (b:=(eL K C n:Rat)*(y-x)+(Zb p y-Zb p x)) hd O4
  have e:((eM K C (n+1):Nat):Rat)=(eL K C n:Rat)+(K:Rat)*(eM K C n:Rat):=by show((eL K C n+K*eM K C n:Nat):Rat)=_;push_cast;rfl
  rw [e,Zdx,show Zb (c :: p) y=(c:Rat)+y*Zb p y from rfl,show Zb (c :: p) x=(c:Rat)+x*Zb p x from rfl]
  constructor<;>grind
theorem Ztb{a b:List Int}{A:Nat}(ha:Tr a)(hb:Tr b)(la:2≤a.length)(lb:b.length+1=a.length)(hA:0<A)(na:∀i,(cf a i).natAbs≤A)(nb:∀i,(cf b i).natAbs≤A)(hc:∀q,Tr q→Ed q a→Ed q b→q.length≤1) :
  ∃(U V:List Int) (c:Int),c≠0∧U.length+2=a.length∧V.length+1=a.length∧(∀i,(cf U i).natAbs≤(2*(2*a.length-3)*A)^(2*a.length-4))∧(∀i,(cf V i).natAbs≤(2*(2*a.length-3)*A)^(2*a.length-4))∧
   ∀x,(c:Rat)=Zb U x*Zb a x+Zb V x*Zb b x:=by
 obtain⟨U,V,lU,lV,hne,bU,bV,hz⟩:=Zfz (a:=a) (b:=b) (p:=a.length-2) (q:=a.length-1) (lo:=1) hA na nb O O O
 have hne2:¬(tzl U=[]∧tzl V=[]):=fun⟨h1,h2⟩=>by
  rcases hne with⟨i,hi⟩ | ⟨i,hi⟩
  ·exact hi ((Mu U).1 h1 i)
  ·exact hi ((Mu V).1 h2 i)
 clear hne
 rw [show a.length-2+(a.length-1)=2*a.length-3 by omega]at bU bV
 rw [show 2*a.length-3-1=2*a.length-4 by omega]at bU bV
 have ha0:a≠[]:=fun e=>by rw [e]at la;simp at la
 have cR:∀i,cf (Nj (lmul U a) (lmul V b)) i=(ps U*ps a).c i+(ps V*ps b).c i:=fun i=>by
  rw [Md,Gs,Gs,PS.mul_c,PS.mul_c];rfl
 have rR:∀t,Zb (Nj (lmul U a) (lmul V b)) t=Zb U t*Zb a t+Zb V t*Zb b t:=fun t=>by rw [Xd,Zq,Zq]
 generalize Nj (lmul U a) (lmul V b)=R at cR rR
 have hR:∀t,Zb R t=(cf R 0:Rat):=fun t=>by
  rw [←Qq (cf R 0) t]
  refine On t _ _ fun i=>?_
  match i with
  | 0=>rfl
  | i+1=>rw [cR,hz (i+1) O,Yl O7]
 refine⟨U,V,cf R 0,fun h0=>?_,O,O,bU,bV,fun x=>by rw [←rR,hR]⟩
 have hz0:∀t,Zb U t*Zb a t+Zb V t*Zb b t=0:=fun t=>by rw [←rR,hR,h0];rfl
 obtain⟨g,P,Q,g1,g2,g3,g4⟩:=Zjp _ a b ha hb (Nat.le_refl _)
 have hl:=hc g g1 g2 g3
 have hg:=(g2.len g1 ha ha0).1
 have hV:tzl V=[]:=by
  refine Classical.byContradiction fun hV=>?_
  match g,hg,hl,g1,g4 with
  | [c],_,_,g1,g4=>
   have hc0:c≠0:=g1.mem O7
   have hd:Ed a (tzl V):=⟨c,Nj (lmul P V) ((lmul Q U).map fun z=>(-1)*z),hc0,fun x=>by
    have h4:=g4 x
    rw [Qq]at h4
    rw [Ma,Xd,Ze,Zq,Zq,h4]
    have:=hz0 x
    have e:Zb V x*Zb b x=- (Zb U x*Zb a x):=O4
    have:(Zb P x*Zb a x+Zb Q x*Zb b x)*Zb V x=Zb P x*Zb V x*Zb a x+Zb Q x*(Zb V x*Zb b x):=O4
    rw [this,e];push_cast;grind⟩
   have:=(hd.len ha (Xp V) hV).2
   have:=Ko V
   omega
  | c :: d :: r,_,h9,_,_=>simp at h9
 have hU:tzl U=[]:=by
  refine Classical.byContradiction fun hU=>?_
  have:∀t,Zb a t=0:=Gk (v:=U) hU fun t=>by
   have:=hz0 t
   rw [Cg hV]at this
   grind
  exact ha.mem ha0 (Zly this _)
 exact hne2 ⟨hU,hV⟩
def Zuh(K A n e:Nat):Bool:=
 let X:=(2*(2*n-3)*A)^(2*n-4)
 let W:=eB K X (n-1)
 Nat.ble (2*(2*W+1)*(2*eL K A n)) (2^e) && Nat.ble (2*(2*W+1)*eM K A n) (2^e)
theorem big_or {a b:List Int} {K A n e:Nat} (hK:0<K) (hA:0<A) (ha:Tr a) (hb:Tr b) (hn:a.length=n) (h2:2≤n) (lb:b.length+1=a.length) (na:∀i,(cf a i).natAbs≤A) (nb:∀i,(cf b i).natAbs≤A) (hc:∀q,Tr q→Ed q a→Ed q b→q.length≤1)
  (x:Rat) (h1:-(K:Rat)≤x) (h3:x≤(K:Rat)):Big (1/((2*eB K ((2*(2*n-3)*A)^(2*n-4)) (n-1)+1:Nat):Rat)) x (Zb a)∨Big (1/((2*eB K ((2*(2*n-3)*A)^(2*n-4)) (n-1)+1:Nat):Rat)) x (Zb b):=by
 obtain⟨U,V,c,c0,lU,lV,bU,bV,hid⟩:=Ztb ha hb O lb hA na nb hc
 rw [hn]at bU bV
 generalize (2*(2*n-3)*A)^(2*n-4)=X at *
 obtain⟨u1,u2⟩:=Zlw (n-1) U O bU x h1 h3
 obtain⟨v1,v2⟩:=Zlw (n-1) V O bV x h1 h3
 generalize eB K X (n-1)=W at *
 have hW:(0:Rat)≤(W:Rat):=Hd (Nat.zero_le _)
 have hD:(0:Rat)<((2*W+1:Nat):Rat):=by
   have:(((0:Nat)):Rat)<((2*W+1:Nat):Rat):=by exact_mod_cast Nat.succ_pos _
   exact this
 have hDe:((2*W+1:Nat):Rat)=2*(W:Rat)+1:=by push_cast;rfl
 generalize hε:1/((2*W+1:Nat):Rat)=ε
 have hε2:ε*(2*(W:Rat)+1)=1:=by rw [←hε,hDe];rw [hDe]at hD;grind
 have hε0:0≤ε:=by
  rw [←hε]
  have:=Rat.inv_pos.2 hD
  rw [Rat.div_def];grind
 by_cases p1:Big ε x (Zb a)
 ·exact .inl p1
 ·by_cases p2:Big ε x (Zb b)
  ·exact .inr p2
  ·exfalso
   obtain⟨a1,a2⟩:=Zbt p1
   obtain⟨b1,b2⟩:=Zbt p2
   obtain⟨q1,q2⟩:=Zac u1 u2 a1 a2 hW
   obtain⟨r1,r2⟩:=Zac v1 v2 b1 b2 hW
   have h4:=hid x
   have h5:(c:Rat)≤-1∨1≤(c:Rat):=by
    rcases Int.lt_or_gt_of_ne c0 with h | h
    ·left;have:((c:Int):Rat)≤((-1:Int):Rat):=by exact_mod_cast (show c≤-1 by omega)
     rwa [show(((-1:Int)):Rat)=-1 from rfl]at this
    ·right;have:1≤c:=O
     exact_mod_cast this
   have hεp:0<ε:=by
    rcases(show ε=0∨0<ε by grind)with h | h
    ·rw [h]at hε2;grind
    ·exact h
   rcases h5 with h5 | h5<;>grind
theorem two_pow_pos(e:Nat):(0:Rat)<((2^e:Nat):Rat):=by
 have:0<2^e:=Nat.pow_pos O3
 exact_mod_cast this
theorem Yim {xs:List Int} {F K A n e:Nat} (hx:Tr xs) (h0:xs≠[]) (hC:Cd F xs) (hK:0<K) (hA:0<A) (hn:(sqf F xs).length=n) (h2:2≤n) (na:∀i,(cf (sqf F xs) i).natAbs≤A) (nb:∀i,(cf (Yx (sqf F xs)) i).natAbs≤A) (hs:Zuh K A n e=true)
  {u v:Rat} (h1:-(K:Rat)≤u) (huv:u≤v) (h3:v≤(K:Rat)) (hh:v-u≤1/((2^e:Nat):Rat)) :
  vat ((chn F xs).map Zb) u-vat ((chn F xs).map Zb) v=crs (Zb (sqf F xs)) u v:=by
 have hok:=hC.1.2.2.1
 obtain⟨f1,f2,f3,f4,f5,f6⟩:=Ps (F:=F) hx h0 hok
 have htp:=Nn f2
 have hlp:=Oz (sqf F xs)
 have hd:Yx (sqf F xs)≠[]:=fun e=>by rw [e]at hlp;simp at hlp;omega
 have hpc:1≤Ym (Yx (sqf F xs)):=by
  have h1:=Dx htp hd
  have h2:=Oe (Yx (sqf F xs))
  omega
 have hpc':(1:Rat)≤(Ym (Yx (sqf F xs)):Rat):=by exact_mod_cast hpc
 have nbp:∀i,(cf (Zt (Yx (sqf F xs))) i).natAbs≤A:=fun i=>by
  have h5:=Hs (Yx (sqf F xs)) i
  have h6:=nb i
  rw [←h5,Int.natAbs_mul]at h6
  have:(cf (Zt (Yx (sqf F xs))) i).natAbs*1≤(cf (Zt (Yx (sqf F xs))) i).natAbs*(Ym (Yx (sqf F xs))).natAbs:=Nat.mul_le_mul_left _ O
  omega
 have hcop:∀q,Tr q→Ed q (sqf F xs)→Ed q (Zt (Yx (sqf F xs)))→q.length≤1:=fun q hq a b=>Zdo hx h0 hok hq a (b.sim (Qb htp))
 have hlb:(Zt (Yx (sqf F xs))).length+1=(sqf F xs).length:=by rw [Zr];omega
 have hbig:=big_or (e:=e) hK hA f2 (Yv htp) hn h2 hlb na nbp hcop
 unfold Zuh at hs
 simp only [Bool.and_eq_true,Nat.ble_eq]at hs
 obtain⟨s1,s2⟩:=hs
 generalize (2*(2*n-3)*A)^(2*n-4)=X at *
 generalize eB K X (n-1)=W at *
 have hD:(0:Rat)<((2*W+1:Nat):Rat):=by
   have:(((0:Nat)):Rat)<((2*W+1:Nat):Rat):=by exact_mod_cast Nat.succ_pos _
   exact this
 have hP:=two_pow_pos e
 have s1':=Hd s1
 have s2':=Hd s2
 have c1:((2*(2*W+1)*(2*eL K A n):Nat):Rat)=2*((2*W+1:Nat):Rat)*(2*(eL K A n:Rat)):=by push_cast;rfl
 have c2:((2*(2*W+1)*eM K A n:Nat):Rat)=2*((2*W+1:Nat):Rat)*(eM K A n:Rat):=by push_cast;rfl
 rw [c1]at s1'
 rw [c2]at s2'
 have hi:=Rat.inv_pos.2 hD
 have hj:=Rat.inv_pos.2 hP
 have hii:((2*W+1:Nat):Rat)*((2*W+1:Nat):Rat)⁻¹=1:=O4
 have hjj:((2^e:Nat):Rat)*((2^e:Nat):Rat)⁻¹=1:=O4
 rw [Rat.div_def,Rat.one_mul]at hh
 simp only [Rat.div_def,Rat.one_mul]at hbig
 generalize ((2*W+1:Nat):Rat)=D at *
 generalize ((2^e:Nat):Rat)=P at *
 have hLn:(0:Rat)≤(eL K A n:Rat):=Hd (Nat.zero_le _)
 have hMn:(0:Rat)≤(eM K A n:Rat):=Hd (Nat.zero_le _)
 refine Zfx (s:=-(K:Rat)) (t:=(K:Rat)) (κ:=(Ym (Yx (sqf F xs)):Rat)) (ε:=D⁻¹) (L:=(eL K A n:Rat)) (L':=(eL K A n:Rat)) (M:=(eM K A n:Rat)) (h:=P⁻¹) f2 (Yv htp) hC.2.2 O4 (fun x=>?_) hi hbig hLn (Zlv n _ O na) hLn (Zlv n _ O nbp) hMn (Yau n _ O na) hj ?_ ?_ h1 huv h3 hh
 ·rw [←Ll,←Ze]
  exact On x _ _ fun i=>by rw [Xv,Int.mul_comm,Hs]
 ·-- P⁻¹ * (2 L) ≤ D⁻¹ / 2
  have t1:=Rat.mul_nonneg (a:=P⁻¹*D⁻¹) (b:=P-2*D*(2*(eL K A n:Rat))) (by have:=Rat.mul_pos hj hi;grind) O4
  have e1:P⁻¹*D⁻¹*(P-2*D*(2*(eL K A n:Rat)))=D⁻¹*(P*P⁻¹)-2*P⁻¹*(D*D⁻¹)*(2*(eL K A n:Rat)):=O4
  rw [e1,hii,hjj]at t1
  grind
 ·have t1:=Rat.mul_nonneg (a:=P⁻¹*D⁻¹) (b:=P-2*D*(eM K A n:Rat)) (by have:=Rat.mul_pos hj hi;grind) O4
  have e1:P⁻¹*D⁻¹*(P-2*D*(eM K A n:Rat))=D⁻¹*(P*P⁻¹)-2*P⁻¹*(D*D⁻¹)*(eM K A n:Rat):=O4
  rw [e1,hii,hjj]at t1
  have t2:=Rat.mul_nonneg (a:=(Ym (Yx (sqf F xs)):Rat)-1) (b:=D⁻¹) O4 O4
  grind
theorem Zjh{xs:List Int}{F:Nat}(hx:Tr xs)(h0:xs≠[])(hC:Cd F xs){s t:Rat}(hst:s≤t):vat ((chn F xs).map Zb) t≤vat ((chn F xs).map Zb) s:=by
 obtain⟨h,h1,h2⟩:=Zjg hx h0 hC s t
 have hc:∀f u v,0≤crs f u v:=fun f u v=>by unfold crs;split<;>decide
 have key:∀n:Nat,∀y,s≤y→y≤t→y-s≤(n:Rat)*h→vat ((chn F xs).map Zb) y≤vat ((chn F xs).map Zb) s:=fun n=>by
  induction n with
  | zero=>
    intro y h3 h4 h5;have:y=s:=by simp at h5;grind
    rw [this];exact Int.le_refl _
  | succ n ih=>
   intro y h3 h4 h5
   have h6:((n+1:Nat):Rat)*h=(n:Rat)*h+h:=by push_cast;grind
   rcases(show y-s≤(n:Rat)*h∨(n:Rat)*h<y-s by grind)with h7 | h7
   ·exact ih y h3 h4 h7
   ·have h8:(0:Rat)≤(n:Rat)*h:=Rat.mul_nonneg (by exact_mod_cast Nat.zero_le n) O4
    rcases(show s≤y-h∨y-h<s by grind)with h9 | h9
    ·have a:=ih (y-h) h9 O4 O4
     have b:=h2 (y-h) y h9 O4 h4 O4
     have c:=hc (Zb (sqf F xs)) (y-h) y
     omega
    ·have b:=h2 s y O4 h3 h4 O4
     have c:=hc (Zb (sqf F xs)) s y
     omega
 have h3:∃n:Nat,t-s≤(n:Rat)*h:=by
  have h4:0<h⁻¹:=Rat.inv_pos.2 h1
  refine⟨((t-s)*h⁻¹).ceil.toNat,?_⟩
  have h5:=@Rat.le_ceil ((t-s)*h⁻¹)
  have h6:((((t-s)*h⁻¹).ceil:Int):Rat)≤((((t-s)*h⁻¹).ceil.toNat:Nat):Rat):=by
   have:((t-s)*h⁻¹).ceil≤((((t-s)*h⁻¹).ceil.toNat:Nat):Int):=Int.self_le_toNat _
   exact_mod_cast this
  have h7:=Rat.mul_le_mul_of_nonneg_right (Rat.le_trans h5 h6) (show 0≤h by grind)
  have h8:(t-s)*h⁻¹*h=t-s:=O4
  grind
 obtain⟨n,hn⟩:=h3
 exact key n t hst O4 hn
def qv(z:R2):Rat:=(z.1:Rat)/(z.2:Rat)
theorem Zqy{x y X Y g:Nat}(hg:g=Nat.gcd x y)(hy:0<y)(hY:0<Y)(h:x*Y=X*y):y/g∣Y∧x/g≤X:=by
 have hg0:0<g:=by rw [hg];exact Nat.gcd_pos_of_pos_right _ hy
 have hc:Nat.Coprime (x/g) (y/g):=by rw [hg];exact Nat.coprime_div_gcd_div_gcd (by rw [←hg];exact hg0)
 have hx':x/g*g=x:=Nat.div_mul_cancel (by rw [hg];exact Nat.gcd_dvd_left _ _)
 have hy':y/g*g=y:=Nat.div_mul_cancel (by rw [hg];exact Nat.gcd_dvd_right _ _)
 have h2:x/g*Y=X*(y/g):=by
  refine Nat.eq_of_mul_eq_mul_right hg0 ?_
  have e1:x/g*Y*g=x/g*g*Y:=O4
  have e2:X*(y/g)*g=X*(y/g*g):=O4
  rw [e1,e2,hx',hy',h]
 have hd:y/g∣Y:=hc.symm.dvd_of_dvd_mul_left (by rw [h2];exact Nat.dvd_mul_left _ _)
 refine⟨hd,?_⟩
 obtain⟨k,hk⟩:=hd
 have hk0:0<k:=Nat.pos_of_ne_zero fun e=>by rw [e,Nat.mul_zero]at hk;omega
 have hyg:0<y/g:=Nat.pos_of_ne_zero fun e=>by rw [e,Nat.zero_mul]at hy';omega
 rw [hk]at h2
 have h3:x/g*k=X:=by
  refine Nat.eq_of_mul_eq_mul_right hyg ?_
  have:x/g*k*(y/g)=x/g*(y/g*k):=O4
  rw [this,h2]
 rw [←h3]
 exact Nat.le_mul_of_pos_right _ hk0
theorem Zmr{x y X Y:Int}(hy:0<y)(hY:0<Y)(h:x*Y=X*y){B:Nat}(hX:bl X.natAbs≤B)(hYb:bl Y.natAbs≤B)(hB:B≤65536) :
  ¬Lq x y∧Ff x y∣Y∧0<Ff x y∧bl (Eg x y).natAbs≤B∧bl (Ff x y).natAbs≤B∧Eg x y*y=x*Ff x y:=by
 have hg:Mn x y=(Nat.gcd x.natAbs y.natAbs:Int):=by rw [Yg8 O];rfl
 have hn:x.natAbs*Y.natAbs=X.natAbs*y.natAbs:=by rw [←Int.natAbs_mul,←Int.natAbs_mul,h]
 obtain⟨d1,d2⟩:=Zqy (g:=Nat.gcd x.natAbs y.natAbs) rfl (by omega:0<y.natAbs) (by omega:0<Y.natAbs) hn
 have e1:(y/Mn x y).natAbs=y.natAbs/Nat.gcd x.natAbs y.natAbs:=by
  rw [Int.natAbs_ediv_of_dvd (Zin x y),Zaw]
 have e2:(x/Mn x y).natAbs=x.natAbs/Nat.gcd x.natAbs y.natAbs:=by
  rw [Int.natAbs_ediv_of_dvd (Zp0 x y),Zaw]
 have b1:bl (y/Mn x y).natAbs≤B:=Nat.le_trans (Pn (by rw [e1];exact Nat.le_of_dvd O d1)) hYb
 have b2:bl (x/Mn x y).natAbs≤B:=Nat.le_trans (Pn (by rw [e2];exact d2)) hX
 have hf:¬Lq x y:=fun h=>by unfold Lq at h;omega
 obtain⟨n1,n2,-⟩:=Zc0 hf
 refine⟨hf,?_,Zsi hf hy,by rw [n1];exact b2,by rw [n2];exact b1,?_⟩
 ·rw [n2]
  refine Int.natAbs_dvd_natAbs.1 ?_
  rw [e1];exact d1
 ·rw [n1,n2];exact Ycd x y
structure En (K Q:Nat) (d:Nat) (z:R2):Prop where
 pos:0<z.2
 dv:z.2∣((Q*2^d:Nat):Int)
 lo:-(K:Rat)≤qv z
 hi:qv z≤(K:Rat)
theorem En.up{K Q d:Nat}{z:R2}(h:En K Q d z):En K Q (d+1) z:=by
 obtain⟨h1,h2,h3,h4⟩:=h
 refine⟨h1,?_,h3,h4⟩
 have:((Q*2^(d+1):Nat):Int)=((Q*2^d:Nat):Int)*2:=by rw [Nat.pow_succ];push_cast;grind
 rw [this];exact Int.dvd_trans h2 (Int.dvd_mul_right _ _)
theorem canc{N p s Y X D:Int}(hp:p≠0)(h1:N*p=s*D)(h2:s*Y=X*p):N*Y=X*D:=by
 refine Int.eq_of_mul_eq_mul_right hp ?_
 have e1:N*Y*p=(N*p)*Y:=O4
 have e2:X*D*p=(X*p)*D:=O4
 rw [e1,e2,h1,←h2];grind
theorem Il{z:Int}(h:0<z):(0:Rat)<(z:Rat):=by exact_mod_cast h
theorem Zbd{n m:Nat}(h:n<2^m):bl n≤m:=(Xw m n).2 h
theorem mid_en{K Q d B:Nat}{a b:R2}(ha:En K Q d a)(hb:En K Q d b)(hQ:0<Q)(hB1:Q*2^(d+1)<2^B)(hB2:2*K*(Q*2^d)<2^B)(hB:B≤65536) :
  Zch a b∧En K Q (d+1) (Qx a b)∧qv (Qx a b)=(qv a+qv b)/2∧bl (Qx a b).1.natAbs≤B∧bl (Qx a b).2.natAbs≤B:=by
 obtain⟨pa,⟨ka,da⟩,la,ua⟩:=ha
 obtain⟨pb,⟨kb,db⟩,lb,ub⟩:=hb
 generalize hY:((Q*2^d:Nat):Int)=Y at *
 have hQd:0<Q*2^d:=Nat.mul_pos hQ (Nat.pow_pos O3)
 have hY0:0<Y:=by rw [←hY];exact_mod_cast hQd
 have rpa:=Il pa
 have rpb:=Il pb
 have rY:=Il hY0
 have hpp:0<a.2*b.2:=Int.mul_pos pa pb
 have hsum:(a.1*b.2+b.1*a.2)*Y=(a.1*ka+b.1*kb)*(a.2*b.2):=by
  have e1:(a.1*ka+b.1*kb)*(a.2*b.2)=a.1*b.2*(a.2*ka)+b.1*a.2*(b.2*kb):=O4
  rw [e1,←da,←db];grind
 have hqa:(a.1:Rat)*ka=qv a*Y:=by
  unfold qv;have:(Y:Rat)=(a.2:Rat)*ka:=by rw [da];push_cast;rfl
  rw [this];grind
 have hqb:(b.1:Rat)*kb=qv b*Y:=by
  unfold qv;have:(Y:Rat)=(b.2:Rat)*kb:=by rw [db];push_cast;rfl
  rw [this];grind
 have hX:((a.1*ka+b.1*kb:Int):Rat)=(qv a+qv b)*Y:=by push_cast;rw [hqa,hqb];grind
 have hXb:(a.1*ka+b.1*kb).natAbs≤2*K*(Q*2^d):=by
  have hKn:((2*K*(Q*2^d):Nat):Rat)=2*(K:Rat)*(Y:Rat):=by rw [←hY];push_cast;grind
  have t1:=Rat.mul_nonneg (a:=2*(K:Rat)-(qv a+qv b)) (b:=(Y:Rat)) O4 O4
  have t2:=Rat.mul_nonneg (a:=2*(K:Rat)+(qv a+qv b)) (b:=(Y:Rat)) O4 O4
  have u1:((a.1*ka+b.1*kb:Int):Rat)≤(((2*K*(Q*2^d):Nat):Int):Rat):=by rw [hX];push_cast at hKn ⊢;grind
  have u2:((-((2*K*(Q*2^d):Nat):Int):Int):Rat)≤((a.1*ka+b.1*kb:Int):Rat):=by rw [hX];push_cast at hKn ⊢;grind
  have v1:a.1*ka+b.1*kb≤((2*K*(Q*2^d):Nat):Int):=by exact_mod_cast u1
  have v2:-((2*K*(Q*2^d):Nat):Int)≤a.1*ka+b.1*kb:=by exact_mod_cast u2
  omega
 have hYb:Y.natAbs=Q*2^d:=by rw [←hY];rfl
 have hB3:Q*2^(d+1)=2*(Q*2^d):=by rw [Nat.pow_succ];grind
 have hbY:bl Y.natAbs≤B:=Zbd (by rw [hYb];omega)
 have hbX:bl (a.1*ka+b.1*kb).natAbs≤B:=Zbd O
 obtain⟨f1,f2,f3,f4,f5,f6⟩:=Zmr hpp hY0 hsum hbX hbY hB
 have hv1:=canc (Int.ne_of_gt hpp) f6 hsum
 have hbY2:bl (2*Y).natAbs≤B:=Zbd (by rw [Int.natAbs_mul,hYb];show 2*(Q*2^d)<_;omega)
 have hs2:Eg (a.1*b.2+b.1*a.2) (a.2*b.2)*1*(2*Y)=(a.1*ka+b.1*kb)*(Ff (a.1*b.2+b.1*a.2) (a.2*b.2)*2):=by
  rw [Int.mul_one]
  have e1:Eg (a.1*b.2+b.1*a.2) (a.2*b.2)*(2*Y)=2*(Eg (a.1*b.2+b.1*a.2) (a.2*b.2)*Y):=O4
  rw [e1,hv1];grind
 have hp2:0<Ff (a.1*b.2+b.1*a.2) (a.2*b.2)*2:=O
 obtain⟨g1,g2,g3,g4,g5,g6⟩:=Zmr hp2 (by omega:0<2*Y) hs2 hbX hbY2 hB
 have hv2:=canc (Int.ne_of_gt hp2) g6 hs2
 have hm1:(Qx a b).1=Eg (Eg (a.1*b.2+b.1*a.2) (a.2*b.2)*1) (Ff (a.1*b.2+b.1*a.2) (a.2*b.2)*2):=rfl
 have hm2:(Qx a b).2=Ff (Eg (a.1*b.2+b.1*a.2) (a.2*b.2)*1) (Ff (a.1*b.2+b.1*a.2) (a.2*b.2)*2):=rfl
 rw [←hm1,←hm2]at hv2
 rw [←hm2]at g2 g3 g5
 rw [←hm1]at g4
 have hq:qv (Qx a b)=(qv a+qv b)/2:=by
  have h1:(((Qx a b).1:Int):Rat)*(2*(Y:Rat))=((a.1*ka+b.1*kb:Int):Rat)*(((Qx a b).2:Int):Rat):=by
   have:(((Qx a b).1*(2*Y):Int):Rat)=(((a.1*ka+b.1*kb)*(Qx a b).2:Int):Rat):=by rw [hv2]
   push_cast at this ⊢;grind
  rw [hX]at h1
  have rd:=Il g3
  unfold qv at *
  generalize (((Qx a b).1:Int):Rat)=n at *
  generalize (((Qx a b).2:Int):Rat)=m at *
  generalize (a.1:Rat)/(a.2:Rat)=p at *
  generalize (b.1:Rat)/(b.2:Rat)=q at *
  generalize (Y:Rat)=y at *
  grind
 refine⟨⟨f1,g1⟩,⟨g3,?_,by rw [hq];grind,by rw [hq];grind⟩,hq,g4,g5⟩
 have e:((Q*2^(d+1):Nat):Int)=2*Y:=by rw [hB3,←hY];push_cast;rfl
 rw [e];exact g2
end Go.Sky

