/- Rules, arithmetic and contracts: part 10. No conditions but those that each theorem names. -/
import Derived.Test.YtljmhpopdmadkaaGreatLf04
set_option linter.all false
namespace Go.Sky
abbrev RWL:=List (Bool×ByteArray)
def smallR(r:RWL):Bool:=decide (r.length≤8) && r.all fun c=>decide (c.2.size≤6)
noncomputable def dec (r:RWL):List Int:=if h:okP r=true then(okP_ex h).choose else []
noncomputable def bdE (r:RWL):Int:=if okP r=true then Zq1 (dec r)else 2
noncomputable def bdZ (r:RWL):Int:=if bdE r=0 then Bq (dec r)else 0
def firstE(r:RWL)(x y x2 y2:Int):Int:=if okP r=true then(if r.length=0∨0<x*y2-x2*y then 3 else 0)else 2
def chke:Nat→Nat→Nat→Nat→Nat→Bool
 | 0,la,_,A,_=>Nat.ble (A+la*64) 65500
 | f+1,la,lb,A,B=>Nat.ble (A+la*64) 65500 && (Nat.beq lb 0 || (List.range lb).all fun l=>chke f lb l B (bif Nat.ble l 1 then 2 else A+(la-lb+1)*B))
inductive SV:List Int→List Int→Prop
 | one (a:Int):SV [a] [a]
 | step (a:Int) (r t:List Int):SV r t→SV (a :: r) (a :: t)
 | skip (a u w:Int) (r t:List Int):(a=1∨a=-1)→(-1≤u∧u≤1)→(-1≤w∧w≤1)→SV (-a :: r) (-a :: t)→SV (a :: u :: -a :: r) (a :: w :: -a :: t)
theorem Zj3{s:Int×Int}{a u:Int}(ha:a=1∨a=-1)(hu:-1≤u∧u≤1):Nd (Nd (Nd s a) u) (-a)=Nd (Nd s a) (-a):=by
 obtain⟨n,l⟩:=s
 have h3:u=-1∨u=0∨u=1:=O
 rcases ha with rfl | rfl<;>rcases h3 with rfl | rfl | rfl<;>simp [Nd]
theorem SV.fold{a b:List Int}(h:SV a b):∀s,a.foldl Nd s=b.foldl Nd s:=by
 induction h with
 | one a=>intro s;rfl
 | step a r t _ ih=>intro s;exact ih (Nd s a)
 | skip a u w r t ha hu hw _ ih=>
  intro s
  show(r.foldl Nd (Nd (Nd (Nd s a) u) (-a)))=(t.foldl Nd (Nd (Nd (Nd s a) w) (-a)))
  rw [Zj3 ha hu,Zj3 ha hw]
  exact ih (Nd s a)
theorem SV.chg{a b:List Int}(h:SV a b):chg a=chg b:=congrArg Prod.fst (h.fold (0,0))
def Gd(x:Rat):Int:=if x<0 then -1 else if x=0 then 0 else 1
theorem Zxm(x:Rat):-1≤Gd x∧Gd x≤1:=by unfold Gd;split;decide;split<;>decide
theorem Dj{x:Rat}(h:0<x):Gd x=1:=by unfold Gd;rw [if_neg O4,if_neg O4]
theorem Dk{x:Rat}(h:x<0):Gd x=-1:=by unfold Gd;rw [if_pos h]
def Big(η x:Rat)(f:Rat→Rat):Prop:=η<f x∨f x < -η
def Tri(η x:Rat):(Rat→Rat)→List (Rat→Rat)→Prop
 | _,[]=>True
 | _,[g]=>Big η x g
 | f,g :: k :: r=>(Big η x g∧Tri η x g (k :: r))∨(Big η x k∧f x*k x<0∧Tri η x k r)
def Near(η x y:Rat)(f:Rat→Rat):Prop:=f x-f y≤η∧f y-f x≤η
theorem Zmh{η x y:Rat}{f:Rat→Rat}(h0:0≤η)(h:Big η x f)(hn:Near η x y f):Gd (f x)=Gd (f y)∧(Gd (f x)=1∨Gd (f x)=-1):=by
 obtain⟨h1,h2⟩:=hn
 rcases h with h | h
 ·rw [Dj O4,Dj O4];exact⟨rfl,.inl rfl⟩
 ·rw [Dk O4,Dk O4];exact⟨rfl,.inr rfl⟩
theorem opp_sg{a b:Rat}(h:a*b<0):Gd b=- Gd a:=by
 rcases(show a<0∨a=0∨0<a by grind)with h1 | h1 | h1
 ·rw [Dk h1,Dj (by
   rcases(show b≤0∨0<b by grind)with h2 | h2
   ·have:=Rat.mul_nonneg (a:=-a) (b:=-b) O4 O4;grind
   ·exact h2)];rfl
 ·subst h1;grind
 ·rw [Dj h1,Dk (by
   rcases(show 0≤b∨b<0 by grind)with h2 | h2
   ·have:=Rat.mul_nonneg (a:=a) (b:=b) O4 h2;grind
   ·exact h2)]
theorem Zkd{η x y:Rat}(h0:0≤η):∀(n:Nat) (f:Rat→Rat) (fs:List (Rat→Rat)),fs.length≤n→Big η x f→(∀g∈f :: fs,Near η x y g)→Tri η x f fs→
  SV ((f :: fs).map fun g=>Gd (g x)) ((f :: fs).map fun g=>Gd (g y))
 | _,f,[],_,hb,hn,_=>by
  have:=(Zmh h0 hb (hn f (List.mem_cons_self ..))).1
  simp only [List.map_cons,List.map_nil,this]
  exact SV.one _
 | 0,f,g :: r,hl,_,_,_=>absurd hl O5
 | n+1,f,[g],hl,hb,hn,ht=>by
  have h1:=(Zmh h0 hb (hn f (List.mem_cons_self ..))).1
  have h2:=Zkd h0 n g [] O5 ht (fun k hk=>hn k (List.mem_cons_of_mem _ hk)) trivial
  rw [List.map_cons,List.map_cons,h1]
  exact SV.step _ _ _ h2
 | n+1,f,g :: k :: r,hl,hb,hn,ht=>by
  have h1:=Zmh h0 hb (hn f (List.mem_cons_self ..))
  rcases ht with⟨hg,ht⟩ | ⟨hk,ho,ht⟩
  ·have h2:=Zkd h0 n g (k :: r) (by simp at hl ⊢;omega) hg (fun k hk=>hn k (List.mem_cons_of_mem _ hk)) ht
   rw [List.map_cons (l:=g :: k :: r),List.map_cons (l:=g :: k :: r),h1.1]
   exact SV.step _ _ _ h2
  ·have h2:=Zkd h0 n k r (by simp at hl ⊢;omega) hk (fun j hj=>hn j (List.mem_cons_of_mem _ (List.mem_cons_of_mem _ hj))) ht
   have h3:=(Zmh h0 hk (hn k O5)).1
   have h4:=opp_sg ho
   rw [List.map_cons (l:=r),List.map_cons (l:=r)]at h2
   simp only [List.map_cons]
   rw [←h3]at h2 ⊢
   rw [h4]at h2 ⊢
   rw [←h1.1]
   exact SV.skip _ _ _ _ _ h1.2 (Zxm _) (Zxm _) h2
structure Lnk (η x:Rat) (f g k:Rat→Rat):Prop where
 big:¬Big η x g→Big η x k
 opp:¬Big η x g→f x*k x<0
def Lnks(η x:Rat):(Rat→Rat)→List (Rat→Rat)→Prop
 | _,[]=>True
 | _,[g]=>Big η x g
 | f,g :: k :: r=>Lnk η x f g k∧Lnks η x g (k :: r)
theorem Zho{η x:Rat} : ∀(n:Nat) (f:Rat→Rat) (fs:List (Rat→Rat)),fs.length≤n→Lnks η x f fs→Tri η x f fs
 | _,f,[],_,_=>trivial
 | 0,f,g :: r,hl,_=>absurd hl O5
 | n+1,f,[g],_,h=>h
 | n+1,f,[g,k],hl,h=>by
  by_cases hg:Big η x g
  ·exact .inl ⟨hg,h.2⟩
  ·exact .inr ⟨h.1.big hg,h.1.opp hg,trivial⟩
 | n+1,f,g :: k :: j :: r,hl,h=>by
  by_cases hg:Big η x g
  ·exact .inl ⟨hg,Zho n g (k :: j :: r) (by simp at hl ⊢;omega) h.2⟩
  ·exact .inr ⟨h.1.big hg,h.1.opp hg,Zho n k (j :: r) (by simp at hl ⊢;omega) h.2.2⟩
def Rl3(s t:Rat)(f g k:Rat→Rat):Prop:=∃m n Q:Rat,0<m∧0<n∧0<Q∧∀x,s≤x→x≤t→∃q,-Q≤q∧q≤Q∧m*f x=q*g x-n*k x
def Rl2(s t:Rat)(f g:Rat→Rat):Prop:=∃m Q:Rat,0<m∧0<Q∧∀x,s≤x→x≤t→∃q,-Q≤q∧q≤Q∧m*f x=q*g x
def Rls(s t:Rat):(Rat→Rat)→List (Rat→Rat)→Prop
 | _,[]=>True
 | f,[g]=>Rl2 s t f g
 | f,g :: k :: r=>Rl3 s t f g k∧Rls s t g (k :: r)
theorem Ao{q Q g e:Rat}(h1:-Q≤q)(h2:q≤Q)(h3:-e≤g)(h4:g≤e)(hQ:0≤Q):q*g≤Q*e∧-(Q*e)≤q*g:=by
 have a:=Rat.mul_nonneg (a:=Q-q) (b:=e+g) O4 O4
 have b:=Rat.mul_nonneg (a:=Q+q) (b:=e-g) O4 O4
 have c:=Rat.mul_nonneg (a:=Q-q) (b:=e-g) O4 O4
 have d:=Rat.mul_nonneg (a:=Q+q) (b:=e+g) O4 O4
 constructor<;>grind
theorem Zbq{η x:Rat}{g:Rat→Rat}(h:¬Big η x g):-η≤g x∧g x≤η:=by
 unfold Big at h;constructor<;>grind
theorem Zq8{η ε x:Rat}{g:Rat→Rat}(h:η≤ε)(hb:Big ε x g):Big η x g:=by
 unfold Big at *;grind
theorem Km{ε a b:Rat}(h:0<ε)(ha:0<a)(hb:0<b):∃e:Rat,0<e∧e≤ε∧e*a≤b:=by
 have h1:0<b*a⁻¹:=Rat.mul_pos hb (Rat.inv_pos.2 ha)
 have h2:b*a⁻¹*a=b:=O4
 rcases(show ε≤b*a⁻¹∨b*a⁻¹≤ε by grind)with h3 | h3
 ·exact⟨ε,h,O4,by have:=Rat.mul_le_mul_of_nonneg_right h3 (show 0≤a by grind);grind⟩
 ·exact⟨b*a⁻¹,h1,h3,O4⟩
theorem pair3{s t ε:Rat}{f g k:Rat→Rat}(h:Rl3 s t f g k)(he:0<ε)(hp:∀x,s≤x→x≤t→Big ε x f∨Big ε x g) :
  ∃e,0<e∧(∀x,s≤x→x≤t→Big e x g∨Big e x k)∧∀η,0<η→η≤e→∀x,s≤x→x≤t→Lnk η x f g k:=by
 obtain⟨m,n,Q,hm,hn,hQ,hr⟩:=h
 obtain⟨e,e1,e2,e3⟩:=Km he (show 0<Q+n by grind) (Rat.mul_pos hm he)
 have key:∀η,0<η→η≤e→∀x,s≤x→x≤t→¬Big η x g→Big η x k∧f x*k x<0:=fun η h1 h2 x hs ht hg=>by
  obtain⟨q,q1,q2,q3⟩:=hr x hs ht
  obtain⟨g1,g2⟩:=Zbq hg
  obtain⟨p1,p2⟩:=Ao q1 q2 g1 g2 O4
  have hf:Big ε x f:=(hp x hs ht).resolve_right fun h=>hg (Zq8 O4 h)
  have c1:η*(Q+n)≤m*ε:=by
   have:=Rat.mul_le_mul_of_nonneg_right h2 (show 0≤Q+n by grind);grind
  have c2:0<η*n:=Rat.mul_pos h1 hn
  rcases hf with hf | hf
  ·have d1:m*ε<m*f x:=by have:=Rat.mul_pos hm (show 0<f x-ε by grind);grind
   have d2:n*k x < - (n*η):=O4
   have d3:k x < -η:=by
    rcases(show k x < -η∨-η≤k x by grind)with h9 | h9
    ·exact h9
    ·have:=Rat.mul_nonneg (a:=n) (b:=k x+η) O4 O4;grind
   refine⟨.inr d3,?_⟩
   have:=Rat.mul_pos (a:=f x) (b:=- k x) O4 O4;grind
  ·have d1:m*f x < - (m*ε):=by have:=Rat.mul_pos hm (show 0 < -ε-f x by grind);grind
   have d2:n*η<n*k x:=O4
   have d3:η<k x:=by
    rcases(show η<k x∨k x≤η by grind)with h9 | h9
    ·exact h9
    ·have:=Rat.mul_nonneg (a:=n) (b:=η-k x) O4 O4;grind
   refine⟨.inl d3,?_⟩
   have:=Rat.mul_pos (a:=- f x) (b:=k x) O4 O4;grind
 refine⟨e,e1,fun x hs ht=>?_,fun η h1 h2 x hs ht=>⟨fun hg=>(key η h1 h2 x hs ht hg).1,fun hg=>(key η h1 h2 x hs ht hg).2⟩⟩
 by_cases hg:Big e x g
 ·exact .inl hg
 ·exact .inr (key e e1 O4 x hs ht hg).1
theorem pair2{s t ε:Rat}{f g:Rat→Rat}(h:Rl2 s t f g)(he:0<ε)(hp:∀x,s≤x→x≤t→Big ε x f∨Big ε x g) :
  ∃e,0<e∧∀η,0<η→η≤e→∀x,s≤x→x≤t→Big η x g:=by
 obtain⟨m,Q,hm,hQ,hr⟩:=h
 obtain⟨e,e1,e2,e3⟩:=Km he hQ (Rat.mul_pos hm he)
 refine⟨e,e1,fun η h1 h2 x hs ht=>?_⟩
 by_cases hg:Big η x g
 ·exact hg
 ·exfalso
  obtain⟨q,q1,q2,q3⟩:=hr x hs ht
  obtain⟨g1,g2⟩:=Zbq hg
  obtain⟨p1,p2⟩:=Ao q1 q2 g1 g2 O4
  have hf:Big ε x f:=(hp x hs ht).resolve_right fun h=>hg (Zq8 O4 h)
  have c1:η*Q≤m*ε:=by
   have:=Rat.mul_le_mul_of_nonneg_right h2 (show 0≤Q by grind);grind
  rcases hf with hf | hf
  ·have:=Rat.mul_pos hm (show 0<f x-ε by grind);grind
  ·have:=Rat.mul_pos hm (show 0 < -ε-f x by grind);grind
theorem Zn4{s t:Rat} : ∀(n:Nat) (f:Rat→Rat) (fs:List (Rat→Rat)) (ε:Rat),fs.length≤n→Rls s t f fs→0<ε→(∀g r,fs=g :: r→∀x,s≤x→x≤t→Big ε x f∨Big ε x g)→
  ∃e,0<e∧∀η,0<η→η≤e→∀x,s≤x→x≤t→Lnks η x f fs
 | _,f,[],ε,_,_,he,_=>⟨ε,he,fun _ _ _ _ _ _=>trivial⟩
 | 0,f,g :: r,ε,hl,_,_,_=>absurd hl O5
 | n+1,f,[g],ε,_,h,he,hp=>pair2 h he (hp g [] rfl)
 | n+1,f,g :: k :: r,ε,hl,h,he,hp=>by
  obtain⟨e,e1,e2,e3⟩:=pair3 h.1 he (hp g (k :: r) rfl)
  obtain⟨e',e1',e2'⟩:=Zn4 n g (k :: r) e (by simp at hl ⊢;omega) h.2 e1 (fun k' r' heq=>by
   injection heq with h1 h2;subst h1;exact e2)
  rcases(show e≤e'∨e'≤e by grind)with h9 | h9
  ·exact⟨e,e1,fun η h1 h2 x hs ht=>⟨e3 η h1 h2 x hs ht,e2' η h1 O4 x hs ht⟩⟩
  ·exact⟨e',e1',fun η h1 h2 x hs ht=>⟨e3 η h1 O4 x hs ht,e2' η h1 h2 x hs ht⟩⟩
def Lip(s t L:Rat)(f:Rat→Rat):Prop:=∀x y,s≤x→x≤y→y≤t→f x-f y≤L*(y-x)∧f y-f x≤L*(y-x)
def Av(fs:List (Rat→Rat))(x:Rat):Int:=chg (fs.map fun g=>Gd (g x))
theorem Ybv{s t L δ:Rat}{f:Rat→Rat}{fs:List (Rat→Rat)}(hL:0<L)(hl:∀g∈f :: fs,Lip s t L g)(hd:0<δ)(hb:∀x,s≤x→x≤t→Big δ x f)(hr:Rls s t f fs) :
  ∃h,0<h∧∀x y,s≤x→x≤y→y≤t→y-x≤h→Av (f :: fs) x=Av (f :: fs) y:=by
 obtain⟨e,e1,e2⟩:=Zn4 fs.length f fs δ (Nat.le_refl _) hr hd (fun g r _ x hs ht=> .inl (hb x hs ht))
 obtain⟨η,n1,n2,n3⟩:=Km hd (show(0:Rat)<1 by decide) e1
 obtain⟨h,h1,h2,h3⟩:=Km n1 hL n1
 refine⟨h,h1,fun x y hx hxy hy hh=>SV.chg ?_⟩
 refine Zkd O4 fs.length f fs (Nat.le_refl _) (Zq8 O4 (hb x hx O4)) (fun g hg=>?_) (Zho _ _ _ (Nat.le_refl _) (e2 η n1 O4 x hx O4))
 obtain⟨a,b⟩:=hl g hg x y hx hxy hy
 have:=Rat.mul_le_mul_of_nonneg_right hh (show 0≤L by grind)
 exact⟨O4,O4⟩
theorem Zuj{s t L δ:Rat}{f:Rat→Rat}{fs:List (Rat→Rat)}(hL:0<L)(hl:∀g∈f :: fs,Lip s t L g)(hd:0<δ)(hb:∀x,s≤x→x≤t→Big δ x f)(hr:Rls s t f fs)(hst:s≤t) :
  Av (f :: fs) s=Av (f :: fs) t:=by
 obtain⟨h,h1,h2⟩:=Ybv hL hl hd hb hr
 have key:∀n:Nat,∀y,s≤y→y≤t→y-s≤(n:Rat)*h→Av (f :: fs) s=Av (f :: fs) y:=fun n=>by
  induction n with
  | zero=>
    intro y h3 h4 h5;have:y=s:=by simp at h5;grind
    rw [this]
  | succ n ih=>
   intro y h3 h4 h5
   have h6:((n+1:Nat):Rat)*h=(n:Rat)*h+h:=by push_cast;grind
   rcases(show y-s≤(n:Rat)*h∨(n:Rat)*h<y-s by grind)with h7 | h7
   ·exact ih y h3 h4 h7
   ·have h8:(0:Rat)≤(n:Rat)*h:=Rat.mul_nonneg (by exact_mod_cast Nat.zero_le n) O4
    rcases(show s≤y-h∨y-h<s by grind)with h9 | h9
    ·rw [ih (y-h) h9 O4 O4]
     exact h2 (y-h) y h9 O4 h4 O4
    ·exact h2 s y O4 h3 h4 O4
 have h3:∃n:Nat,t-s≤(n:Rat)*h:=by
  have h4:0<h⁻¹:=Rat.inv_pos.2 h1
  refine⟨((t-s)*h⁻¹).ceil.toNat,?_⟩
  have h5:=@Rat.le_ceil ((t-s)*h⁻¹)
  have h6:((((t-s)*h⁻¹).ceil:Int):Rat)≤((((t-s)*h⁻¹).ceil.toNat:Nat):Rat):=by
   have:((t-s)*h⁻¹).ceil≤((((t-s)*h⁻¹).ceil.toNat:Nat):Int):=Int.self_le_toNat _
   exact_mod_cast this
  have h7:=Rat.mul_le_mul_of_nonneg_right (Rat.le_trans h5 h6) (show 0≤h by grind)
  have h8:(t-s)*h⁻¹*h=t-s:=O4
  grind
 obtain⟨n,hn⟩:=h3
 exact key n t hst O4 hn
def Zb:List Int→Rat→Rat
 | [],_=>0
 | c :: p,x=>(c:Rat)+x*Zb p x
theorem Ydg(s t:Rat):∃K:Rat,0<K∧∀x,s≤x→x≤t→-K≤x∧x≤K:=by
 rcases(show(0≤s∨s<0) by grind)with h | h<;>rcases(show(0≤t∨t<0) by grind)with h' | h'
 ·exact⟨t+1,O4,fun x _ _=>O4⟩
 ·exact⟨1,O4,fun x _ _=>O4⟩
 ·exact⟨t-s+1,O4,fun x _ _=>O4⟩
 ·exact⟨-s+1,O4,fun x _ _=>O4⟩
theorem Znk(s t:Rat):∀p:List Int,∃B:Rat,0<B∧∀x,s≤x→x≤t→-B≤Zb p x∧Zb p x≤B
 | []=>⟨1,O3,fun x _ _=>by unfold Zb;grind⟩
 | c :: p=>by
  obtain⟨B,b1,b2⟩:=Znk s t p
  obtain⟨K,k1,k2⟩:=Ydg s t
  obtain⟨C,c1,c2⟩:=Ydg (c:Rat) (c:Rat)
  have hc:=c2 (c:Rat) O4 O4
  refine⟨C+K*B,by have:=Rat.mul_pos k1 b1;grind,fun x hs ht=>?_⟩
  obtain⟨d1,d2⟩:=b2 x hs ht
  obtain⟨e1,e2⟩:=k2 x hs ht
  obtain⟨f1,f2⟩:=Ao e1 e2 d1 d2 O4
  unfold Zb
  constructor<;>grind
theorem Fs(s t:Rat):∀p:List Int,∃L:Rat,0<L∧Lip s t L (Zb p)
 | []=>⟨1,O3,fun x y _ _ _=>by unfold Zb;constructor<;>grind⟩
 | c :: p=>by
  obtain⟨L,l1,l2⟩:=Fs s t p
  obtain⟨B,b1,b2⟩:=Znk s t p
  obtain⟨K,k1,k2⟩:=Ydg s t
  refine⟨K*L+B,by have:=Rat.mul_pos k1 l1;grind,fun x y hs hxy ht=>?_⟩
  obtain⟨a1,a2⟩:=l2 x y hs hxy ht
  obtain⟨d1,d2⟩:=b2 y O4 ht
  obtain⟨e1,e2⟩:=k2 x hs O4
  obtain⟨f1,f2⟩:=Ao (q:=x) (g:=Zb p x-Zb p y) (e:=L*(y-x)) e1 e2 O4 O4 O4
  have g1:=Rat.mul_nonneg (a:=B-Zb p y) (b:=y-x) O4 O4
  have g2:=Rat.mul_nonneg (a:=B+Zb p y) (b:=y-x) O4 O4
  unfold Zb
  constructor<;>grind
theorem Zg6(x:Rat):∀q:List Int,(∀i,cf q i=0)→Zb q x=0
 | [],_=>rfl
 | c :: q,h=>by
  have h0:c=0:=h 0
  have h1:=Zg6 x q fun i=>h (i+1)
  unfold Zb;rw [h1,h0];grind
theorem Nx(x:Rat):∀p q:List Int,(∀i,cf p i=cf q i)→Zb p x=Zb q x
 | [],q,h=>by rw [Zg6 x q fun i=>(h i).symm.trans (Yd (Nat.zero_le _))];rfl
 | c :: p,[],h=>by rw [Zg6 x (c :: p) fun i=>(h i).trans (Yd (Nat.zero_le _))];rfl
 | c :: p,d :: q,h=>by
  have h0:c=d:=h 0
  have h1:=Nx x p q fun i=>h (i+1)
  unfold Zb;rw [h1,h0]
def Nu:List Int→List Int→List Int
 | [],q=>q
 | p,[]=>p
 | a :: p,b :: q=>(a+b) :: Nu p q
theorem Zoe(p:List Int):Nu p []=p:=by cases p<;>rfl
theorem Yz(x:Rat):∀p q:List Int,Zb (Nu p q) x=Zb p x+Zb q x
 | [],q=>by unfold Nu;show Zb q x=0+Zb q x;grind
 | a :: p,[]=>by rw [Zoe];show Zb (a :: p) x=Zb (a :: p) x+0;grind
 | a :: p,b :: q=>by
  have h:=Yz x p q
  unfold Nu Zb;rw [h];push_cast;grind
theorem Li:∀(p q:List Int) (i:Nat),cf (Nu p q) i=cf p i+cf q i
 | [],q,i=>by unfold Nu;rw [show cf [] i=0 from Yd (Nat.zero_le _)];omega
 | a :: p,[],i=>by rw [Zoe,show cf [] i=0 from Yd (Nat.zero_le _)];omega
 | a :: p,b :: q,0=>rfl
 | a :: p,b :: q,i+1=>Li p q i
theorem Zf(x:Rat)(c:Int):∀p:List Int,Zb (p.map fun a=>c*a) x=(c:Rat)*Zb p x
 | []=>by show(0:Rat)=c*0;grind
 | a :: p=>by
  have h:=Zf x c p
  simp only [List.map_cons];unfold Zb;rw [h];push_cast;grind
theorem Xw(c:Int):∀(p:List Int) (i:Nat),cf (p.map fun a=>c*a) i=c*cf p i
 | [],i=>by simp [cf]
 | a :: p,0=>rfl
 | a :: p,i+1=>Xw c p i
def Qc:List Int→List Int→List Int
 | [],_=>[]
 | c :: p,q=>Nu (q.map fun a=>c*a) (0 :: Qc p q)
theorem Zn(x:Rat):∀p q:List Int,Zb (Qc p q) x=Zb p x*Zb q x
 | [],q=>by show(0:Rat)=0*Zb q x;grind
 | c :: p,q=>by
  have h:=Zn x p q
  unfold Qc;rw [Yz,Zf]
  show(c:Rat)*Zb q x+(((0:Int):Rat)+x*Zb (Qc p q) x)=((c:Rat)+x*Zb p x)*Zb q x
  rw [h];grind
theorem Ga:∀(p q:List Int) (i:Nat),cf (Qc p q) i=Yi (fun k=>cf p k*cf q (i-k)) (i+1)
 | [],q,i=>by
  rw [show cf (Qc [] q) i=0 from Yd (Nat.zero_le _)]
  exact(Hm fun k _=>by rw [show cf [] k=0 from Yd (Nat.zero_le _),Int.zero_mul]).symm
 | c :: p,q,0=>by
  unfold Qc;rw [Li,Xw,Yt,Gj]
  show c*cf q 0+0=0+c*cf q 0
  omega
 | c :: p,q,i+1=>by
  have h:=Ga p q i
  unfold Qc;rw [Li,Xw,Kd]
  show c*cf q (i+1)+cf (Qc p q) i=c*cf q (i+1)+_
  rw [h]
  congr 1
  refine Yc fun k hk=>?_
  show cf p k*cf q (i-k)=cf p k*cf q (i+1-(k+1))
  rw [show i+1-(k+1)=i-k by omega]
theorem Gv{a c:Int}{x s y z:List Int}(h:∀t,a*cf x t=(ps s*ps y).c t-c*cf z t)(q:Rat):(a:Rat)*Zb x q=Zb s q*Zb y q-(c:Rat)*Zb z q:=by
 have h1:∀t,cf (Nu (x.map fun b=>a*b) (z.map fun b=>c*b)) t=cf (Qc s y) t:=fun t=>by
  rw [Li,Xw,Xw,Ga,h t,PS.mul_c]
  show Yi (fun k=>cf s k*cf y (t-k)) (t+1)-c*cf z t+c*cf z t=_
  omega
 have h2:=Nx q _ _ h1
 rw [Yz,Zf,Zf,Zn]at h2
 grind
theorem Zuz{s t:Rat}{x y:List Int}(hx:Tr x)(hy:Tr y)(h0:y≠[])(hl:y.length≤x.length):Rl3 s t (Zb x) (Zb y) (Zb (Oj x y)):=by
 have l0:=List.length_pos_iff.2 h0
 obtain⟨r1,r2,k,u,hk⟩:=Zdi hy h0 x.length x hx O
 have hs:=Zek (f:=x.length) hx hy h0 hl O
 have htn:Tr (Zcj (Cl x.length x y)):=Pl _ _
 obtain⟨m,n,hm,hn,hp⟩:=Zch htn
 rw [hs]at hp
 have hK:0<Bu y^k:=Int.pow_pos (Zdl hy h0)
 obtain⟨B,b1,b2⟩:=Znk s t u
 have hm':(0:Rat)<(m:Rat):=by exact_mod_cast hm
 have hn':(0:Rat)<(n:Rat):=by exact_mod_cast hn
 have hK':(0:Rat)<((Bu y^k:Int):Rat):=by exact_mod_cast hK
 refine⟨(n:Rat)*((Bu y^k:Int):Rat),(m:Rat),(n:Rat)*B,Rat.mul_pos hn' hK',hm',Rat.mul_pos hn' b1,fun q hq1 hq2=>⟨(n:Rat)*Zb u q,?_,?_,?_⟩⟩
 ·have:=Rat.mul_nonneg (a:=(n:Rat)) (b:=Zb u q+B) O4 (by have:=b2 q hq1 hq2;grind);grind
 ·have:=Rat.mul_nonneg (a:=(n:Rat)) (b:=B-Zb u q) O4 (by have:=b2 q hq1 hq2;grind);grind
 ·have e1:=Gv (a:=Bu y^k) (c:=-1) (x:=x) (s:=u) (y:=y) (z:=Cl x.length x y) (fun t=>by rw [hk t];omega) q
  have e2:Zb ((Oj x y).map fun b=>m*b) q=Zb ((Cl x.length x y).map fun b=>(-n)*b) q:=Nx q _ _ fun i=>by
   rw [Xw,Xw,hp i,Gz,Int.mul_neg,Int.neg_mul]
  rw [Zf,Zf]at e2
  push_cast at e1 e2 ⊢
  grind
theorem rl2_of{s t:Rat}{f g:Rat→Rat}(h:Rl3 s t f g (Zb [])):Rl2 s t f g:=by
 obtain⟨m,n,Q,hm,hn,hQ,hr⟩:=h
 refine⟨m,Q,hm,hQ,fun x h1 h2=>?_⟩
 obtain⟨q,q1,q2,q3⟩:=hr x h1 h2
 refine⟨q,q1,q2,?_⟩
 have:Zb [] x=0:=rfl
 rw [this]at q3;grind
theorem Zjg{s t:Rat} : ∀(f:Nat) (a b:List Int),Tr a→Tr b→cok f a b→∃r,Ng f a b=a :: r∧Rls s t (Zb a) (r.map Zb)∧(b=[]→r=[])∧(b≠[]→∃r',r=b :: r'):=fun f=>by
 induction f with
 | zero=>
  intro a b ha hb h
  have h0:b=[]:=h
  subst h0
  exact⟨[],rfl,trivial,fun _=>rfl,fun h=>absurd rfl h⟩
 | succ f ih=>
  intro a b ha hb h
  by_cases h0:b=[]
  ·subst h0
   exact⟨[],Eu _ _,trivial,fun _=>rfl,fun h=>absurd rfl h⟩
  ·obtain⟨g,hg,hd,hle,hc,hs⟩:=Zib h h0
   obtain rfl:f=g:=O
   obtain⟨r,h1,h2,h3,h4⟩:=ih b (Oj a b) hb (Zad ha) hc
   have hR:=Zuz (s:=s) (t:=t) ha hb h0 hle
   refine⟨b :: r,by rw [hs,h1],?_,fun h=>absurd h h0,fun _=>⟨r,rfl⟩⟩
   by_cases hz:Oj a b=[]
   ·rw [h3 hz]
    rw [hz]at hR
    exact rl2_of hR
   ·obtain⟨r',rfl⟩:=h4 hz
    exact⟨hR,h2⟩
theorem Zn5{s t L M:Rat}{f:Rat→Rat}(h:L≤M)(hf:Lip s t L f):Lip s t M f:=fun x y h1 h2 h3=>by
 obtain⟨a,b⟩:=hf x y h1 h2 h3
 have:=Rat.mul_le_mul_of_nonneg_right h (show 0≤y-x by grind)
 constructor<;>grind
theorem Zsv(s t:Rat):∀ls:List (List Int),∃L:Rat,0<L∧∀g∈ls.map Zb,Lip s t L g
 | []=>⟨1,O3,fun g hg=>by cases hg⟩
 | p :: ls=>by
  obtain⟨L,l1,l2⟩:=Zsv s t ls
  obtain⟨M,m1,m2⟩:=Fs s t p
  refine⟨L+M,O4,fun g hg=>?_⟩
  rw [List.map_cons]at hg
  rcases List.mem_cons.1 hg with rfl | hg
  ·exact Zn5 O4 m2
  ·exact Zn5 O4 (l2 g hg)
theorem Zdh{s t δ:Rat}{f:Nat}{a b:List Int}(ha:Tr a)(hb:Tr b)(hc:cok f a b)(hst:s≤t)(hd:0<δ)(hB:∀x,s≤x→x≤t→Big δ x (Zb a)) :
  Av ((Ng f a b).map Zb) s=Av ((Ng f a b).map Zb) t:=by
 obtain⟨r,h1,h2,_,_⟩:=Zjg (s:=s) (t:=t) f a b ha hb hc
 obtain⟨L,l1,l2⟩:=Zsv s t (Ng f a b)
 rw [h1]at l2 ⊢
 exact Zuj l1 l2 hd hB h2 hst
theorem Zr4{K x:Rat}(hK:0≤K)(hx:1<x):∀p:List Int,(∀c∈p,-K≤(c:Rat)∧(c:Rat)≤K)→-(K*(x^p.length-1))≤(x-1)*Zb p x∧(x-1)*Zb p x≤K*(x^p.length-1)
 | [],_=>by simp only [List.length_nil];show _≤(x-1)*0∧(x-1)*0≤_;constructor<;>grind
 | c :: p,h=>by
  obtain⟨a,b⟩:=Zr4 hK hx p fun d hd=>h d (List.mem_cons_of_mem _ hd)
  obtain⟨c1,c2⟩:=h c (List.mem_cons_self ..)
  have e1:=Rat.mul_nonneg (a:=x-1) (b:=K-c) O4 O4
  have e2:=Rat.mul_nonneg (a:=x-1) (b:=K+c) O4 O4
  have e3:=Rat.mul_nonneg (a:=x) (b:=K*(x^p.length-1)-(x-1)*Zb p x) O4 O4
  have e4:=Rat.mul_nonneg (a:=x) (b:=K*(x^p.length-1)+(x-1)*Zb p x) O4 O4
  rw [List.length_cons,Rat.pow_succ]
  unfold Zb
  clear h a b
  generalize x^p.length=P at *
  generalize Zb p x=R at *
  generalize (c:Rat)=C at *
  constructor<;>grind
theorem Znj(x:Rat)(l:Int):∀p:List Int,Zb (p ++ [l]) x=Zb p x+(l:Rat)*x^p.length
 | []=>by show(l:Rat)+x*0=0+l*x^0;rw [Rat.pow_zero];grind
 | c :: p=>by
  have h:=Znj x l p
  rw [List.cons_append,List.length_cons,Rat.pow_succ]
  unfold Zb;rw [h];grind
theorem Zsb{x:Rat}(hx:1≤x):∀n:Nat,1≤x^n
 | 0=>by rw [Rat.pow_zero];decide
 | n+1=>by
  have h:=Zsb hx n
  rw [Rat.pow_succ]
  have:=Rat.mul_nonneg (a:=x^n-1) (b:=x-1) O4 O4
  grind
theorem Zxs{K x:Rat}{l:Int}{p:List Int}(hK:0≤K)(hx:1<x)(h:∀c∈p,-K≤(c:Rat)∧(c:Rat)≤K)(hl:K+1≤(x-1)*(l:Rat)):1≤(x-1)*Zb (p ++ [l]) x:=by
 obtain⟨a,b⟩:=Zr4 hK hx p h
 have h1:=Zsb (show 1≤x by grind) p.length
 rw [Znj]
 clear h b
 generalize x^p.length=P at *
 generalize Zb p x=R at *
 generalize (l:Rat)=C at *
 have:=Rat.mul_nonneg (a:=(x-1)*C-K-1) (b:=P) O4 O4
 grind
def alt:List Int→List Int
 | []=>[]
 | c :: p=>c :: (alt p).map fun a=>-1*a
theorem Zm4:∀(l:List Int) (m:Nat),m≤l.foldl (fun m c=>max m c.natAbs) m∧∀c∈l,c.natAbs≤l.foldl (fun m c=>max m c.natAbs) m
 | [],m=>⟨Nat.le_refl _,fun c hc=>by cases hc⟩
 | a :: l,m=>by
  obtain⟨h1,h2⟩:=Zm4 l (max m a.natAbs)
  refine⟨Nat.le_trans (Nat.le_max_left _ _) h1,fun c hc=>?_⟩
  rcases List.mem_cons.1 hc with rfl | hc
  ·exact Nat.le_trans (Nat.le_max_right _ _) h1
  ·exact h2 c hc
theorem Zpr{xs:List Int}(h:xs≠[]):xs=xs.take (xs.length-1) ++ [cf xs (xs.length-1)]:=by
 have hl:=List.length_pos_iff.2 h
 have:=Pm 0 xs (xs.length-1) O
 rw [show xs.length-1+1=xs.length by omega,List.take_length]at this
 exact this
theorem beyond{xs:List Int}(h0:xs≠[])(hl:0<cf xs (xs.length-1)){x:Rat}(hx:((Bq xs:Int):Rat)≤x):1<x∧1≤(x-1)*Zb xs x:=by
 have hk:∀c∈xs.take (xs.length-1),c.natAbs≤Ci xs:=(Zm4 _ 0).2
 have hb:((Ci xs:Nat):Int)+1≤(Bq xs-1)*cf xs (xs.length-1):=by
  unfold Bq
  have h1:((cf xs (xs.length-1)).natAbs:Int)=cf xs (xs.length-1):=O
  generalize cf xs (xs.length-1)=l at *
  obtain⟨n,rfl⟩:=Int.eq_ofNat_of_zero_le (Int.le_of_lt hl)
  have h2:(Int.natAbs (n:Int))=n:=O
  rw [h2]
  have h3:=Nat.lt_mul_div_succ (Ci xs) (show 0<n by omega)
  have h4:((Ci xs/n:Nat):Int)+2-1=((Ci xs/n+1:Nat):Int):=O
  rw [h4,←Int.natCast_mul,Nat.mul_comm]
  omega
 have hb1:2≤Bq xs:=by
  unfold Bq
  generalize Ci xs/(cf xs (xs.length-1)).natAbs=q
  omega
 have hb2:(2:Rat)≤((Bq xs:Int):Rat):=by exact_mod_cast hb1
 have hl':(0:Rat)<((cf xs (xs.length-1):Int):Rat):=by exact_mod_cast hl
 have hb3:((Ci xs:Nat):Rat)+1≤(((Bq xs:Int):Rat)-1)*((cf xs (xs.length-1):Int):Rat):=by exact_mod_cast hb
 have hb4:((Ci xs:Nat):Rat)+1≤(x-1)*((cf xs (xs.length-1):Int):Rat):=by
  have:=Rat.mul_nonneg (a:=x-((Bq xs:Int):Rat)) (b:=((cf xs (xs.length-1):Int):Rat)) O4 O4
  grind
 refine⟨O4,?_⟩
 rw [Zpr h0]
 refine Zxs (K:=((Ci xs:Nat):Rat)) (by exact_mod_cast Nat.zero_le _) O4 (fun c hc=>?_) hb4
 have h5:=hk c hc
 constructor
 ·have:-c≤((Ci xs:Nat):Int):=O
  have h6:-(c:Rat)≤((Ci xs:Nat):Rat):=by exact_mod_cast this
  grind
 ·have:c≤((Ci xs:Nat):Int):=O
  exact_mod_cast this
theorem Zyf(c:Int)(p:List Int)(X Y:Int)(h:p≠[]):pev (c :: p) X Y=c*Y^p.length+X*pev p X Y:=by
 have hl:=List.length_pos_iff.2 h
 unfold pev
 rw [List.length_cons,Kd,←Om]
 congr 1
 ·show c*(X^0*Y^(p.length+1-1-0))=_
  rw [Int.pow_zero,Int.one_mul,show p.length+1-1-0=p.length by omega]
 ·refine Yc fun i hi=>?_
  show cf p i*(X^(i+1)*Y^(p.length+1-1-(i+1)))=X*(cf p i*(X^i*Y^(p.length-1-i)))
  rw [show p.length+1-1-(i+1)=p.length-1-i by omega,Int.pow_succ]
  grind
theorem Zsf{X Y:Int}(hY:0<Y):∀p:List Int,((pev p X Y:Int):Rat)=Zb p ((X:Rat)/(Y:Rat))*(Y:Rat)^(p.length-1)
 | []=>by show(0:Rat)=0*_;grind
 | [c]=>by
  have:pev [c] X Y=c:=by unfold pev;show 0+c*(X^0*Y^0)=c;rw [Int.pow_zero,Int.pow_zero];omega
  rw [this];show(c:Rat)=(c+X/Y*0)*(Y:Rat)^0;rw [Rat.pow_zero];grind
 | c :: d :: p=>by
  have h:=Zsf (X:=X) hY (d :: p)
  rw [Zyf c (d :: p) X Y O5]
  have hy:(Y:Rat)≠0:=by
    have:(0:Rat)<(Y:Rat):=by exact_mod_cast hY
    grind
  push_cast
  rw [h]
  show(c:Rat)*(Y:Rat)^(p.length+1)+X*(Zb (d :: p) (X/Y)*(Y:Rat)^(p.length+1-1))=((c:Rat)+X/Y*Zb (d :: p) (X/Y))*(Y:Rat)^(p.length+1+1-1)
  rw [show p.length+1-1=p.length by omega,show p.length+1+1-1=p.length+1 by omega,Rat.pow_succ]
  generalize Zb (d :: p) (X/Y)=R
  generalize (Y:Rat)^p.length=P
  have:(X:Rat)/Y*Y=X:=O4
  grind
theorem Zw8{z:Int}{r q:Rat}(hq:0<q)(h:(z:Rat)=r*q):z.sign=Gd r:=by
 rcases(show r<0∨r=0∨0<r by grind)with h1 | h1 | h1
 ·rw [Dk h1]
  have:=Rat.mul_pos (a:=-r) (b:=q) O4 hq
  have h2:(z:Rat)<0:=O4
  have h3:z<0:=by exact_mod_cast h2
  exact Int.sign_eq_neg_one_of_neg h3
 ·subst h1
  have h2:(z:Rat)=0:=O4
  have h3:z=0:=by exact_mod_cast h2
  subst h3;rfl
 ·rw [Dj h1]
  have:=Rat.mul_pos h1 hq
  have h2:(0:Rat)<z:=O4
  have h3:0<z:=by exact_mod_cast h2
  exact Int.sign_eq_one_of_pos h3
theorem Zlp{X Y:Int}(hY:0<Y)(p:List Int):fat X Y p=Gd (Zb p ((X:Rat)/(Y:Rat))):=by
 have:(0:Rat)<(Y:Rat):=by exact_mod_cast hY
 exact Zw8 (Rat.pow_pos this) (Zsf hY p)
theorem Yb9{xs:List Int}{F:Nat}(hx:Tr xs)(h0:xs≠[])(hok:eok F (gA (Xb xs) (Yh (Xb xs))) (gB (Xb xs) (Yh (Xb xs)))):∃g:List Int,∀x,Zb xs x=Zb (sqf F xs) x*Zb g x:=by
 obtain⟨f1,f2,f3,f4,f5,f6⟩:=Oi (F:=F) hx h0 hok
 have hk:∃k:Int,∀i,cf xs i=k*cf (Xb xs) i:=by
  unfold Xb Kk
  split
  ·refine⟨-Yk xs,fun i=>?_⟩
   rw [Xq,←Hh xs i];grind
  ·refine⟨Yk xs,fun i=>?_⟩
   rw [←Hh xs i];grind
 obtain⟨k,hk⟩:=hk
 refine⟨(Na F (Xb xs) (Yh (Xb xs))).map fun a=>k*a,fun x=>?_⟩
 have h1:Zb (Xb xs) x=Zb (sqf F xs) x*Zb (Na F (Xb xs) (Yh (Xb xs))) x:=by
  have:=Gv (a:=1) (c:=0) (x:=Xb xs) (s:=sqf F xs) (y:=Na F (Xb xs) (Yh (Xb xs))) (z:=[]) (fun t=>by
   have h2:=Ly (sqf F xs) (Na F (Xb xs) (Yh (Xb xs))) t
   rw [←f4]at h2
   rw [h2];omega) x
  push_cast at this
  grind
 have h2:Zb xs x=Zb ((Xb xs).map fun a=>k*a) x:=Nx x _ _ fun i=>by rw [Xw];exact hk i
 rw [h2,Zf,Zf,h1];grind
theorem Ybg{ls:List (List Int)}{x:Rat}{f:List Int→Int}(h:∀p∈ls,Gd (Zb p x)=f p):Av (ls.map Zb) x=chg (ls.map f):=by
 unfold Av
 rw [List.map_map]
 exact congrArg chg (List.map_congr_left fun p hp=>h p hp)
theorem Ydv{F:Nat}{xs:List Int}{X Y:Int}(hY:0<Y):cnt F xs X Y=Av ((Aw F xs).map Zb) ((X:Rat)/(Y:Rat)):=
 (Ybg fun p _=>(Zlp hY p).symm).symm
theorem Zs6(t:Int):∀p:List Int,Zb p (t:Rat)=((Dh p t:Int):Rat)
 | []=>rfl
 | c :: p=>by
  have h:=Zs6 t p
  rw [show Zb (c :: p) (t:Rat)=(c:Rat)+(t:Rat)*Zb p (t:Rat)from rfl,show Dh (c :: p) t=c+t*Dh p t from rfl,h];push_cast;rfl
theorem Zr3{p:List Int}(h:∀x:Rat,Zb p x=0)(i:Nat):cf p i=0:=by
 by_cases h0:cf p i=0
 ·exact h0
 ·exfalso
  have:=Zg5 p.length p ((List.range p.length).map fun n:Nat=>(n:Int)) rfl ⟨i,h0⟩ (by
   refine List.Pairwise.map _ (fun a b hab=>?_) List.nodup_range
   intro e;exact hab (by exact_mod_cast e)) (fun t ht=>by
   have h1:=Zs6 t p
   rw [h]at h1
   exact_mod_cast h1.symm)
  simp at this
theorem Nw{p q:List Int}(h:∀x:Rat,Zb p x=Zb q x)(i:Nat):cf p i=cf q i:=by
 have h1:=Zr3 (p:=Nu p (q.map fun a=>(-1)*a)) (fun x=>by rw [Yz,Zf,h x];push_cast;grind) i
 rw [Li,Xw]at h1;omega
theorem Ni(p:List Int)(x:Rat):Zb (tzl p) x=Zb p x:=Nx x _ _ fun i=>Ko p i
theorem Yg(p q:List Int)(x:Rat):Zb (Xl p q) x=Zb p x*Zb q x:=by
 rw [←Zn];exact Nx x _ _ fun i=>by rw [Ly,Ga,PS.mul_c];rfl
theorem Qw(c:Int)(x:Rat):Zb [c] x=(c:Rat):=by show(c:Rat)+x*0=c;grind
def ld:List Int→List Int
 | []=>[]
 | _ :: p=>Nu p (0 :: ld p)
theorem Zdk(c:Int)(p:List Int)(x:Rat):Zb (ld (c :: p)) x=Zb p x+x*Zb (ld p) x:=by
 rw [show ld (c :: p)=Nu p (0 :: ld p)from rfl,Yz];show Zb p x+(((0:Int):Rat)+x*Zb (ld p) x)=_;push_cast;grind
theorem Zd7:∀(p:List Int) (i:Nat),cf (ld p) i=cf p (i+1)*((i:Int)+1)
 | [],i=>by rw [Za5,show ld []=[]from rfl,Za5,Int.zero_mul]
 | c :: p,0=>by
  rw [show ld (c :: p)=Nu p (0 :: ld p)from rfl,Li];show cf p 0+0=cf p 0*_;simp
 | c :: p,i+1=>by
  have h:=Zd7 p i
  rw [show ld (c :: p)=Nu p (0 :: ld p)from rfl,Li];show cf p (i+1)+cf (ld p) i=cf p (i+1)*_
  rw [h];push_cast;grind
theorem Mr(p:List Int)(x:Rat):Zb (Yh p) x=Zb (ld p) x:=Nx x _ _ fun i=>by rw [Bg,Zd7]
theorem Fd{p q:List Int}(h:∀x,Zb p x=Zb q x)(x:Rat):Zb (ld p) x=Zb (ld q) x:=Nx x _ _ fun i=>by rw [Zd7,Zd7,Nw h]
theorem Yce(p q:List Int)(x:Rat):Zb (ld (Nu p q)) x=Zb (ld p) x+Zb (ld q) x:=by
 rw [←Yz];exact Nx x _ _ fun i=>by rw [Zd7,Li,Li,Zd7,Zd7];grind
theorem Dm(c:Int)(p:List Int)(x:Rat):Zb (ld (p.map fun a=>c*a)) x=(c:Rat)*Zb (ld p) x:=by
 rw [←Zf];exact Nx x _ _ fun i=>by rw [Zd7,Xw,Xw,Zd7];grind
theorem Fv(x:Rat):∀p q:List Int,Zb (ld (Qc p q)) x=Zb (ld p) x*Zb q x+Zb p x*Zb (ld q) x
 | [],q=>by show(0:Rat)=0*Zb q x+0*Zb (ld q) x;grind
 | c :: p,q=>by
  have h:=Fv x p q
  rw [show Qc (c :: p) q=Nu (q.map fun a=>c*a) (0 :: Qc p q)from rfl,Yce,Dm,Zdk,Zdk,h,Zn,show Zb (c :: p) x=(c:Rat)+x*Zb p x from rfl]
  grind
def Ed(g a:List Int):Prop:=∃(k:Int) (s:List Int),k≠0∧∀x:Rat,(k:Rat)*Zb a x=Zb s x*Zb g x
theorem Ed.refl(a:List Int):Ed a a:=⟨1,[1],O3,fun x=>by rw [Qw]⟩
theorem Ed.nil(g:List Int):Ed g []:=⟨1,[],O3,fun x=>by show(((1:Int)):Rat)*0=0*Zb g x;grind⟩
theorem Ed.trans{a b c:List Int} : Ed a b→Ed b c→Ed a c:=fun⟨k,s,hk,h⟩ ⟨m,u,hm,e⟩=>
 ⟨k*m,Qc u s,Int.mul_ne_zero hk hm,fun x=>by
  have h1:=h x
  have h2:=e x
  rw [Zn];push_cast
  have:(k:Rat)*m*Zb c x=k*(m*Zb c x):=O4
  rw [this,h2];grind⟩
theorem Ed.congr{g a b:List Int}(h:Ed g a)(e:∀x,Zb a x=Zb b x):Ed g b:=by
 obtain⟨k,s,hk,h⟩:=h
 exact⟨k,s,hk,fun x=>by rw [←e x];exact h x⟩
theorem Ed.congr_l{g g' a:List Int}(h:Ed g a)(e:∀x,Zb g x=Zb g' x):Ed g' a:=by
 obtain⟨k,s,hk,h⟩:=h
 exact⟨k,s,hk,fun x=>by rw [←e x];exact h x⟩
theorem Ed.sim{g a b:List Int}(h:Ed g a)(e:Sim a b):Ed g b:=by
 obtain⟨k,s,hk,h⟩:=h
 obtain⟨m,n,hm,hn,e⟩:=e
 refine⟨k*n,s.map fun c=>m*c,Int.mul_ne_zero hk hn,fun x=>?_⟩
 have h1:Zb (a.map fun c=>m*c) x=Zb (b.map fun c=>n*c) x:=Nx x _ _ fun i=>by rw [Xw,Xw,e]
 rw [Zf,Zf]at h1
 rw [Zf]
 have:=h x
 push_cast
 have e2:(k:Rat)*n*Zb b x=k*(n*Zb b x):=O4
 rw [e2,←h1];grind
theorem Ed.lin{g a b c:List Int}(ha:Ed g a)(hb:Ed g b)(s:List Int)(L:Int)(hL:L≠0)(h:∀x,(L:Rat)*Zb c x=Zb s x*Zb a x+Zb b x):Ed g c:=by
 obtain⟨k,u,hk,h1⟩:=ha
 obtain⟨m,v,hm,h2⟩:=hb
 refine⟨L*(k*m),Nu ((Qc s u).map fun c=>m*c) (v.map fun c=>k*c),Int.mul_ne_zero hL (Int.mul_ne_zero hk hm),fun x=>?_⟩
 have h1:=h1 x
 have h2:=h2 x
 have h:=h x
 rw [Yz,Zf,Zf,Zn]
 push_cast
 have e:(L:Rat)*(k*m)*Zb c x=k*m*(L*Zb c x):=O4
 rw [e,h]
 have e2:(k:Rat)*m*(Zb s x*Zb a x+Zb b x)=m*Zb s x*(k*Zb a x)+k*(m*Zb b x):=O4
 rw [e2,h1,h2];grind
theorem Zqs{g a s:List Int}{k:Int}(hk:k≠0)(hg:Tr g)(ha:Tr a)(h0:a≠[])(h:∀x:Rat,(k:Rat)*Zb a x=Zb s x*Zb g x):g≠[]∧tzl s≠[]∧(tzl s).length+g.length≤a.length+1:=by
 have hc:∀i,k*cf a i=(ps (tzl s)*ps g).c i:=fun i=>by
  have h1:=Nw (p:=a.map fun c=>k*c) (q:=Qc (tzl s) g) (fun x=>by rw [Zf,Zn,Ni];exact h x) i
  rw [Xw,Ga]at h1
  rw [h1,PS.mul_c];rfl
 have hz:∀i,k*cf a i=0→cf a i=0:=fun i hi=>(Int.mul_eq_zero.1 hi).resolve_left hk
 have hla:=ha.mem h0
 have h1:tzl s≠[]:=fun e=>hla (hz _ (by rw [hc,e,Mi (fun t=>Yd (Nat.zero_le _))]))
 have h2:g≠[]:=fun e=>hla (hz _ (by rw [hc,e,PS.mul_comm',Mi (fun t=>Yd (Nat.zero_le _))]))
 refine⟨h2,h1,?_⟩
 have l1:=List.length_pos_iff.2 h1
 have l2:=List.length_pos_iff.2 h2
 have ht:=Db (p:=tzl s) (q:=g) (a:=(tzl s).length-1) (b:=g.length-1) (fun i hi=>Yd O) (fun i hi=>Yd O)
 rw [←hc]at ht
 have hne:=Int.mul_ne_zero ((Qo s).mem h1) (hg.mem h2)
 rcases Nat.lt_or_ge ((tzl s).length-1+(g.length-1)) a.length with h9 | h9
 ·omega
 ·rw [Yd h9,Int.mul_zero]at ht;exact absurd ht.symm hne
theorem Ed.len{g a:List Int}(h:Ed g a)(hg:Tr g)(ha:Tr a)(h0:a≠[]):g≠[]∧g.length≤a.length:=by
 obtain⟨k,s,hk,h⟩:=h
 obtain⟨a1,a2,a3⟩:=Zqs hk hg ha h0 h
 have:=List.length_pos_iff.2 a2
 exact⟨a1,O⟩
theorem Ed.same{g a:List Int}(h:Ed g a)(hg:Tr g)(ha:Tr a)(h0:a≠[])(hl:g.length=a.length):Ed a g:=by
 obtain⟨k,s,hk,h⟩:=h
 obtain⟨a1,a2,a3⟩:=Zqs hk hg ha h0 h
 have hl1:=List.length_pos_iff.2 a2
 match hs:tzl s,hl1,a3 with
 | [c],_,_=>
  have hc:c≠0:=by have:=(Qo s).mem a2;rw [hs]at this;exact this
  refine⟨c,[k],hc,fun x=>?_⟩
  have h1:=h x
  rw [←Ni s,hs,Qw]at h1
  rw [Qw];exact h1.symm
 | c :: d :: r,_,h9=>simp at h9;omega
theorem Zii:∀(n:Nat) (a b:List Int),Tr a→Tr b→b.length≤n→∃g A B:List Int,Tr g∧Ed g a∧Ed g b∧∀x,Zb g x=Zb A x*Zb a x+Zb B x*Zb b x
 | n,a,[],ha,hb,_=>⟨a,[1],[],ha,Ed.refl a,Ed.nil a,fun x=>by rw [Qw];show _=_+0*(0:Rat);push_cast;grind⟩
 | 0,a,c :: r,_,_,hl=>absurd hl O5
 | n+1,a,c :: b',ha,hb,hl=>by
  have h0:(c :: b')≠[]:=O5
  generalize c :: b'=b at *
  obtain⟨k,s,hs⟩:=Cp a h0
  have hL:=Mj (hb.mem h0) k
  generalize cf b (b.length-1)^k=L at hs hL
  have hlt:=Qs a h0
  obtain⟨g,A,B,g1,g2,g3,g4⟩:=Zii n b (Xx a b) hb (Ll ha) O
  have he:∀x,(L:Rat)*Zb a x=Zb s x*Zb b x+Zb (Xx a b) x:=fun x=>by
   have:=Gv (a:=L) (c:=-1) (x:=a) (s:=s) (y:=b) (z:=Xx a b) (fun t=>by rw [hs t];omega) x
   push_cast at this;grind
  refine⟨g,B.map fun c=>L*c,Nu A ((Qc B s).map fun c=>(-1)*c),g1,g2.lin g3 s L hL he,g2,fun x=>?_⟩
  rw [Zf,Yz,Zf,Zn,g4 x]
  have:=he x
  have e:Zb (Xx a b) x=L*Zb a x-Zb s x*Zb b x:=O4
  rw [e];push_cast;grind
def Irr(q:List Int):Prop:=Tr q∧2≤q.length∧∀d,Tr d→Ed d q→d.length≤1∨d.length=q.length
theorem Zbr{q:List Int}(h:2≤q.length):q≠[]:=fun e=>by rw [e]at h;simp at h
theorem Zzk:∀(n:Nat) (q:List Int),q.length≤n→Tr q→2≤q.length→∃p,Irr p∧Ed p q
 | 0,q,hl,_,h2=>O
 | n+1,q,hl,ht,h2=>by
  by_cases h:Irr q
  ·exact⟨q,h,Ed.refl q⟩
  ·have:∃d,Tr d∧Ed d q∧¬(d.length≤1∨d.length=q.length):=by
    refine Classical.byContradiction fun h9=>h ⟨ht,h2,fun d hd he=>Classical.byContradiction fun h8=>h9 ⟨d,hd,he,h8⟩⟩
   obtain⟨d,hd,he,hn⟩:=this
   have hle:=(he.len hd ht (Zbr h2)).2
   obtain⟨p,hp,hp2⟩:=Zzk n d O hd O
   exact⟨p,hp,hp2.trans he⟩
theorem Cz{q f h m:List Int}{k:Int}(hq:Irr q)(hk:k≠0)(e:∀x:Rat,(k:Rat)*(Zb f x*Zb h x)=Zb m x*Zb q x):Ed q f∨Ed q h:=by
 obtain⟨hq1,hq2,hq3⟩:=hq
 obtain⟨g,A,B,g1,g2,g3,g4⟩:=Zii _ q (tzl f) hq1 (Qo f) (Nat.le_refl _)
 have hg:=(g2.len g1 hq1 (Zbr hq2)).1
 rcases hq3 g g1 g2 with h1 | h1
 ·right
  match g,hg,h1,g1,g4 with
  | [c],_,_,g1,g4=>
   have hc:c≠0:=g1.mem O5
   refine⟨c*k,Nu ((Qc A h).map fun c=>k*c) (Qc B m),Int.mul_ne_zero hc hk,fun x=>?_⟩
   have h4:=g4 x
   have h5:=e x
   rw [Qw,Ni]at h4
   rw [Yz,Zf,Zn,Zn]
   push_cast
   rw [h4]
   have:(Zb A x*Zb q x+Zb B x*Zb f x)*k*Zb h x=k*Zb A x*Zb q x*Zb h x+Zb B x*(k*(Zb f x*Zb h x)):=O4
   rw [this,h5];grind
  | c :: d :: r,_,h9,_,_=>simp at h9
 ·left
  have h2:=g2.same g1 hq1 (Zbr hq2) h1
  exact(h2.trans g3).congr fun x=>Ni f x
def Iv(q:List Int):Nat→List Int
 | 0=>[1]
 | n+1=>Xl q (Iv q n)
theorem Cq{q:List Int}(hq:Tr q)(h2:2≤q.length):∀n,Tr (Iv q n)∧n+1≤(Iv q n).length
 | 0=>⟨.inr (show cf [1] 0≠0 by decide),Nat.le_refl _⟩
 | n+1=>by
  obtain⟨h1,h3⟩:=Cq hq h2 n
  refine⟨Xz _ _,?_⟩
  show n+1+1≤(Xl q (Iv q n)).length
  rw [Po hq h1 (Zbr h2) (fun e=>by rw [e]at h3;simp at h3)]
  omega
theorem Hq(q:List Int)(n:Nat)(x:Rat):Zb (Iv q (n+1)) x=Zb q x*Zb (Iv q n) x:=Yg _ _ _
theorem Zkq(q:List Int):∀(n:Nat) (x:Rat),Zb (ld (Iv q (n+1))) x=((n:Rat)+1)*(Zb (Iv q n) x*Zb (ld q) x)
 | n,x=>by
  have h1:Zb (ld (Iv q (n+1))) x=Zb (ld (Qc q (Iv q n))) x:=Fd (fun y=>by rw [Hq,Zn]) x
  rw [h1,Fv]
  match n with
  | 0=>
   rw [show Zb (ld (Iv q 0)) x=0 from by rw [show Iv q 0=[1]from rfl,Zdk];show(0:Rat)+x*0=0;grind]
   simp;grind
  | n+1=>
   rw [Zkq q n x,Hq];push_cast;grind
theorem Zw2{p s g q u:List Int}{c:Int}{k:Nat}(hps:∀x:Rat,Zb p x=Zb s x*Zb g x)(hgr:∀d,Tr d→Ed d p→Ed d (ld p)→Ed d g)(hq:Irr q)(h1:Ed q s)(h2:Ed q (ld s))(hk:Ed (Iv q k) g):Ed (Iv q (k+1)) g:=by
 obtain⟨hq1,hq2,hq3⟩:=hq
 obtain⟨c1,s1,k1,e1⟩:=h1
 obtain⟨c2,s2,k2,e2⟩:=h2
 have d1:∀x:Rat,(c1:Rat)*Zb (ld s) x=Zb (ld s1) x*Zb q x+Zb s1 x*Zb (ld q) x:=fun x=>by
  have:=Fd (p:=s.map fun a=>c1*a) (q:=Qc s1 q) (fun y=>by rw [Zf,Zn];exact e1 y) x
  rwa [Dm,Fv]at this
 have h3:Ed q s1:=by
  rcases Cz (f:=s1) (h:=ld q) (m:=Nu (s2.map fun a=>c1*a) ((ld s1).map fun a=>(-c2)*a)) ⟨hq1,hq2,hq3⟩ k2 (fun x=>by
   have a1:=d1 x
   have a2:=e2 x
   rw [Yz,Zf,Zf];push_cast
   have:(c2:Rat)*(Zb s1 x*Zb (ld q) x)=c1*(c2*Zb (ld s) x)-c2*(Zb (ld s1) x*Zb q x):=O4
   rw [this,a2];grind)with h9 | h9
  ·exact h9
  ·exfalso
   have h8:Ed q (Yh q):=h9.congr fun x=>(Mr q x).symm
   have hl:=Oa q
   have:=(h8.len hq1 (Oh hq1) (fun e=>by rw [e]at hl;simp at hl;omega)).2
   omega
 obtain⟨c3,s3,k3,e3⟩:=h3
 obtain⟨c,u,kc,eu⟩:=hk
 have hP:∀x:Rat,((c1*c3*c:Int):Rat)*Zb p x=Zb (Qc s3 u) x*Zb (Iv q (k+1+1)) x:=fun x=>by
  rw [hps x,Zn,Hq,Hq];push_cast
  have a1:=e1 x
  have a3:=e3 x
  have a4:=eu x
  have:(c1:Rat)*c3*c*(Zb s x*Zb g x)=c3*(c1*Zb s x)*(c*Zb g x):=O4
  rw [this,a1,a4]
  have:(c3:Rat)*(Zb s1 x*Zb q x)*(Zb u x*Zb (Iv q k) x)=(c3*Zb s1 x)*Zb q x*(Zb u x*Zb (Iv q k) x):=O4
  rw [this,a3];grind
 have hC:c1*c3*c≠0:=Int.mul_ne_zero (Int.mul_ne_zero k1 k3) kc
 generalize c1*c3*c=C at hP hC
 have hD:∀x:Rat,(C:Rat)*Zb (ld p) x=Zb (ld (Qc s3 u)) x*Zb (Iv q (k+1+1)) x+Zb (Qc s3 u) x*((((k+1:Nat):Rat)+1)*(Zb (Iv q (k+1)) x*Zb (ld q) x)):=fun x=>by
  have:=Fd (p:=p.map fun a=>C*a) (q:=Qc (Qc s3 u) (Iv q (k+1+1))) (fun y=>by rw [Zf,Zn];exact hP y) x
  rwa [Dm,Fv,Zkq]at this
 refine hgr _ (Cq hq1 hq2 _).1 ⟨C,Qc (Qc s3 u) q,hC,fun x=>?_⟩ ⟨C,Nu (Qc (ld (Qc s3 u)) q) ((Qc (Qc s3 u) (ld q)).map fun a=>((k+2:Nat):Int)*a),hC,fun x=>?_⟩
 ·rw [hP x,Zn _ (Qc s3 u),Hq q (k+1)];grind
 ·rw [hD x,Yz,Zf,Zn _ (ld (Qc s3 u)),Zn _ (Qc s3 u),Hq q (k+1)];push_cast;grind
theorem Zw4{p s g q:List Int}(hps:∀x:Rat,Zb p x=Zb s x*Zb g x)(hg:Tr g)(g0:g≠[])(hgr:∀d,Tr d→Ed d p→Ed d (ld p)→Ed d g)(hq:Tr q)(h1:Ed q s)(h2:Ed q (ld s)):q.length≤1:=by
 refine Classical.byContradiction fun h=>?_
 obtain⟨r,hr,hr2⟩:=Zzk _ q (Nat.le_refl _) hq O
 have key:∀k,Ed (Iv r k) g:=fun k=>by
  induction k with
  | zero=>exact⟨1,g,O3,fun x=>by rw [show Iv r 0=[1]from rfl,Qw];push_cast;grind⟩
  | succ k ih=>exact Zw2 (u:=[]) (c:=0) hps hgr hr (hr2.trans h1) (hr2.trans h2) ih
 obtain⟨a1,a2⟩:=Cq hr.1 hr.2.1 g.length
 have:=((key g.length).len a1 hg g0).2
 omega
theorem Ydi{d a b:List Int}(hb:Tr b)(h0:b≠[])(h1:Ed d a)(h2:Ed d b):Ed d (Xx a b):=by
  obtain⟨k,s,hs⟩:=Cp a h0
  have hL:=Mj (hb.mem h0) k
  generalize cf b (b.length-1)^k=L at hs hL
  have he:∀x,(L:Rat)*Zb a x=Zb s x*Zb b x+Zb (Xx a b) x:=fun x=>by
    have:=Gv (a:=L) (c:=-1) (x:=a) (s:=s) (y:=b) (z:=Xx a b) (fun t=>by rw [hs t];omega) x
    push_cast at this;grind
  have h3:Ed d (a.map fun c=>L*c):=by
    obtain⟨k,u,hk,e⟩:=h1
    exact⟨k,u.map fun c=>L*c,hk,fun x=>by rw [Zf,Zf];have:=e x;grind⟩
  exact h2.lin h3 (s.map fun c=>(-1)*c) 1 O3 fun x=>by
    rw [Zf,Zf];push_cast;have:=he x;grind
theorem Zom{d:List Int} : ∀(f:Nat) {a b:List Int},Tr a→Tr b→Ed d a→Ed d b→Ed d (eu f a b)
  | 0,a,b,_,_,h1,_=>h1
  | f+1,a,b,ha,hb,h1,h2=>by
    by_cases h0:b=[]
    · rw [h0,Ze1];exact h1
    · rw [show eu (f + 1) a b = eu f b (Zz (Xx a b)) by
          conv=>lhs;unfold eu
          rw [if_neg h0]]
      have t1:=Ll (q:=b) ha
      exact Zom f hb (Yy t1) h2 ((Ydi hb h0 h1 h2).sim (Qd t1).symm)
theorem Zhd{F:Nat}{d p q:List Int}(hp:Tr p)(hq:Tr q)(h1:Ed d p)(h2:Ed d q):Ed d (Na F p q):=by
  have a1:=h1.sim (Qd hp).symm
  have a2:=h2.sim (Qd hq).symm
  unfold Na
  refine Ed.sim ?_ (Lq _).symm
  refine Zom F (Zgr hp hq) (Zgq hp hq) ?_ ?_
  · unfold gA;split<;>assumption
  · unfold gB;split<;>assumption
theorem Zdd{xs:List Int}{F:Nat}(hx:Tr xs)(h0:xs≠[])(hok:eok F (gA (Xb xs) (Yh (Xb xs))) (gB (Xb xs) (Yh (Xb xs)))){q:List Int}(hq:Tr q)(h1:Ed q (sqf F xs))(h2:Ed q (Yh (sqf F xs))):q.length≤1:=by
  obtain⟨f1,f2,f3,f4,f5,f6⟩:=Oi (F:=F) hx h0 hok
  have hs:Tr (Xb xs):=Oy (Yy hx)
  have hd:Tr (Yh (Xb xs)):=Oh hs
  refine Zw4 (p:=Xb xs) (s:=sqf F xs) (g:=Na F (Xb xs) (Yh (Xb xs))) (fun x=>?_) (Zc8 hs hd) f5 (fun d _ a b=>?_) hq h1 (h2.congr fun x=>Mr _ x)
  · have:Zb (Xb xs) x=Zb (Xl (sqf F xs) (Na F (Xb xs) (Yh (Xb xs)))) x:=by rw [←f4]
    rw [this,Yg]
  · exact Zhd hs hd a (b.congr fun x=>(Mr _ x).symm)
theorem Be:∀(l:List Int) (n z:Int),(l.foldl Nd (n,z)).1=n+(l.foldl Nd (0,z)).1
 | [],n,z=>O5
 | x :: l,n,z=>by
  simp only [List.foldl_cons]
  by_cases h:x=0
  ·have e:∀n,Nd (n,z) x=(n,z):=fun n=>by unfold Nd;rw [if_pos h]
   rw [e,e];exact Be l n z
  ·by_cases h2:x=-z
   ·have e:∀n,Nd (n,z) x=(n+1,x):=fun n=>by unfold Nd;rw [if_neg h,if_pos (by dsimp only;exact h2)]
    rw [e,e,Be l (n+1) x,Be l (0+1) x];omega
   ·have e:∀n,Nd (n,z) x=(n,x):=fun n=>by unfold Nd;rw [if_neg h,if_neg (by dsimp only;exact h2)]
    rw [e,e];exact Be l n x
theorem Yd8{x y:Int}(l:List Int)(hy:y≠0):chg (x :: y :: l)=chg (y :: l)+(if x=-y then 1 else 0):=by
 unfold chg
 simp only [List.foldl_cons]
 have h1:Nd (0,0) y=(0,y):=by unfold Nd;rw [if_neg hy,if_neg O9]
 rw [h1]
 by_cases hx:x=0
 ·have h2:Nd (0,0) x=(0,0):=by unfold Nd;rw [if_pos hx]
  rw [h2,h1,if_neg O];omega
 ·have h2:Nd (0,0) x=(0,x):=by unfold Nd;rw [if_neg hx,if_neg O9]
  rw [h2]
  have h3:Nd (0,x) y=(if x=-y then 1 else 0,y):=by
   unfold Nd;rw [if_neg hy]
   by_cases h:x=-y
   ·rw [if_pos O9,if_pos h];rfl
   ·rw [if_neg O9,if_neg h]
  rw [h3,Be];omega
def crs(f:Rat→Rat)(u v:Rat):Int:=if f u≠0∧f u*f v≤0 then 1 else 0
theorem Zgc(s t:Rat):∀p:List Int,∃M:Rat,0<M∧∀x y,s≤x→x≤y→y≤t→
  -(M*(y-x)*(y-x))≤Zb p y-Zb p x-(y-x)*Zb (ld p) x∧Zb p y-Zb p x-(y-x)*Zb (ld p) x≤M*(y-x)*(y-x)
 | []=>⟨1,O3,fun x y h1 h2 h3=>by
   have:=Rat.mul_nonneg (a:=y-x) (b:=y-x) O4 O4
   show -(1*(y-x)*(y-x))≤(0:Rat)-0-(y-x)*0∧(0:Rat)-0-(y-x)*0≤1*(y-x)*(y-x)
   constructor<;>grind⟩
 | c :: p=>by
  obtain⟨M,m1,m2⟩:=Zgc s t p
  obtain⟨L,l1,l2⟩:=Fs s t p
  obtain⟨K,k1,k2⟩:=Ydg s t
  refine⟨L+K*M,by have:=Rat.mul_pos k1 m1;grind,fun x y hs hxy ht=>?_⟩
  obtain⟨a1,a2⟩:=m2 x y hs hxy ht
  obtain⟨b1,b2⟩:=l2 x y hs hxy ht
  obtain⟨e1,e2⟩:=k2 x hs O4
  have hd:0≤y-x:=O4
  obtain⟨f1,f2⟩:=Ao (q:=x) (Q:=K) (g:=Zb p y-Zb p x-(y-x)*Zb (ld p) x) (e:=M*(y-x)*(y-x)) e1 e2 a1 a2 O4
  have g1:=Rat.mul_nonneg (a:=y-x) (b:=L*(y-x)-(Zb p y-Zb p x)) hd O4
  have g2:=Rat.mul_nonneg (a:=y-x) (b:=L*(y-x)+(Zb p y-Zb p x)) hd O4
  rw [Zdk,show Zb (c :: p) y=(c:Rat)+y*Zb p y from rfl,show Zb (c :: p) x=(c:Rat)+x*Zb p x from rfl]
  constructor<;>grind
theorem Zts{a b:List Int}(ha:Tr a)(hb:Tr b)(h0:a≠[])(hc:∀q,Tr q→Ed q a→Ed q b→q.length≤1)(s t:Rat):∃ε:Rat,0<ε∧∀x,s≤x→x≤t→Big ε x (Zb a)∨Big ε x (Zb b):=by
 obtain⟨g,A,B,g1,g2,g3,g4⟩:=Zii _ a b ha hb (Nat.le_refl _)
 have hl:=hc g g1 g2 g3
 have hg:=(g2.len g1 ha h0).1
 match g,hg,hl,g1,g4 with
 | [c],_,_,g1,g4=>
  have hc0:c≠0:=g1.mem O5
  obtain⟨P,p1,p2⟩:=Znk s t A
  obtain⟨Q,q1,q2⟩:=Znk s t B
  obtain⟨ε,e1,e2,e3⟩:=Km (show(0:Rat)<1 by decide) (show 0<(P+Q)+(P+Q) by grind) (show(0:Rat)<1 by decide)
  refine⟨ε,e1,fun x hs ht=>?_⟩
  by_cases h1:Big ε x (Zb a)
  ·exact .inl h1
  ·by_cases h2:Big ε x (Zb b)
   ·exact .inr h2
   ·exfalso
    obtain⟨a1,a2⟩:=Zbq h1
    obtain⟨b1,b2⟩:=Zbq h2
    obtain⟨c1,c2⟩:=p2 x hs ht
    obtain⟨d1,d2⟩:=q2 x hs ht
    obtain⟨u1,u2⟩:=Ao c1 c2 a1 a2 O4
    obtain⟨v1,v2⟩:=Ao d1 d2 b1 b2 O4
    have h4:=g4 x
    rw [Qw]at h4
    have h5:(c:Rat)≤-1∨1≤(c:Rat):=by
     rcases Int.lt_or_gt_of_ne hc0 with h | h
     ·left;have:((c:Int):Rat)≤((-1:Int):Rat):=by exact_mod_cast (show c≤-1 by omega)
      rwa [show(((-1:Int)):Rat)=-1 from rfl]at this
     ·right;have:1≤c:=O
      exact_mod_cast this
    rcases h5 with h5 | h5<;>grind
 | c :: d :: r,_,h9,_,_=>simp at h9
theorem Big.near{ε x y:Rat}{f:Rat→Rat}(h:Big ε x f)(h1:f x-f y≤ε/2)(h2:f y-f x≤ε/2):Big (ε/2) y f:=by
 unfold Big at *;grind
theorem Zfl(x:Rat):Gd x=-1↔x<0:=by
 unfold Gd
 by_cases h:x<0
 ·rw [if_pos h];simp [h]
 ·rw [if_neg h]
  by_cases h2:x=0
  ·rw [if_pos h2];simp [h]
  ·rw [if_neg h2];simp [h]
theorem Zxn(x:Rat):Gd (-x)=- Gd x:=by
 unfold Gd
 by_cases h:x<0
 ·rw [if_pos h,if_neg O4,if_neg O4];rfl
 ·rw [if_neg h]
  by_cases h2:x=0
  ·rw [if_pos h2,if_neg O4,if_pos O4];rfl
  ·rw [if_neg h2,if_pos O4]
theorem Ziz{f g:Rat→Rat}(r:List (Rat→Rat)){x:Rat}(h:Gd (g x)≠0):Av (f :: g :: r) x=Av (g :: r) x+(if Gd (f x)=- Gd (g x)then 1 else 0):=by
 unfold Av
 simp only [List.map_cons]
 exact Yd8 _ h
def Tay(s t M:Rat)(p:List Int):Prop:=∀x y,s≤x→x≤y→y≤t→-(M*(y-x)*(y-x))≤Zb p y-Zb p x-(y-x)*Zb (ld p) x∧Zb p y-Zb p x-(y-x)*Zb (ld p) x≤M*(y-x)*(y-x)
theorem Zfg {s t:Rat} {f:Nat} {a b:List Int} (ha:Tr a) (hb:Tr b) (hok:cok f a b) {κ:Rat} (hκ:0<κ) (hder:∀x,Zb (ld a) x=κ*Zb b x)
  {ε L L' M h:Rat} (e1:0<ε) (e2:∀x,s≤x→x≤t→Big ε x (Zb a)∨Big ε x (Zb b)) (l1:0≤L) (l2:Lip s t L (Zb a)) (l1':0≤L') (l2':Lip s t L' (Zb b)) (m1:0≤M) (m2:Tay s t M a)
  (h5:0<h) (h3:h*(L+L')≤ε/2) (h7:h*M≤κ*ε/2) {u v:Rat} (hs:s≤u) (huv:u≤v) (ht:v≤t) (hh:v-u≤h) :
  Av ((Ng f a b).map Zb) u-Av ((Ng f a b).map Zb) v=crs (Zb a) u v:=by
 have hL:∀w,u≤w→w≤v→L*(w-u)≤ε/2∧L'*(w-u)≤ε/2:=fun w q1 q2=>by
  have p1:=Rat.mul_nonneg (a:=L) (b:=h-(w-u)) O4 O4
  have p2:=Rat.mul_nonneg (a:=L') (b:=h-(w-u)) O4 O4
  have p3:=Rat.mul_nonneg (a:=L) (b:=h) O4 O4
  have p4:=Rat.mul_nonneg (a:=L') (b:=h) O4 O4
  constructor<;>grind
 by_cases hba:Big ε u (Zb a)
 ·have hB:∀w,u≤w→w≤v→Big (ε/2) w (Zb a):=fun w q1 q2=>by
   obtain⟨x1,x2⟩:=l2 u w hs q1 O4
   have:=hL w q1 q2
   exact hba.near O4 O4
  rw [Zdh ha hb hok huv (show 0<ε/2 by grind) hB]
  have hv:=hB v huv O4
  have:crs (Zb a) u v=0:=by
   unfold crs
   refine if_neg fun⟨_,h9⟩=>?_
   obtain⟨x1,x2⟩:=l2 u v hs huv ht
   have hLv:=hL v huv O4
   unfold Big at hba hv
   rcases hba with hp | hp
   ·have:0<Zb a v:=O4
    have:=Rat.mul_pos (show 0<Zb a u by grind) this
    grind
   ·have:0 < - Zb a v:=O4
    have:=Rat.mul_pos (show 0 < - Zb a u by grind) this
    grind
  omega
 ·have hbb:Big ε u (Zb b):=(e2 u hs O4).resolve_left hba
  have hB:∀w,u≤w→w≤v→Big (ε/2) w (Zb b):=fun w q1 q2=>by
   obtain⟨x1,x2⟩:=l2' u w hs q1 O4
   have:=hL w q1 q2
   exact hbb.near O4 O4
  have hb0:b≠[]:=fun e=>by
   rw [e]at hbb;unfold Big at hbb
   have:Zb [] u=0:=rfl
   rw [this]at hbb;grind
  obtain⟨g,hg,hd,hle,hcg,hsc⟩:=Zib hok hb0
  have hT:=Zdh hb (Zad ha) hcg huv (show 0<ε/2 by grind) hB
  obtain⟨r,hr,_,_,_⟩:=Zjg (s:=u) (t:=v) g b (Oj a b) hb (Zad ha) hcg
  rw [hsc,hr]
  rw [hr]at hT
  simp only [List.map_cons]at hT ⊢
  have hsg:∃σ:Rat,(σ=1∨σ=-1)∧ε<σ*Zb b u∧∀w,u≤w→w≤v→0<σ*Zb b w:=by
   unfold Big at hbb
   rcases hbb with hp | hp
   ·refine⟨1,.inl rfl,O4,fun w q1 q2=>?_⟩
    obtain⟨x1,x2⟩:=l2' u w hs q1 O4
    have:=hL w q1 q2
    grind
   ·refine⟨-1,.inr rfl,O4,fun w q1 q2=>?_⟩
    obtain⟨x1,x2⟩:=l2' u w hs q1 O4
    have:=hL w q1 q2
    grind
  obtain⟨σ,hσ,hbu,hbw⟩:=hsg
  have hmono:u<v→σ*Zb a u<σ*Zb a v:=fun hlt=>by
   obtain⟨y1,y2⟩:=m2 u v hs huv ht
   rw [hder u]at y1 y2
   have hd:0<v-u:=O4
   have z1:M*(v-u)≤κ*ε/2:=by
    have:=Rat.mul_nonneg (a:=M) (b:=h-(v-u)) O4 O4
    grind
   have z2:0<κ*(σ*Zb b u)-M*(v-u):=by
    have:=Rat.mul_pos hκ (show 0<σ*Zb b u-ε by grind)
    have:=Rat.mul_pos hκ e1
    grind
   have z3:=Rat.mul_pos hd z2
   rcases hσ with rfl | rfl<;>grind
  have hne:∀w,u≤w→w≤v→Gd (Zb b w)≠0:=fun w q1 q2=>by
   have:=hbw w q1 q2
   rcases hσ with rfl | rfl
   ·rw [Dj O4];decide
   ·rw [Dk O4];decide
  rw [Ziz _ (hne u O4 huv),Ziz _ (hne v huv O4),hT]
  have hite:∀w,u≤w→w≤v→(Gd (Zb a w)=- Gd (Zb b w)↔σ*Zb a w<0):=fun w q1 q2=>by
   have:=hbw w q1 q2
   rcases hσ with rfl | rfl
   ·rw [Dj (x:=Zb b w) O4,Zfl]
    constructor<;>intro<;>grind
   ·rw [Dk (x:=Zb b w) O4,show(-(-1:Int))=- -1 from rfl]
    have h9:=Zfl (-(Zb a w))
    rw [Zxn]at h9
    constructor
    ·intro h8
     have:=h9.1 O
     grind
    ·intro h8
     have:=h9.2 O4
     omega
  rw [show(if Gd (Zb a u)=- Gd (Zb b u)then(1:Int)else 0)=if σ*Zb a u<0 then 1 else 0 from by simp only [hite u O4 huv]]
  rw [show(if Gd (Zb a v)=- Gd (Zb b v)then(1:Int)else 0)=if σ*Zb a v<0 then 1 else 0 from by simp only [hite v huv O4]]
  have hcrs:crs (Zb a) u v=if σ*Zb a u<0∧¬σ*Zb a v<0 then 1 else 0:=by
   unfold crs
   have hpp:Zb a u*Zb a v=(σ*Zb a u)*(σ*Zb a v):=by rcases hσ with rfl | rfl<;>grind
   have hz:Zb a u≠0↔σ*Zb a u≠0:=by rcases hσ with rfl | rfl<;>constructor<;>intro h9 h8<;>exact h9 O4
   have hiff:(Zb a u≠0∧Zb a u*Zb a v≤0)↔(σ*Zb a u<0∧¬σ*Zb a v<0):=by
    rw [hpp,hz]
    generalize hp:σ*Zb a u=p at *
    generalize hq:σ*Zb a v=q at *
    constructor
    ·intro ⟨n1,n2⟩
     rcases(show u<v∨u=v by grind)with hlt | heq
     ·have:=hmono hlt
      rcases(show p<0∨0<p by grind)with n3 | n3
      ·refine⟨n3,fun n4=>?_⟩
       have:=Rat.mul_pos (show 0 < -p by grind) (show 0 < -q by grind)
       grind
      ·have:=Rat.mul_pos n3 (show 0<q by grind)
       grind
     ·exfalso
      have:q=p:=by rw [←hp,←hq,heq]
      rw [this]at n2
      rcases(show p<0∨0<p by grind)with n3 | n3
      ·have:=Rat.mul_pos (show 0 < -p by grind) (show 0 < -p by grind)
       grind
      ·have:=Rat.mul_pos n3 n3
       grind
    ·intro ⟨n1,n2⟩
     refine⟨O4,?_⟩
     have:=Rat.mul_nonneg (show 0≤-p by grind) (show 0≤q by grind)
     grind
   simp only [hiff]
  rw [hcrs]
  by_cases k1:σ*Zb a u<0<;>by_cases k2:σ*Zb a v<0
  ·simp [k1,k2]
  ·simp [k1,k2]
   omega
  ·exfalso
   rcases(show u<v∨u=v by grind)with hlt | heq
   ·have:=hmono hlt;grind
   ·rw [heq]at k1;exact k1 k2
  ·simp [k1,k2]
theorem Zgw{s t:Rat}{f:Nat}{a b:List Int}(ha:Tr a)(hb:Tr b)(h0:a≠[])(hok:cok f a b){κ:Rat}(hκ:0<κ)(hder:∀x,Zb (ld a) x=κ*Zb b x)(hc:∀q,Tr q→Ed q a→Ed q b→q.length≤1) :
  ∃h:Rat,0<h∧∀u v,s≤u→u≤v→v≤t→v-u≤h→Av ((Ng f a b).map Zb) u-Av ((Ng f a b).map Zb) v=crs (Zb a) u v:=by
 obtain⟨ε,e1,e2⟩:=Zts ha hb h0 hc s t
 obtain⟨L,l1,l2⟩:=Fs s t a
 obtain⟨L',l1',l2'⟩:=Fs s t b
 obtain⟨M,m1,m2⟩:=Zgc s t a
 obtain⟨h1,h2,h3,h4⟩:=Km (show(0:Rat)<1 by decide) (show 0<L+L' by grind) (show 0<ε/2 by grind)
 obtain⟨h,h5,h6,h7⟩:=Km h2 m1 (show 0<κ*ε/2 by have:=Rat.mul_pos hκ e1;grind)
 refine⟨h,h5,fun u v hs huv ht hh=>Zfg ha hb hok hκ hder e1 e2 O4 l2 O4 l2' O4 m2 h5 ?_ h7 hs huv ht hh⟩
 have:=Rat.mul_nonneg (a:=L+L') (b:=h1-h) O4 O4
 grind
theorem Zzl:∀(n m:Nat) (f:Nat→Nat),(∀k,k<n→f k<m)→(∀a b,a<n→b<n→f a=f b→a=b)→n≤m
 | 0,_,_,_,_=>Nat.zero_le _
 | n+1,m,f,hf,hi=>by
  have h0:=hf n O
  have:=Zzl n (m-1) (fun k=>if f n<f k then f k-1 else f k) (fun k hk=>by
   have h1:=hf k O
   have h2:f k≠f n:=fun e=>by have:=hi k n O O e;omega
   split<;>omega) (fun a b ha hb e=>by
   have h2:f a≠f n:=fun e=>by have:=hi a n O O e;omega
   have h3:f b≠f n:=fun e=>by have:=hi b n O O e;omega
   refine hi a b O O ?_
   split at e<;>split at e<;>omega)
  omega
theorem php{n m:Nat}{f:Nat→Nat}(h:m<n)(hf:∀k,k<n→f k<m):∃a b,a<n∧b<n∧a≠b∧f a=f b:=by
 refine Classical.byContradiction fun h9=>?_
 have:=Zzl n m f hf fun a b ha hb e=>Classical.byContradiction fun h8=>h9 ⟨a,b,ha,hb,h8,e⟩
 omega
def enc(B:Nat)(d:Nat→Nat):Nat→Nat
 | 0=>0
 | n+1=>enc B d n+d n*B^n
theorem Zlw{B:Nat}{d:Nat→Nat} : ∀n,(∀i,i<n→d i<B)→enc B d n<B^n
 | 0,_=>by simp [enc]
 | n+1,h=>by
  have h1:=Zlw n fun i hi=>h i O
  have h2:=h n O
  have h3:(d n+1)*B^n≤B*B^n:=Nat.mul_le_mul_right _ h2
  rw [Nat.add_mul,Nat.one_mul]at h3
  rw [Nat.pow_succ,Nat.mul_comm (B^n) B]
  show enc B d n+d n*B^n<_
  omega
theorem Zta{B:Nat}{d e:Nat→Nat} : ∀n,(∀i,i<n→d i<B)→(∀i,i<n→e i<B)→enc B d n=enc B e n→∀i,i<n→d i=e i
 | 0,_,_,_,i,hi=>absurd hi (Nat.not_lt_zero i)
 | n+1,h1,h2,h,i,hi=>by
  have a1:=Zlw n fun i hi=>h1 i O
  have a2:=Zlw n fun i hi=>h2 i O
  have h:enc B d n+d n*B^n=enc B e n+e n*B^n:=h
  have hp:0<B^n:=O
  have hd:d n=e n:=by
   have b1:(enc B d n+d n*B^n)/B^n=d n:=by rw [Nat.add_mul_div_right _ _ hp,Nat.div_eq_of_lt a1,Nat.zero_add]
   have b2:(enc B e n+e n*B^n)/B^n=e n:=by rw [Nat.add_mul_div_right _ _ hp,Nat.div_eq_of_lt a2,Nat.zero_add]
   rw [←b1,←b2,h]
  rcases Nat.lt_or_ge i n with h3 | h3
  ·exact Zta n (fun i hi=>h1 i O) (fun i hi=>h2 i O) (by rw [hd]at h;omega) i h3
  ·rw [show i=n by omega];exact hd
def dig(B k j:Nat):Nat:=k/B^j%B
theorem Zlx(B k:Nat):∀n,enc B (dig B k) n=k%B^n
 | 0=>by simp [enc,Nat.mod_one]
 | n+1=>by
  show enc B (dig B k) n+dig B k n*B^n=_
  rw [Zlx B k n,Nat.pow_succ,Nat.mod_mul]
  unfold dig;rw [Nat.mul_comm]
theorem Zgv{f:Nat→Int}{C:Int} : ∀n,(∀i,i<n→-C≤f i∧f i≤C)→-((n:Int)*C)≤Yi f n∧Yi f n≤(n:Int)*C
 | 0,_=>by simp [Gj]
 | n+1,h=>by
  have h1:=Zgv n fun i hi=>h i O
  have h2:=h n O
  have h3:((n+1:Nat):Int)*C=(n:Int)*C+C:=by push_cast;grind
  rw [Yt,h3];omega
theorem Zi7(f g:Nat→Int):∀n,Yi (fun i=>f i-g i) n=Yi f n-Yi g n
 | 0=>by simp [Gj]
 | n+1=>by rw [Yt,Yt,Yt,Zi7 f g n];omega
theorem siegel{N M A:Nat}(hMN:M<N)(hA:0<A)(c:Nat→Nat→Int)(hc:∀i j,i<M→j<N→(c i j).natAbs≤A) :
  ∃x:Nat→Int,(∃j,j<N∧x j≠0)∧(∀j,j<N→(x j).natAbs≤(2*N*A)^M)∧∀i,i<M→Yi (fun j=>c i j*x j) N=0:=by
 generalize hX:(2*N*A)^M=X
 generalize hW:N*(A*X)=W
 let d:=fun k j=>dig (X+1) k j
 have hd:∀k j,d k j≤X:=fun k j=>Nat.le_of_lt_succ (Nat.mod_lt _ (Nat.succ_pos X))
 let y:=fun k i=>Yi (fun j=>c i j*(d k j:Int)) N
 have hy:∀k i,i<M→-(W:Int)≤y k i∧y k i≤(W:Int):=fun k i hi=>by
  have h1:=Zgv (f:=fun j=>c i j*(d k j:Int)) (C:=((A*X:Nat):Int)) N fun j hj=>by
   have h2:=hc i j hi hj
   have h3:(c i j*(d k j:Int)).natAbs≤A*X:=by
    rw [Int.natAbs_mul,Int.natAbs_natCast];exact Nat.mul_le_mul h2 (hd k j)
   omega
  have h4:((N:Int)*((A*X:Nat):Int))=(W:Int):=by rw [←hW];push_cast;rfl
  rw [h4]at h1;exact h1
 let e:=fun k=>enc (2*W+1) (fun i=>(y k i+(W:Int)).toNat) M
 have he:∀k i,i<M→(y k i+(W:Int)).toNat<2*W+1:=fun k i hi=>by have:=hy k i hi;omega
 have hlt:(2*W+1)^M<(X+1)^N:=by
  have h1:2*W+1≤(2*N*A)*(X+1):=by
   have:0<N*A:=Nat.mul_pos O hA
   have e1:2*N*A*(X+1)=2*W+2*(N*A):=by rw [←hW];grind
   omega
  have h2:=Nat.pow_le_pow_left h1 M
  rw [Nat.mul_pow,hX]at h2
  have h3:(X+1)^(M+1)≤(X+1)^N:=Nat.pow_le_pow_right O O
  rw [Nat.pow_succ]at h3
  have h4:0<(X+1)^M:=Nat.pow_pos O
  have h5:X*(X+1)^M<(X+1)^M*(X+1):=by rw [Nat.mul_comm];exact Nat.mul_lt_mul_of_pos_left O h4
  omega
 obtain⟨a,b,ha,hb,hab,hf⟩:=php (f:=e) hlt (fun k _=>Zlw M (he k))
 have hyy:=Zta M (he a) (he b) hf
 refine⟨fun j=>(d a j:Int)-(d b j:Int),?_,fun j _=>?_,fun i hi=>?_⟩
 ·refine Classical.byContradiction fun h9=>hab ?_
  have h8:∀j,j<N→d a j=d b j:=fun j hj=>Classical.byContradiction fun h7=>h9 ⟨j,hj,fun h6=>h7 (by have h6:(d a j:Int)-(d b j:Int)=0:=h6;omega)⟩
  have e1:=Zlx (X+1) a N
  have e2:=Zlx (X+1) b N
  rw [Nat.mod_eq_of_lt ha]at e1
  rw [Nat.mod_eq_of_lt hb]at e2
  have e3:∀n,n≤N→enc (X+1) (dig (X+1) a) n=enc (X+1) (dig (X+1) b) n:=fun n=>by
   induction n with
   | zero=>intro _;rfl
   | succ n ih=>
    intro hn
    have h7:dig (X+1) a n=dig (X+1) b n:=h8 n O
    show enc _ _ n+dig (X+1) a n*_=enc _ _ n+dig (X+1) b n*_
    rw [ih O,h7]
  rw [←e1,←e2];exact e3 N (Nat.le_refl _)
 ·have h1:=hd a j
  have h2:=hd b j
  dsimp only;omega
 ·have h1:Yi (fun j=>c i j*((d a j:Int)-(d b j:Int))) N=y a i-y b i:=by
   rw [←Zi7];exact Yc fun j _=>O4
  rw [h1]
  have h2:=hyy i hi
  have h3:=hy a i hi
  have h4:=hy b i hi
  omega
theorem Zff(f:Nat→Int)(p:Nat):∀q,Yi f (p+q)=Yi f p+Yi (fun k=>f (p+k)) q
 | 0=>by simp [Gj]
 | q+1=>by rw [←Nat.add_assoc,Yt,Yt,Zff f p q];omega
def sft(a:List Int)(t k:Nat):Int:=if k≤t then cf a (t-k)else 0
theorem Zia{U a:List Int}{p:Nat}(h:U.length=p)(t:Nat):(ps U*ps a).c t=Yi (fun k=>sft a t k*cf U k) p:=by
 rw [←Zpf,←h]
 refine Yc fun k _=>?_
 unfold sft;split<;>grind
theorem Zb0{U a:List Int}{p t:Nat}(h:U.length≤p)(ht:p+a.length≤t+1):(ps U*ps a).c t=0:=by
 rw [PS.mul_c]
 refine Hm fun k hk=>?_
 rw [Oe,Oe]
 rcases Nat.lt_or_ge k U.length with h1 | h1
 ·rw [Yd (p:=a) O,Int.mul_zero]
 ·rw [Yd h1,Int.zero_mul]
theorem Zfi{a b:List Int}{p q lo A:Nat}(hA:0<A)(ha:∀i,(cf a i).natAbs≤A)(hb:∀i,(cf b i).natAbs≤A)(h0:0<p+q)(h1:p+a.length≤p+q+lo)(h2:q+b.length≤p+q+lo) :
  ∃U V:List Int,U.length=p∧V.length=q∧((∃i,cf U i≠0)∨∃i,cf V i≠0)∧(∀i,(cf U i).natAbs≤(2*(p+q)*A)^(p+q-1))∧(∀i,(cf V i).natAbs≤(2*(p+q)*A)^(p+q-1))∧
   ∀t,lo≤t→(ps U*ps a).c t+(ps V*ps b).c t=0:=by
 obtain⟨x,⟨j,hj,hne⟩,hx,he⟩:=siegel (N:=p+q) (M:=p+q-1) (A:=A) O hA (fun i j=>if j<p then sft a (lo+i) j else sft b (lo+i) (j-p)) (fun i j _ _=>by
  split<;>unfold sft<;>split
  ·exact ha _
  ·simp
  ·exact hb _
  ·simp)
 have cU:∀i,cf (mk p x) i=if i<p then x i else 0:=fun i=>Lb _ _ _
 have cV:∀i,cf (mk q fun k=>x (p+k)) i=if i<q then x (p+i)else 0:=fun i=>Lb _ _ _
 refine⟨mk p x,mk q fun k=>x (p+k),Yo _ _,Yo _ _,?_,fun i=>?_,fun i=>?_,fun t ht=>?_⟩
 ·rcases Nat.lt_or_ge j p with h | h
  ·exact .inl ⟨j,by rw [cU,if_pos h];exact hne⟩
  ·exact .inr ⟨j-p,by rw [cV,if_pos O,show p+(j-p)=j by omega];exact hne⟩
 ·rw [cU];split
  ·exact hx i O
  ·exact Nat.zero_le _
 ·rw [cV];split
  ·exact hx _ O
  ·exact Nat.zero_le _
 ·rcases Nat.lt_or_ge (t-lo) (p+q-1)with h | h
  ·have h3:=he (t-lo) h
   rw [show lo+(t-lo)=t by omega,Zff]at h3
   rw [Zia (Yo _ _),Zia (Yo _ _),←h3]
   congr 1
   ·exact Yc fun k hk=>by rw [if_pos hk,cU,if_pos hk]
   ·exact Yc fun k hk=>by rw [if_neg O,cV,if_pos hk,show p+k-p=k by omega]
  ·rw [Zb0 (Nat.le_of_eq (Yo _ _)) O,Zb0 (Nat.le_of_eq (Yo _ _)) O];rfl
theorem Ztt{U a:List Int}{p t X A:Nat}(h:U.length=p)(hU:∀i,(cf U i).natAbs≤X)(ha:∀i,(cf a i).natAbs≤A):((ps U*ps a).c t).natAbs≤p*(X*A):=by
 rw [Zia h]
 have h1:=Zgv (f:=fun k=>sft a t k*cf U k) (C:=((X*A:Nat):Int)) p fun k _=>by
  have:(sft a t k*cf U k).natAbs≤X*A:=by
   rw [Int.natAbs_mul,Nat.mul_comm]
   refine Nat.mul_le_mul (hU k) ?_
   unfold sft;split
   ·exact ha _
   ·simp
  omega
 have h2:((p:Int)*((X*A:Nat):Int))=((p*(X*A):Nat):Int):=by push_cast;rfl
 rw [h2]at h1;omega
theorem Zdm{w q y:List Int}{n:Nat}(h:∀x,Zb w x=Zb q x*Zb y x)(hy:Tr y)(h0:y≠[])(hn:∀i,n≤i→cf w i=0):tzl q=[]∨(tzl q).length+y.length≤n+1:=by
 by_cases hq:tzl q=[]
 ·exact .inl hq
 ·right
  have hc:∀i,cf w i=(ps (tzl q)*ps y).c i:=fun i=>by
   rw [Nw (p:=w) (q:=Qc (tzl q) y) (fun x=>by rw [Zn,Ni];exact h x) i,Ga,PS.mul_c];rfl
  have l1:=List.length_pos_iff.2 hq
  have l2:=List.length_pos_iff.2 h0
  have ht:=Db (p:=tzl q) (q:=y) (a:=(tzl q).length-1) (b:=y.length-1) (fun i hi=>Yd O) (fun i hi=>Yd O)
  rw [←hc]at ht
  have hne:=Int.mul_ne_zero ((Qo q).mem hq) (hy.mem h0)
  rcases Nat.lt_or_ge ((tzl q).length-1+(y.length-1)) n with h9 | h9
  ·omega
  ·rw [hn _ h9]at ht;exact absurd ht.symm hne
theorem Ht{v f:List Int}(hv:tzl v≠[])(h:∀x,Zb v x*Zb f x=0)(x:Rat):Zb f x=0:=by
 by_cases hf:tzl f=[]
 ·rw [←Ni,hf];rfl
 ·exfalso
  rcases Zdm (w:=[]) (q:=v) (y:=tzl f) (n:=0) (fun x=>by rw [Ni,h x];rfl) (Qo f) hf (fun i _=>Za5 i)with h9 | h9
  ·exact hv h9
  ·have:=List.length_pos_iff.2 hf
   have:=List.length_pos_iff.2 hv
   omega
structure Inv (a b x y:List Int):Prop where
 ex:∃(α β γ:Int) (u' v' u v:List Int),α≠0∧β≠0∧γ≠0∧
  (∀t:Rat,(α:Rat)*Zb x t=Zb u' t*Zb a t+Zb v' t*Zb b t)∧(∀t:Rat,(β:Rat)*Zb y t=Zb u t*Zb a t+Zb v t*Zb b t)∧
  (∀t:Rat,Zb u' t*Zb v t-Zb u t*Zb v' t=(γ:Rat))∧(tzl v).length≤a.length-x.length+1∧(tzl v').length≤a.length-x.length+1
 xl:x.length≤b.length
 yl:y.length<x.length
theorem Zsa{x q y z:List Int}{L:Int}{c:Int}(hy:Tr y)(h0:y≠[])(hz:z.length≤x.length)(h:∀t:Rat,(L:Rat)*Zb x t=Zb q t*Zb y t+(c:Rat)*Zb z t):tzl q=[]∨(tzl q).length+y.length≤x.length+1:=
 Zdm (w:=Nu (x.map fun a=>L*a) (z.map fun a=>(-c)*a)) (n:=x.length) (fun t=>by rw [Yz,Zf,Zf];have:=h t;push_cast;grind) hy h0 fun i hi=>by
  rw [Li,Xw,Xw,Yd hi,Yd (p:=z) O];omega
theorem Ds{p q:List Int}{m n:Nat}(hp:(tzl p).length≤m)(hq:(tzl q).length≤n)(i:Nat)(hi:m+n≤i+1):cf (Qc p q) i=0:=by
 have h1:cf (Qc p q) i=cf (Qc (tzl p) (tzl q)) i:=Nw (fun x=>by rw [Zn,Zn,Ni,Ni]) i
 rw [h1,Ga]
 have h2:=Zb0 (U:=tzl p) (a:=tzl q) (p:=m) (t:=i) hp O
 rw [PS.mul_c]at h2
 exact h2
theorem Zkb{p:List Int}{n:Nat}(h:∀i,n≤i→cf p i=0):(tzl p).length≤n:=Bn h
theorem Zt3{p:List Int}{n i:Nat}(h:(tzl p).length≤n)(hi:n≤i):cf p i=0:=by
 rw [←Ko];exact Yd O
theorem Inv.next{a b x y z z' q:List Int}{L:Int}(hI:Inv a b x y)(hab:b.length≤a.length)(hx:Tr x)(hy:Tr y)(h0:y≠[])(hL:L≠0)(h:∀t:Rat,(L:Rat)*Zb x t=Zb q t*Zb y t+Zb z' t)(hz:Sim z' z)(hzl:z.length<y.length):Inv a b y z:=by
 obtain⟨⟨α,β,γ,u',v',u,v,hα,hβ,hγ,e1,e2,e3,l1,l2⟩,xl,yl⟩:=hI
 obtain⟨m,n,hm,hn,hs⟩:=hz
 have hs':∀t:Rat,(m:Rat)*Zb z' t=(n:Rat)*Zb z t:=fun t=>by
  have:=Nx t (z'.map fun a=>m*a) (z.map fun a=>n*a) fun i=>by rw [Xw,Xw,hs]
  rwa [Zf,Zf]at this
 have h9:∀t:Rat,((L*m:Int):Rat)*Zb x t=Zb (q.map fun a=>m*a) t*Zb y t+(n:Rat)*Zb z t:=fun t=>by
  rw [Zf];push_cast
  have:=h t;have:=hs' t;grind
 have hql:=Zsa hy h0 O h9
 have hqz:(tzl (q.map fun a=>m*a)).length≤x.length-y.length+1:=by
  rcases hql with hq | hq
  ·rw [hq];simp
  ·omega
 generalize hQ:(q.map fun a=>m*a)=Q at *
 have key:∀t:Rat,((n*(α*β):Int):Rat)*Zb z t=Zb (Nu (u'.map fun c=>(L*m*β)*c) ((Qc Q u).map fun c=>(-α)*c)) t*Zb a t+Zb (Nu (v'.map fun c=>(L*m*β)*c) ((Qc Q v).map fun c=>(-α)*c)) t*Zb b t:=fun t=>by
  rw [Yz,Yz,Zf,Zf,Zf,Zf,Zn,Zn]
  have a1:=h9 t;have a2:=e1 t;have a3:=e2 t
  push_cast at a1 ⊢
  have:(n:Rat)*(α*β)*Zb z t=α*β*(n*Zb z t):=O4
  rw [this,show(n:Rat)*Zb z t=L*m*Zb x t-Zb Q t*Zb y t by grind]
  have:(α:Rat)*β*(L*m*Zb x t-Zb Q t*Zb y t)=L*m*β*(α*Zb x t)-α*Zb Q t*(β*Zb y t):=O4
  rw [this,a2,a3];grind
 refine⟨⟨β,n*(α*β),-(L*m*β*γ),u,v,_,_,hβ,Int.mul_ne_zero hn (Int.mul_ne_zero hα hβ),?_,e2,key,fun t=>?_,?_,?_⟩,O,hzl⟩
 ·have:=Int.mul_ne_zero (Int.mul_ne_zero (Int.mul_ne_zero hL hm) hβ) hγ;omega
 ·rw [Yz,Yz,Zf,Zf,Zf,Zf,Zn,Zn]
  have:=e3 t;push_cast;grind
 ·refine Zkb fun i hi=>?_
  rw [Li,Xw,Xw,Zt3 (p:=v') l2 O,Ds hqz l1 i O];omega
 ·omega
theorem Inv.first{a b z z' q:List Int}{L:Int}(hab:b.length≤a.length)(ha:Tr a)(hb:Tr b)(h0:b≠[])(hL:L≠0)(h:∀t:Rat,(L:Rat)*Zb a t=Zb q t*Zb b t+Zb z' t)(hz:Sim z' z)(hzl:z.length<b.length):Inv a b b z:=by
 obtain⟨m,n,hm,hn,hs⟩:=hz
 have hs':∀t:Rat,(m:Rat)*Zb z' t=(n:Rat)*Zb z t:=fun t=>by
  have:=Nx t (z'.map fun a=>m*a) (z.map fun a=>n*a) fun i=>by rw [Xw,Xw,hs]
  rwa [Zf,Zf]at this
 have h9:∀t:Rat,((L*m:Int):Rat)*Zb a t=Zb (q.map fun a=>m*a) t*Zb b t+(n:Rat)*Zb z t:=fun t=>by
  rw [Zf];push_cast
  have:=h t;have:=hs' t;grind
 have hql:=Zsa hb h0 O h9
 have hqz:(tzl (q.map fun a=>m*a)).length≤a.length-b.length+1:=by
  rcases hql with hq | hq
  ·rw [hq];simp
  ·omega
 generalize hQ:(q.map fun a=>m*a)=Q at *
 refine⟨⟨1,n,-(L*m),[],[1],[L*m],Q.map fun c=>(-1)*c,O3,hn,?_,fun t=>?_,fun t=>?_,fun t=>?_,?_,?_⟩,Nat.le_refl _,hzl⟩
 ·have:=Int.mul_ne_zero hL hm;omega
 ·rw [Qw];show _=(0:Rat)*_+_;grind
 ·rw [Qw,Zf];have:=h9 t;push_cast at this ⊢;grind
 ·rw [Qw,Qw];show(0:Rat)*_-_=_;push_cast;grind
 ·refine Zkb fun i hi=>?_
  rw [Xw,Zt3 hqz O];omega
 ·refine Nat.le_trans (Mu _) ?_
  simp
theorem Zeh{n:Nat}{a:List Int}(h:Sz n a)(i:Nat):(cf a i).natAbs≤2^n:=Nat.le_of_lt ((Xt n _).1 (h i))
theorem Dl{p:List Int}(h:tzl p=[])(x:Rat):Zb p x=0:=by rw [←Ni,h];rfl
theorem tzl_ne{p:List Int}{i:Nat}(h:cf p i≠0):tzl p≠[]:=fun e=>h ((Mf p).1 e i)
theorem nn_eq{x a b:Nat}(h1:x≤b)(h2:b≤a):b-x+1+(a-x+1)=a+b-2*x+2:=O
theorem Inv.bound{a b x y:List Int}{n s:Nat}(hI:Inv a b x y)(hab:b.length≤a.length)(ha:Tr a)(hx:Tr x)(hy:Tr y)(h0:y≠[])(hp:Yk y=1)(na:Sz n a)(nb:Sz n b)(hs:a.length+b.length-2*x.length+2≤2^s) :
  Pi y≤(s+1+n)*(a.length+b.length-2*x.length+2):=by
 obtain⟨⟨α,β,γ,u',v',u,v,hα,hβ,hγ,e1,e2,e3,l1,l2⟩,xl,yl⟩:=hI
 have hy1:=List.length_pos_iff.2 h0
 have hx0:x≠[]:=fun e=>by rw [e]at yl;simp at yl
 have ha0:a≠[]:=fun e=>by
  have h9:a.length=0:=by rw [e];rfl
  omega
 obtain⟨U,V,lU,lV,hne,bU,bV,hz⟩:=Zfi (a:=a) (b:=b) (p:=b.length-x.length+1) (q:=a.length-x.length+1) (lo:=x.length-1) (A:=2^n) (Nat.pow_pos O3) (Zeh na) (Zeh nb) O O O
 have hv:a.length+1≤(tzl v).length+x.length:=by
  refine Classical.byContradiction fun h9=>?_
  have hid:∀i,cf (Nu (a.map fun c=>γ*c) ((Qc y v').map fun c=>β*c)) i=cf (Qc (tzl v) (x.map fun c=>α*c)) i:=fun i=>Nw (fun t=>by
   rw [Yz,Zf,Zf,Zn,Zn,Zf,Ni]
   have a1:=e1 t;have a2:=e2 t;have a3:=e3 t
   have:Zb v t*(α*Zb x t)=(Zb u' t*Zb v t-Zb u t*Zb v' t)*Zb a t+(Zb u t*Zb a t+Zb v t*Zb b t)*Zb v' t:=by rw [a1];grind
   rw [this,a3,←a2];grind) i
  have h1:=hid (a.length-1)
  rw [Li,Xw,Xw,Ds (m:=y.length) (n:=a.length-x.length+1) (Mu _) l2 _ O,Ga]at h1
  have h2:=Zb0 (U:=tzl v) (a:=x.map fun c=>α*c) (p:=(tzl v).length) (t:=a.length-1) (Nat.le_refl _) (by rw [List.length_map];omega)
  rw [PS.mul_c]at h2
  have h3:Yi (fun k=>cf (tzl v) k*cf (x.map fun c=>α*c) (a.length-1-k)) (a.length-1+1)=0:=h2
  rw [h3]at h1
  have:=Int.mul_ne_zero hγ (ha.mem ha0)
  omega
 have hvne:tzl v≠[]:=fun e=>by rw [e]at hv;simp at hv;omega
 have cR:∀i,cf (Nu (Qc U a) (Qc V b)) i=(ps U*ps a).c i+(ps V*ps b).c i:=fun i=>by
  rw [Li,Ga,Ga,PS.mul_c,PS.mul_c];rfl
 generalize hR:Nu (Qc U a) (Qc V b)=R at cR
 have rR:∀t,Zb R t=Zb U t*Zb a t+Zb V t*Zb b t:=fun t=>by rw [←hR,Yz,Zn,Zn]
 have lR:(tzl R).length≤x.length-1:=Zkb fun i hi=>by rw [cR];exact hz i hi
 have hf:tzl (Nu (Qc U v) ((Qc u V).map fun c=>(-1)*c))=[]:=by
  rcases Zdm (w:=Nu (Qc R v) ((Qc y V).map fun c=>(-β)*c)) (q:=Nu (Qc U v) ((Qc u V).map fun c=>(-1)*c)) (y:=a) (n:=a.length-1) (fun t=>by
   rw [Yz,Zf,Zn,Zn,Yz,Zf,Zn,Zn,rR]
   have a2:=e2 t
   push_cast
   have:(-(β:Rat))*(Zb y t*Zb V t)=- (β*Zb y t)*Zb V t:=O4
   rw [this,a2];grind) ha ha0 (fun i hi=>by
   rw [Li,Xw,Ds lR l1 i O,Ds (m:=y.length) (n:=a.length-x.length+1) (Mu _) (Nat.le_trans (Mu _) (Nat.le_of_eq lV)) i O];omega)with h9 | h9
  ·exact h9
  ·refine Classical.byContradiction fun h8=>?_
   have:=List.length_pos_iff.2 h8;omega
 have huv:∀t,Zb U t*Zb v t=Zb u t*Zb V t:=fun t=>by
  have:=Dl hf t
  rw [Yz,Zf,Zn,Zn]at this
  push_cast at this;grind
 have hRv:∀t,Zb R t*Zb v t=β*Zb y t*Zb V t:=fun t=>by
  rw [rR,e2 t]
  have:=huv t;grind
 have hw:∀t,(γ:Rat)*Zb V t=Zb v t*Zb (Nu (Qc u' V) ((Qc v' U).map fun c=>(-1)*c)) t:=fun t=>by
  rw [Yz,Zf,Zn,Zn,←e3 t]
  have:=huv t;push_cast;grind
 generalize Nu (Qc u' V) ((Qc v' U).map fun c=>(-1)*c)=w at hw
 have hV:tzl V≠[]:=fun e=>by
  rcases hne with⟨i,hi⟩ | ⟨i,hi⟩
  ·refine hi (Nw (p:=U) (q:=[]) (fun t=>?_) i▸Za5 i)
   exact Ht (v:=v) (f:=U) hvne (fun t=>by have:=huv t;rw [Dl e]at this;grind) t
  ·exact tzl_ne hi e
 have hwl:∃c:Int,c≠0∧∀t,Zb w t=(c:Rat):=by
  have hwne:tzl w≠[]:=fun e=>hV ((Mf V).2 fun i=>by
   have:=Nw (p:=V.map fun c=>γ*c) (q:=[]) (fun t=>by rw [Zf,hw t,Dl e];show _=(0:Rat);grind) i
   rw [Xw,Za5]at this
   exact(Int.mul_eq_zero.1 this).resolve_left hγ)
  rcases Zdm (w:=V.map fun c=>γ*c) (q:=w) (y:=tzl v) (n:=a.length-x.length+1) (fun t=>by rw [Zf,Ni,hw t];grind) (Qo v) hvne (fun i hi=>by rw [Xw,Yd O];omega)with h9 | h9
  ·exact absurd h9 hwne
  ·have h8:=List.length_pos_iff.2 hwne
   have h7:(tzl w).length=1:=O
   match hc:tzl w,h7 with
   | [c],_=>
    refine⟨c,?_,fun t=>by rw [←Ni,hc,Qw]⟩
    have:=(Qo w).mem hwne
    rw [hc]at this;exact this
 obtain⟨c,hc0,hc⟩:=hwl
 have hsim:Sim R y:=by
  refine⟨γ,β*c,hγ,Int.mul_ne_zero hβ hc0,fun i=>?_⟩
  have:=Nw (p:=R.map fun d=>γ*d) (q:=y.map fun d=>(β*c)*d) (fun t=>by
   rw [Zf,Zf];push_cast
   have h1:Zb (Nu (R.map fun d=>γ*d) (y.map fun d=>(-(β*c))*d)) t=0:=Ht (v:=v) hvne (fun t=>by
    rw [Yz,Zf,Zf];push_cast
    have a1:=hRv t;have a2:=hw t;rw [hc]at a2
    have:Zb v t*(γ*Zb R t + -(β*c:Rat)*Zb y t)=γ*(Zb R t*Zb v t)-β*Zb y t*(Zb v t*c):=O4
    rw [this,a1,←a2];grind) t
   rw [Yz,Zf,Zf]at h1
   push_cast at h1;grind) i
  rwa [Xw,Xw]at this
 have hsz:Sz ((s+1+n)*(a.length+b.length-2*x.length+2)) R:=fun i=>by
  rw [cR]
  have c1:=Ztt (t:=i) lU bU (Zeh na)
  have c2:=Ztt (t:=i) lV bV (Zeh nb)
  have hN3:b.length-x.length+1+(a.length-x.length+1)=a.length+b.length-2*x.length+2:=nn_eq xl hab
  rw [←hN3]at hs ⊢
  generalize hN:b.length-x.length+1+(a.length-x.length+1)=N at *
  generalize hXX:(2*N*2^n)^(N-1)=X at *
  have c3:((ps U*ps a).c i+(ps V*ps b).c i).natAbs≤N*(X*2^n):=by
   rw [←hN,Nat.add_mul]
   have:=Int.natAbs_add_le ((ps U*ps a).c i) ((ps V*ps b).c i)
   omega
  refine(Xt _ _).2 (Nat.lt_of_le_of_lt c3 ?_)
  have hX0:0<X:=by rw [←hXX];exact Nat.pow_pos (Nat.mul_pos O (Nat.pow_pos O3))
  have c4:N*(X*2^n)<(2*N*2^n)^N:=by
   have e:(2*N*2^n)^N=X*(2*N*2^n):=by
    rw [←hXX,←Nat.pow_succ,Nat.succ_eq_add_one,show N-1+1=N by omega]
   rw [e]
   have:0<N*(X*2^n):=Nat.mul_pos O (Nat.mul_pos hX0 (Nat.pow_pos O3))
   have e2:X*(2*N*2^n)=2*(N*(X*2^n)):=O4
   omega
  have c5:2*N*2^n≤2^(s+1+n):=by
   rw [Nat.pow_add,Nat.pow_succ]
   exact Nat.mul_le_mul_right _ O
  have c6:=Nat.pow_le_pow_left c5 N
  rw [←Nat.pow_mul]at c6
  exact Nat.lt_of_lt_of_le c4 c6
 have h1:tzl R≠[]:=fun e=>by
  obtain⟨m,k,hm,hk,e9⟩:=hsim
  have:=e9 (y.length-1)
  rw [(Mf R).1 e,Int.mul_zero]at this
  exact Int.mul_ne_zero hk (hy.mem h0) this.symm
 have hsim2:Sim (tzl R) y:=by
  obtain⟨m,k,hm,hk,e9⟩:=hsim
  exact⟨m,k,hm,hk,fun i=>by rw [Ko];exact e9 i⟩
 have h2:=(Qd (Qo R)).trans hsim2
 have h3:∀i,(cf y i).natAbs=(cf (Zz (tzl R)) i).natAbs:=fun i=>by
  rcases Zm7 (Yy (Qo R)) hy (fun e=>h1 (List.eq_nil_of_length_eq_zero (by rw [←Zq,e];rfl))) (Kf (Qo R) h1) hp h2 with h9 | h9
  ·rw [h9]
  ·rw [h9 i,Int.natAbs_neg]
 exact Pj fun i=>by rw [h3];exact Fc hsz.tzl i
def Zn1(la lb K:Nat):Prop:=∀l,l≤lb→(l+1)*(K*(la+lb-2*l+2)+1)≤65536
theorem Zo7{la lb K l m:Nat}(h:l≤m):K*(la+lb-2*m+2)≤K*(la+lb-2*l+2):=Nat.mul_le_mul_left _ O
theorem Zd5{x y:List Int}{C:Nat}(hy:y≠[])(hl:y.length<x.length)(h1:Pi x≤C)(h2:Pi y≤C)(h:(x.length+1)*(C+1)≤65536):Ea x y=0:=by
 have l1:=List.length_pos_iff.2 hy
 unfold Ea
 rw [if_neg O,if_neg O]
 have h3:(x.length-y.length+1)*(Pi y+1)≤x.length*(C+1):=Nat.mul_le_mul O O
 rw [Nat.add_mul,Nat.one_mul]at h
 rw [if_neg O]
theorem Zvw{a b x y:List Int}(hI:Inv a b x y)(hab:b.length≤a.length)(hx:Tr x)(hy:Tr y)(h0:y≠[]):Inv a b y (Zz (Xx x y)):=by
 obtain⟨k,s,hs⟩:=Cp x h0
 have hL:=Mj (hy.mem h0) k
 generalize cf y (y.length-1)^k=L at hs hL
 have he:∀t:Rat,(L:Rat)*Zb x t=Zb s t*Zb y t+Zb (Xx x y) t:=fun t=>by
  have:=Gv (a:=L) (c:=-1) (x:=x) (s:=s) (y:=y) (z:=Xx x y) (fun t=>by rw [hs t];omega) t
  push_cast at this;grind
 exact hI.next hab hx hy h0 hL he (Qd (Ll hx)).symm (by rw [Zq];exact Qs x h0)
theorem Zdo{p:List Int}(h:Tr p):Zz p=[]∨Yk (Zz p)=1:=by
 by_cases h0:p=[]
 ·left;rw [h0];rfl
 ·right;exact Kf h h0
theorem Fx{x y:List Int}(hx:Tr x)(h0:y≠[]):(Oj x y).length<y.length:=by rw [Ad hx];exact Qs x h0
theorem Zvv{a b x y:List Int}(hI:Inv a b x y)(hab:b.length≤a.length)(hx:Tr x)(hy:Tr y)(h0:y≠[]):Inv a b y (Oj x y)∧(Oj x y=[]∨Yk (Oj x y)=1):=by
 have l0:=List.length_pos_iff.2 h0
 have hxy:=hI.yl
 obtain⟨r1,r2,k,u,hk⟩:=Zdi hy h0 x.length x hx O
 have hs:=Zek (f:=x.length) hx hy h0 O O
 have htn:Tr (Zcj (Cl x.length x y)):=Pl _ _
 have hK:Bu y^k≠0:=Mj (by have:=Zdl hy h0;omega) _
 constructor
 ·refine hI.next (z':=Cl x.length x y) (q:=u) hab hx hy h0 hK (fun t=>?_) ?_ (Fx hx h0)
  ·have:=Gv (a:=Bu y^k) (c:=-1) (x:=x) (s:=u) (y:=y) (z:=Cl x.length x y) (fun t=>by rw [hk t];omega) t
   push_cast at this ⊢;grind
  ·rw [←hs]
   exact Sim.trans ⟨1,-1,O3,O3,fun i=>by rw [Gz];omega⟩ (Qd htn).symm
 ·rw [←hs];exact Zdo htn
theorem Zs9{a b:List Int}{n s K:Nat}(hab:b.length≤a.length)(ha:Tr a)(na:Sz n a)(nb:Sz n b)(hs:a.length+b.length≤2^s)(hK:s+1+n≤K)(hN:Zn1 a.length b.length K) :
  ∀(f:Nat) (x y:List Int),Inv a b x y→Tr x→Tr y→(y=[]∨Yk y=1)→Pi x≤K*(a.length+b.length-2*x.length+2)→y.length≤f→eok f x y∧Pi (eu f x y)≤K*(a.length+b.length)
 | 0,x,y,hI,hx,hy,hp,hm,hl=>by
  have hxl:=hI.yl
  refine⟨List.eq_nil_of_length_eq_zero O,Nat.le_trans hm (Nat.mul_le_mul_left _ (by have:=hI.xl;omega))⟩
 | f+1,x,y,hI,hx,hy,hp,hm,hl=>by
  have hyl:=hI.yl
  have hxl:=hI.xl
  by_cases h0:y=[]
  ·subst h0
   refine⟨.inl rfl,?_⟩
   rw [Ze1]
   exact Nat.le_trans hm (Nat.mul_le_mul_left _ O)
  ·have l0:=List.length_pos_iff.2 h0
   have hb:=hI.bound hab ha hx hy h0 (hp.resolve_left h0) na nb (s:=s) O
   have hb2:Pi y≤K*(a.length+b.length-2*x.length+2):=Nat.le_trans hb (Nat.mul_le_mul_right _ hK)
   have hd:=Zd5 h0 hyl hm hb2 (hN x.length hxl)
   have ht:=Ll (q:=y) hx
   have ih:=Zs9 hab ha na nb hs hK hN f y (Zz (Xx x y)) (Zvw hI hab hx hy h0) hy (Yy ht) (Zdo ht) (Nat.le_trans hb2 (Zo7 O)) (by rw [Zq];have:=Qs x h0;omega)
   refine⟨.inr ⟨hd,ih.1⟩,?_⟩
   rw [show eu (f+1) x y=eu f y (Zz (Xx x y)) by
     conv=>lhs;unfold eu
     rw [if_neg h0]]
   exact ih.2
theorem Ztu{a b:List Int}{n s K:Nat}(hab:b.length≤a.length)(ha:Tr a)(na:Sz n a)(nb:Sz n b)(hs:a.length+b.length≤2^s)(hK:s+1+n≤K)(hN:Zn1 a.length b.length K) :
  ∀(f:Nat) (x y:List Int),Inv a b x y→Tr x→Tr y→(y=[]∨Yk y=1)→Pi x≤K*(a.length+b.length-2*x.length+2)→y.length≤f→cok f x y∧∀p∈Ng f x y,Pi p≤K*(a.length+b.length)∧p.length≤a.length
 | 0,x,y,hI,hx,hy,hp,hm,hl=>by
  have hxl:=hI.yl
  have hxl2:=hI.xl
  have h0:y=[]:=List.eq_nil_of_length_eq_zero O
  refine⟨h0,fun p hp=>?_⟩
  have:p=x:=by unfold Ng at hp;simpa using hp
  rw [this]
  exact⟨Nat.le_trans hm (Nat.mul_le_mul_left _ O),O⟩
 | f+1,x,y,hI,hx,hy,hp,hm,hl=>by
  have hyl:=hI.yl
  have hxl:=hI.xl
  by_cases h0:y=[]
  ·subst h0
   refine⟨.inl rfl,fun p hp=>?_⟩
   rw [Eu]at hp
   have:p=x:=by simpa using hp
   rw [this]
   exact⟨Nat.le_trans hm (Nat.mul_le_mul_left _ O),O⟩
  ·have l0:=List.length_pos_iff.2 h0
   have hb:=hI.bound hab ha hx hy h0 (hp.resolve_left h0) na nb (s:=s) O
   have hb2:Pi y≤K*(a.length+b.length-2*x.length+2):=Nat.le_trans hb (Nat.mul_le_mul_right _ hK)
   have hd:=Zd5 h0 hyl hm hb2 (hN x.length hxl)
   obtain⟨i1,i2⟩:=Zvv hI hab hx hy h0
   have ih:=Ztu hab ha na nb hs hK hN f y (Oj x y) i1 hy (Zad hx) i2 (Nat.le_trans hb2 (Zo7 O)) (by have:=Fx hx h0;omega)
   refine⟨.inr ⟨hd,O,ih.1⟩,fun p hp=>?_⟩
   unfold Ng at hp
   rw [if_neg h0]at hp
   rcases List.mem_cons.1 hp with rfl | hp
   ·exact⟨Nat.le_trans hm (Nat.mul_le_mul_left _ O),O⟩
   ·exact ih.2 p hp
theorem Ydh{a b:List Int}{n s K f:Nat}(hab:b.length<a.length)(ha:Tr a)(hb:Tr b)(na:Sz n a)(nb:Sz n b)(hs:a.length+b.length≤2^s)(hK:s+1+n≤K)(hN:Zn1 a.length b.length K)(hd:(a.length+1)*(n+1)≤65536)(hf:b.length≤f) :
  eok f a b∧Pi (eu f a b)≤K*(a.length+b.length):=by
 have ma:=Pj na
 have mb:=Pj nb
 have la:0<a.length:=O
 have hKn:n≤K*(a.length+b.length):=Nat.le_trans (by omega:n≤K*1) (Nat.mul_le_mul_left _ O)
 by_cases h0:b=[]
 ·subst h0
  cases f with
  | zero=>exact⟨rfl,by rw [Ze1];omega⟩
  | succ f=>exact⟨.inl rfl,by rw [Ze1];omega⟩
 ·have l0:=List.length_pos_iff.2 h0
  obtain⟨g,rfl⟩:∃g,f=g+1:=⟨f-1,O⟩
  have ht:=Ll (q:=b) ha
  obtain⟨k,q,hq⟩:=Cp a h0
  have hL:=Mj (hb.mem h0) k
  generalize cf b (b.length-1)^k=L at hq hL
  have he:∀t:Rat,(L:Rat)*Zb a t=Zb q t*Zb b t+Zb (Xx a b) t:=fun t=>by
   have:=Gv (a:=L) (c:=-1) (x:=a) (s:=q) (y:=b) (z:=Xx a b) (fun t=>by rw [hq t];omega) t
   push_cast at this;grind
  have hI:Inv a b b (Zz (Xx a b)):=Inv.first O ha hb h0 hL he (Qd ht).symm (by rw [Zq];exact Qs a h0)
  have ih:=Zs9 O ha na nb hs hK hN g b (Zz (Xx a b)) hI hb (Yy ht) (Zdo ht) (Nat.le_trans (by omega:Pi b≤K*1) (Nat.mul_le_mul_left _ O)) (by rw [Zq];have:=Qs a h0;omega)
  refine⟨.inr ⟨Zd5 h0 hab ma mb hd,ih.1⟩,?_⟩
  rw [show eu (g+1) a b=eu g b (Zz (Xx a b)) by
    conv=>lhs;unfold eu
    rw [if_neg h0]]
  exact ih.2
theorem Ydu{a b:List Int}{n s K f:Nat}(hab:b.length<a.length)(ha:Tr a)(hb:Tr b)(na:Sz n a)(nb:Sz n b)(hs:a.length+b.length≤2^s)(hK:s+1+n≤K)(hN:Zn1 a.length b.length K)(hd:(a.length+1)*(n+1)≤65536)(hf:b.length≤f) :
  cok f a b∧∀p∈Ng f a b,Pi p≤K*(a.length+b.length)∧p.length≤a.length:=by
 have ma:=Pj na
 have mb:=Pj nb
 have la:0<a.length:=O
 have hKn:n≤K*(a.length+b.length):=Nat.le_trans (by omega:n≤K*1) (Nat.mul_le_mul_left _ O)
 by_cases h0:b=[]
 ·subst h0
  have hall:∀p∈Ng f a [],Pi p≤K*(a.length+([]:List Int).length)∧p.length≤a.length:=fun p hp=>by
   rw [Eu]at hp
   have:p=a:=by simpa using hp
   rw [this];exact⟨O,Nat.le_refl _⟩
  cases f with
  | zero=>exact⟨rfl,hall⟩
  | succ f=>exact⟨.inl rfl,hall⟩
 ·have l0:=List.length_pos_iff.2 h0
  obtain⟨g,rfl⟩:∃g,f=g+1:=⟨f-1,O⟩
  obtain⟨r1,r2,k,u,hk⟩:=Zdi hb h0 a.length a ha O
  have hs':=Zek (f:=a.length) ha hb h0 O O
  have htn:Tr (Zcj (Cl a.length a b)):=Pl _ _
  have hKK:Bu b^k≠0:=Mj (by have:=Zdl hb h0;omega) _
  have hI:Inv a b b (Oj a b):=by
   refine Inv.first (z':=Cl a.length a b) (q:=u) O ha hb h0 hKK (fun t=>?_) ?_ (Fx ha h0)
   ·have:=Gv (a:=Bu b^k) (c:=-1) (x:=a) (s:=u) (y:=b) (z:=Cl a.length a b) (fun t=>by rw [hk t];omega) t
    push_cast at this ⊢;grind
   ·rw [←hs']
    exact Sim.trans ⟨1,-1,O3,O3,fun i=>by rw [Gz];omega⟩ (Qd htn).symm
  have hp:Oj a b=[]∨Yk (Oj a b)=1:=by rw [←hs'];exact Zdo htn
  have ih:=Ztu O ha na nb hs hK hN g b (Oj a b) hI hb (Zad ha) hp (Nat.le_trans (by omega:Pi b≤K*1) (Nat.mul_le_mul_left _ O)) (by have:=Fx ha h0;omega)
  refine⟨.inr ⟨Zd5 h0 hab ma mb hd,O,ih.1⟩,fun p hp=>?_⟩
  unfold Ng at hp
  rw [if_neg h0]at hp
  rcases List.mem_cons.1 hp with rfl | hp
  ·exact⟨O,Nat.le_refl _⟩
  ·exact ih.2 p hp
def kkR(R:Nat):Nat→Nat
 | 0=>0
 | d+1=>2*(R+1)*kkR R d+1
theorem Zzi(R:Nat):∀d,kkR R d≤kkR R (d+1)
 | 0=>Nat.zero_le _
 | d+1=>by
  have h:=Zzi R d
  show 2*(R+1)*kkR R d+1≤2*(R+1)*kkR R (d+1)+1
  exact Nat.succ_le_succ (Nat.mul_le_mul_left _ h)
theorem Zzh(R:Nat){d e:Nat}(h:d≤e):kkR R d≤kkR R e:=by
 induction e with
 | zero=>rw [show d=0 by omega];exact Nat.le_refl _
 | succ e ih=>
  rcases Nat.lt_or_ge d (e+1)with h1 | h1
  ·exact Nat.le_trans (ih O) (Zzi R e)
  ·rw [show d=e+1 by omega];exact Nat.le_refl _
theorem Zs4(R:Nat):∀(d:Nat) (u:List Int) (T:List Int) (B:Nat),u.length≤d→T.length=d→T.Nodup→(∀t∈T,t.natAbs≤R)→(∀t∈T,(Dh u t).natAbs≤B)→∀i,(cf u i).natAbs≤kkR R d*B
 | 0,u,T,B,hu,_,_,_,_,i=>by rw [Yd O];exact Nat.zero_le _
 | d+1,u,[],B,_,hT,_,_,_,_=>by simp at hT
 | d+1,u,t :: T,B,hu,hT,hd,hr,hB,i=>by
  have hl:=Zco u t
  have ht:=hr t (List.mem_cons_self ..)
  have hb:=hB t (List.mem_cons_self ..)
  have ih:=Zs4 R d (sdv u t) T (2*B) O (by simpa using hT) (List.nodup_cons.1 hd).2 (fun x hx=>hr x (List.mem_cons_of_mem _ hx)) fun x hx=>by
   have h1:=Zlu u t x
   have h2:=hB x (List.mem_cons_of_mem _ hx)
   have hne:x≠t:=fun e=>(List.nodup_cons.1 hd).1 (e▸hx)
   have h3:((x-t)*Dh (sdv u t) x).natAbs≤2*B:=O
   rw [Int.natAbs_mul]at h3
   have h4:1*(Dh (sdv u t) x).natAbs≤(x-t).natAbs*(Dh (sdv u t) x).natAbs:=Nat.mul_le_mul_right _ O
   omega
  have hk:kkR R (d+1)*B=R*(kkR R d*(2*B))+kkR R d*(2*B)+B:=by
   show(2*(R+1)*kkR R d+1)*B=_
   grind
  have hmul:∀x:Int,x.natAbs≤kkR R d*(2*B)→(t*x).natAbs≤R*(kkR R d*(2*B)):=fun x hx=>by
   rw [Int.natAbs_mul];exact Nat.mul_le_mul O hx
  rw [hk]
  cases i with
  | zero=>
   rw [Zt2 u t]
   have:=hmul _ (ih 0)
   omega
  | succ i=>
   rw [Zq2 u t]
   have h1:=ih i
   have h2:=hmul _ (ih (i+1))
   omega
theorem Zjx(R:Nat):∀(n:Nat) (s:List Int) (A:Nat) (t:Int),s.length≤n→(∀c∈s,c.natAbs≤A)→0≤t→t≤(R:Int)→(Dh s t).natAbs≤A*((R+1)^n)
 | n,[],A,t,_,_,_,_=>by simp [Dh]
 | 0,c :: s,A,t,h,_,_,_=>by simp at h
 | n+1,c :: s,A,t,h,hc,h0,h1=>by
  have ih:=Zjx R n s A t (by simpa using h) (fun x hx=>hc x (List.mem_cons_of_mem _ hx)) h0 h1
  have h2:=hc c (List.mem_cons_self ..)
  have h3:(t*Dh s t).natAbs≤R*(A*(R+1)^n):=by rw [Int.natAbs_mul];exact Nat.mul_le_mul O ih
  show(c+t*Dh s t).natAbs≤A*(R+1)^(n+1)
  have h4:A*(R+1)^(n+1)=R*(A*(R+1)^n)+A*(R+1)^n:=by rw [Nat.pow_succ];grind
  have h5:A*1≤A*(R+1)^n:=Nat.mul_le_mul_left _ (Nat.pow_pos O)
  omega
theorem Ah{s u v:List Int}{n L R e:Nat}(hu:Tr u)(hv:Tr v)(hs:Sz n s)(h0:s≠[])(hts:Tr s)(hl:s.length≤L)(hR:2*L≤R+2)(he:kkR R L*(R+1)^L<2^e)(h:s=Xl u v):Sz (n+e) u:=by
 have hne:u≠[]∧v≠[]:=by
  refine⟨fun e=>h0 ?_,fun e=>h0 ?_⟩
  ·rw [h,e,Ix]
  ·rw [h,e,Zck]
 have hlen:=Po hu hv hne.1 hne.2
 rw [←h]at hlen
 have lu:=List.length_pos_iff.2 hne.1
 have lv:=List.length_pos_iff.2 hne.2
 have hz:∃i,cf s i≠0:=⟨_,hts.mem h0⟩
 generalize hP:(List.range (R+1)).map (fun n:Nat=>(n:Int))=pts
 have hnp:pts.Nodup:=by
  rw [←hP]
  refine List.Pairwise.map _ (fun a b hab=>?_) List.nodup_range
  intro e;exact hab (by exact_mod_cast e)
 have h1:=Zh3 (fun t=>decide (Dh s t≠0)) pts
 have h2:=Zg5 s.length s (pts.filter fun t=>!decide (Dh s t≠0)) rfl hz (hnp.filter _) fun t ht=>by
  have:=(List.mem_filter.1 ht).2
  simpa using this
 have h3:pts.length=R+1:=by rw [←hP];simp
 generalize hT:pts.filter (fun t=>decide (Dh s t≠0))=T at h1
 have hTl:s.length≤T.length:=O
 have hTm:∀t∈T.take u.length,t∈pts∧Dh s t≠0:=fun t ht=>by
  have:=List.mem_of_mem_take ht
  rw [←hT,List.mem_filter]at this
  exact⟨this.1,by simpa using this.2⟩
 have hr:∀t∈T.take u.length,0≤t∧t≤(R:Int):=fun t ht=>by
  have:=(hTm t ht).1
  rw [←hP]at this
  obtain⟨k,hk,rfl⟩:=List.mem_map.1 this
  have:=List.mem_range.1 hk
  omega
 have hA:∀c∈s,c.natAbs≤2^n:=fun c hc=>Nat.le_of_lt ((Xt n _).1 (hs.mem hc))
 have hk:=Zs4 R u.length u (T.take u.length) (2^n*(R+1)^L) (Nat.le_refl _) (by rw [List.length_take];omega) ((hT▸hnp.filter _:T.Nodup).sublist (List.take_sublist _ _)) (fun t ht=>by have:=hr t ht;omega) fun t ht=>by
  have hb:=Zjx R L s (2^n) t hl hA (hr t ht).1 (hr t ht).2
  have he:Dh s t=Dh u t*Dh v t:=by
   rw [Zh5,Zh5,Zh5,h,Zye hu hv hne.1 hne.2]
  have hnz:=(hTm t ht).2
  have hd:Dh u t∣Dh s t:=⟨_,he⟩
  exact Nat.le_trans (Nat.le_of_dvd O (Int.natAbs_dvd_natAbs.2 hd)) hb
 intro i
 rw [Xt]
 refine Nat.lt_of_le_of_lt (hk i) ?_
 have hkk:=Zzh R (show u.length≤L by omega)
 rw [Nat.pow_add,Nat.mul_comm (kkR R u.length),Nat.mul_assoc]
 refine Nat.mul_lt_mul_of_pos_left ?_ (Nat.pow_pos O3)
 rw [Nat.mul_comm]
 exact Nat.lt_of_le_of_lt (Nat.mul_le_mul_right _ hkk) he
theorem num13{la lb K:Nat}(h1:la≤13)(h2:lb+1=la)(hK:K≤600):Zn1 la lb K:=fun l hl=>by
 have h3:∀l,l≤12→(l+1)*(600*(27-2*l)+1)≤65536:=O3
 refine Nat.le_trans (Nat.mul_le_mul_left _ (Nat.succ_le_succ (Nat.mul_le_mul hK O))) (h3 l O)
theorem chH{xs:List Int}{n:Nat}(F:Nat)(hx:Tr xs)(h0:xs≠[])(hs:Sz n xs)(hn:n≤350)(hl:xs.length≤13)(hb:(xs.length+2)*(xs.length+2)*(n+13)≤65536)(hF:xs.length≤F+1) :
  Di F xs∧Sz (n+130) (sqf F xs)∧(sqf F xs).length≤xs.length∧∀p∈Aw F xs,Pi p≤(n+141)*25∧p.length≤xs.length:=by
 have hnn:=Zpq hs
 have hln:=Qq hx
 have ht:Tr (Xb xs):=Oy (Yy hx)
 have hd:=Ep hnn O
 have hld:=Oa (Xb xs)
 have htd:Tr (Yh (Xb xs)):=Oh ht
 have m1:=Pj hnn
 have m2:=Pj hd
 have l0:=List.length_pos_iff.2 h0
 have hgA:gA (Xb xs) (Yh (Xb xs))=Zz (Xb xs):=if_neg O
 have hgB:gB (Xb xs) (Yh (Xb xs))=Zz (Yh (Xb xs)):=if_neg O
 have hok:eok F (gA (Xb xs) (Yh (Xb xs))) (gB (Xb xs) (Yh (Xb xs))):=by
  rw [hgA,hgB]
  refine(Ydh (n:=n+5) (s:=5) (K:=n+11) (by rw [Zq,Zq];omega) (Yy ht) (Yy htd) (Fc (hnn.mono O)) (Fc hd) ?_ O ?_ ?_ ?_).1
  ·rw [Zq,Zq];omega
  ·rw [Zq,Zq];exact num13 O O O
  ·rw [Zq]
   exact Nat.le_trans (Nat.mul_le_mul (show(Xb xs).length+1≤14 by omega) (show n+5+1≤400 by omega)) O3
  ·rw [Zq];omega
 obtain⟨f1,f2,f3,f4,f5,f6⟩:=Oi (F:=F) hx h0 hok
 have hg:=Zc8 (F:=F) ht htd
 have hn0:=Zhh hx h0
 have hK:kkR 24 13*(24+1)^13<2^130:=O7
 have hq:=Ah (L:=13) (R:=24) f2 hg hnn hn0 ht O O3 hK f4
 have hgs:=Ah (L:=13) (R:=24) hg f2 hnn hn0 ht O O3 hK (by rw [Zbl];exact f4)
 have hlq:=Po f2 hg f3 f5
 rw [←f4]at hlq
 have lg:=List.length_pos_iff.2 f5
 have lq:=List.length_pos_iff.2 f3
 have mg:=Pj hgs
 have hql:(sqf F xs).length≤xs.length:=O
 have hqd:=Ep hq O
 have hlqd:=Oa (sqf F xs)
 have hc:=Ydu (a:=sqf F xs) (b:=Zz (Yh (sqf F xs))) (n:=n+130+5) (s:=5) (K:=n+141) (f:=F) (by rw [Zq];omega) f2 (Yy (Oh f2)) (hq.mono O) (Fc hqd) (by rw [Zq];omega) O (by rw [Zq];exact num13 O O O) (Nat.le_trans (Nat.mul_le_mul (show(sqf F xs).length+1≤14 by omega) (show n+130+5+1≤500 by omega)) O3) (by rw [Zq];omega)
 refine⟨⟨⟨fun i _=>Nat.le_trans (Zqv hnn O i) O,?_,hok,?_,f1⟩,fun i _=>Nat.le_trans (Zqv hq O i) O,hc.1⟩,hq,hql,fun p hp=>?_⟩
 ·intro h
  have h3:(max (Xb xs).length (Yh (Xb xs)).length+2)*(max (Xb xs).length (Yh (Xb xs)).length+2)*(max (Pi (Xb xs)) (Pi (Yh (Xb xs)))+8)≤(xs.length+2)*(xs.length+2)*(n+13):=Nat.mul_le_mul (Nat.mul_le_mul O O) O
  have:=h.2.2
  omega
 ·unfold Ea
  rw [if_neg O]
  split
  ·rfl
  ·have:((Xb xs).length-(Na F (Xb xs) (Yh (Xb xs))).length+1)*(Pi (Na F (Xb xs) (Yh (Xb xs)))+1)≤14*500:=Nat.mul_le_mul O O
   rw [if_neg O]
 ·obtain⟨a1,a2⟩:=hc.2 p hp
  refine⟨Nat.le_trans a1 (Nat.mul_le_mul_left _ ?_),O⟩
  rw [Zq];omega
theorem chG{xs:List Int}{n:Nat}(F:Nat)(hx:Tr xs)(h0:xs≠[])(hs:Sz n xs)(hn:n≤350)(hl:xs.length≤11)(hF:xs.length≤F+1) :
  Di F xs∧Sz (n+130) (sqf F xs)∧(sqf F xs).length≤xs.length∧∀p∈Aw F xs,Pi p≤(n+141)*25∧p.length≤xs.length:=
 chH F hx h0 hs hn O (Nat.le_trans (Nat.mul_le_mul (Nat.mul_le_mul (show _≤13 by omega) (show _≤13 by omega)) (show _≤363 by omega)) O3) hF
end Go.Sky

