/- The law: part 23. No conditions but those that each theorem names. -/
import Derived.Test.YtlnoheikolgejaaGreatLc21
set_option linter.all false
set_option maxHeartbeats 4000000
namespace Go.Sky
def GdB(ap:ApF)(l:List Nat):Prop:=∀i,i<l.length->∀k,k<i->(ap k (l.getD k 0) i (l.getD i 0)).1=true
def VdB(a l:List Nat):Prop:=l.length=a.length/\∀i,i<a.length->l.getD i 0<a.getD i 0
def GeB(l a:List Nat)(b:Nat):Prop:=(∃j,j<a.length/\(∀i,i<j->l.getD i 0=a.getD i 0)/\a.getD j 0<l.getD j 0)\/((∀i,i<a.length->l.getD i 0=a.getD i 0)/\b<=l.getD a.length 0)
def InB(ap:ApF)(b a:List Nat)(c:Nat):Prop:=∀l,VdB b l->GdB ap l->GeB l a c
structure ChG (ap:ApF) (ns ch:List Nat):Prop where
 le:ch.length<=ns.length
 v:∀j,j<ch.length->ch.getD j 0<ns.getD j 0
 g:GdB ap ch
def LxL(l m:List Nat):Prop:=m=l\/∃j,j<l.length/\(∀i,i<j->m.getD i 0=l.getD i 0)/\l.getD j 0<m.getD j 0
def RsB(ap:ApF)(b:List Nat)(R:RnT):Prop:=
 (∃l,R=(l,1,0)/\VdB b l/\GdB ap l/\∀m,VdB b m->GdB ap m->LxL l m)\/(R=([],2,0)/\∀m,VdB b m->¬GdB ap m)\/∃e,R=([],0,e)/\(e=0\/∃a i c k,e=(ap a i c k).2)
section
variable {ap:ApF} {ns ch:List Nat} {f nx bd n i:Nat}
theorem gdA{l:List Nat}{a j:Nat}(h:j<l.length):(l ++ [a]).getD j 0=l.getD j 0:=by rw [aK,eD h,<-aK]
def gdL{l:List Nat}{a:Nat} : (l ++ [a]).getD l.length 0=a:=O5
theorem Zsd:∀(l:List Nat) (a:Nat),(Gu ap n i l a).1=true↔∀k,k<l.length->(ap (a+k) (l.getD k 0) n i).1=true
 | [],a=>⟨λ_ k c=>absurd c (aR k),λ_=>rfl⟩
 | x::r,a=>by
  have d:=Zsd r (a+1);unfold Gu;by_cases h:(ap a x n i).1=true
  .rw [aP h,d];refine⟨λb k c=>?_,λb k c=>?_⟩
   .cases k with
    | zero=>exact h
    | succ k=>
     have:=b k (by simpa using c);rw [gM,fY 1 k]at this;simpa using this
   .have:=b (k+1) (by simpa using c);rw [gM,fY 1 k];simpa using this
  .rw [aJ h];refine⟨λb=>absurd b O5,λb=>absurd (b 0 (jI _)) h⟩
theorem Ycj:∀(l:List Nat) (a:Nat),(Gu ap n i l a).2=0\/∃b j c k,(Gu ap n i l a).2=(ap b j c k).2
 | [],a=> .inl rfl
 | x::r,a=>by
  unfold Gu;split
  .exact Ycj r (a+1)
  .exact .inr ⟨a,x,n,i,rfl⟩
def in_00:InB ap ns [] 0:=λl _ _=> .inr ⟨λi h=>absurd h (aR i),aX _⟩
theorem Yr1(h:InB ap ns ch nx):InB ap ns (ch ++ [nx]) 0:=λl k g=>by
 rcases h l k g with⟨j,e,a,c⟩|⟨a,c⟩
 .exact .inl ⟨j,by rw [aO];exact mL e,λi hi=>(a i hi).trans (gdA (fI hi e)).symm,by rw [gdA e];exact c⟩
 .rcases eI c with d|d
  .exact .inl ⟨ch.length,by rw [aO];exact eX _,λi hi=>(a i hi).trans (gdA hi).symm,by rw [gdL];exact d⟩
  .refine .inr ⟨λi hi=>?_,aX _⟩;rw [aO]at hi;rcases aN.1 hi with b|b
   .exact(a i b).trans (gdA b).symm
   .subst b;rw [gdL];exact d.symm
theorem Yr2(j:ch.length<ns.length)(m:¬(Gu ap ch.length nx ch 0).1=true)(h:InB ap ns ch nx):InB ap ns ch (nx+1):=λl e c=>by
 rcases h l e c with a|⟨a,g⟩
 .exact .inl a
 .rcases eI g with b|b
  .exact .inr ⟨a,b⟩
  .refine absurd ((Zsd ch 0).2 λk d=>?_) m;have:=c ch.length (by rw [e.1];exact j) k d;rw [a k d,<-b]at this;rw [cD];exact this
theorem in_pop{l:Nat}(g:(ch ++ [l]).length<ns.length)(o:¬nx<ns.getD (ch ++ [l]).length 0)(h:InB ap ns (ch ++ [l]) nx):InB ap ns ch (l+1):=λm e k=>by
 rcases h m e k with⟨j,d,c,a⟩|⟨c,a⟩
 .rw [aO]at d;rcases aN.1 d with b|b
  .exact .inl ⟨j,b,λi hi=>(c i hi).trans (gdA (fI hi b)),by rw [gdA b]at a;exact a⟩
  .subst b;rw [gdL]at a;exact .inr ⟨λi hi=>(c i hi).trans (gdA hi),a⟩
 .have:=e.2 _ g;omega
theorem Ytn(h:ChG ap ns ch)(e:ch.length<ns.length)(d:nx<ns.getD ch.length 0)(g:(Gu ap ch.length nx ch 0).1=true):ChG ap ns (ch ++ [nx]):=by
 refine⟨by rw [aO];exact e,λj c=>?_,λi hi k b=>?_⟩
 .rw [aO]at c;rcases aN.1 c with a|a
  .rw [gdA a];exact h.v j a
  .subst a;rw [gdL];exact d
 .rw [aO]at hi;rcases aN.1 hi with a|a
  .rw [gdA a,gdA (fI b a)];exact h.g i a k b
  .subst a;rw [gdL,gdA b];have:=(Zsd ch 0).1 g k b;rwa [cD]at this
theorem ch_pop{l:Nat}(h:ChG ap ns (ch ++ [l])):ChG ap ns ch:=by
 have c:(ch ++ [l]).length=ch.length+1:=aO;refine⟨by have:=h.le;omega,λj b=>?_,λi hi k a=>?_⟩
 .have:=h.v j O;rwa [gdA b]at this
 .have:=h.g i O k a;rwa [gdA hi,gdA (fI a hi)]at this
theorem Yfu{l m:List Nat}(h:l.length=m.length)(b:∀i,i<m.length->l.getD i 0=m.getD i 0):l=m:=by refine iG h λi c a=>?_;have:=b i a;rwa [aK,aK,aL c,aL a]at this
theorem dfs:∀(f:Nat) (ch:List Nat) (nx bd:Nat),2*bd+ch.length+1<=f->ChG ap ns ch->InB ap ns ch nx->RsB ap ns (rnF ap ns f ch nx bd)
 | 0,_,_,_,h,_,_=>absurd h O
 | f+1,ch,nx,bd,t,d,g=>by
  by_cases a:ch.length<ns.length
  .by_cases b:nx<ns.getD ch.length 0
   .cases bd with
    | zero=>rw [Zx7 a b];exact .inr (.inr ⟨0,rfl,.inl rfl⟩)
    | succ bd=>
     by_cases o:(Gu ap ch.length nx ch 0).1=true
     .rw [Zki a b o];exact dfs f _ _ _ (by rw [aO];simp only [bX,cK];omega) (Ytn d a b o) (Yr1 g)
     .by_cases p:(Gu ap ch.length nx ch 0).2=0
      .rw [Zkk a b (by simpa using o) p];exact dfs f _ _ _ O d (Yr2 a o g)
      .rw [Zqw a b p];exact .inr (.inr ⟨_,rfl,(Ycj ch 0).resolve_left p |> .inr⟩)
   .rcases gN ch with rfl|⟨c,l,rfl⟩
    .rw [Zkj a b];refine .inr (.inl ⟨rfl,λm k q=>?_⟩);rcases g m k q with⟨j,r,_⟩|⟨_,e⟩
     .exact absurd r (aR j)
     .have:=k.2 0 a;exact b (aV e this)
    .simp only [lA]at *;rw [Zqv a b];exact dfs f _ _ _ (by rw [aO]at t;simp only [bX,cK]at t;omega) (ch_pop d) (in_pop a b g)
  .rw [Zkm a];have s:ch.length=ns.length:=gF d.le (Nat.not_lt.1 a);refine .inl ⟨ch,rfl,⟨s,λi hi=>d.v i O⟩,d.g,λm k q=>?_⟩;rcases g m k q with⟨j,r,e,u⟩|⟨e,_⟩
   .exact .inr ⟨j,r,e,u⟩
   .exact .inl (Yfu (k.1.trans s.symm) e)
def Yqj{ap:ApF}{ns:List Nat}{bd:Nat}:RsB ap ns (rnA ap ns bd):=
 dfs _ _ _ _ O5 ⟨aX _,λj h=>absurd h (aR j),λi h=>absurd h (aR i)⟩ in_00
theorem Zkl:∀(f:Nat) (ch:List Nat) (nx bd j a:Nat),2*bd+ch.length+1<=f->2*a+ch.length+1<=j->bd<=a->(rnF ap ns f ch nx bd).2≠(0,0)->rnF ap ns j ch nx a=rnF ap ns f ch nx bd
 | 0,_,_,_,_,_,h,_,_,_=>absurd h O
 | f+1,ch,nx,bd,j,a,s,q,r,e=>by
  obtain⟨g,rfl⟩:∃g,j=g+1:=⟨j-1,O⟩;by_cases b:ch.length<ns.length
  .by_cases d:nx<ns.getD ch.length 0
   .cases bd with
    | zero=>rw [Zx7 b d]at e;exact absurd rfl e
    | succ bd=>
     obtain⟨o,rfl⟩:∃o,a=o+1:=⟨a-1,O⟩;by_cases m:(Gu ap ch.length nx ch 0).1=true
     .rw [Zki b d m]at e ⊢;rw [Zki b d m];have p:(ch ++ [nx]).length=ch.length+1:=aO;exact Zkl f _ _ _ _ _ O O O e
     .by_cases k:(Gu ap ch.length nx ch 0).2=0
      .rw [Zkk b d (by simpa using m) k]at e ⊢;rw [Zkk b d (by simpa using m) k];exact Zkl f _ _ _ _ _ O O O e
      .rw [Zqw b d k,Zqw b d k]
   .rcases gN ch with rfl|⟨c,l,rfl⟩
    .rw [Zkj b d,Zkj b d]
    .simp only [lA]at *;rw [Zqv b d]at e ⊢;rw [Zqv b d];have p:(c ++ [l]).length=c.length+1:=aO;exact Zkl f _ _ _ _ _ O O O e
  .rw [Zkm b,Zkm b]
def Yi5{b a:Nat}(h:b<=a)(c:(rnA ap ns b).2≠(0,0)):rnA ap ns a=rnA ap ns b:=Zkl _ _ _ _ _ _ O5 O5 h c
end
def dgN(n c:Nat):List Nat:=if n=0 then []else if n=1 then [c%3]else if n=2 then [c/3%3,c%3]else [c/9%3,c/3%3,c%3]
def p3(n:Nat):Nat:=if n=0 then 1 else if n=1 then 3 else if n=2 then 9 else 27
def vlN(l:List Nat):Nat:=l.foldl (λa d=>3*a+d) 0
def tlN(n c i:Nat):List Nat:=(dgN n c).take i ++ List.replicate (n-i) 0
def n3{n:Nat}(h:n<=3):n=0\/n=1\/n=2\/n=3:=O
theorem Zi6{n c:Nat}(h:n<=3):(dgN n c).length=n:=by rcases n3 h with rfl|rfl|rfl|rfl<;>rfl
theorem dg_0{n:Nat}(h:n<=3):dgN n 0=List.replicate n 0:=by rcases n3 h with rfl|rfl|rfl|rfl<;>rfl
theorem dg_le(n c i:Nat):(dgN n c).getD i 0<=2:=by
 unfold dgN;split
 .simp
 .split
  .rcases i with _|i<;>simp;omega
  .split
   .rcases i with _|_|i<;>simp<;>omega
   .rcases i with _|_|_|i<;>simp<;>omega
theorem tl_n{n c:Nat}(h:n<=3):tlN n c n=dgN n c:=by unfold tlN;rw [fZ,bR (by rw [Zi6 h];exact aF _)];simp
theorem tl_len{n c i:Nat}(h:n<=3)(hi:i<=n):(tlN n c i).length=n:=by unfold tlN;rw [aO,cQ,Zi6 h,aU];omega
def Yg9:∀n:Fin 4,∀c:Fin 27,∀i:Fin 4,1<=i.val->i.val<=n.val->(tlN n.val c.val i.val).getD (i.val-1) 0=(dgN n.val c.val).getD (i.val-1) 0/\(tlN n.val c.val i.val).set (i.val-1) 0=tlN n.val c.val (i.val-1)/\
  (c.val<p3 n.val->(∀k:Fin 4,i.val<=k.val->k.val<n.val->(dgN n.val c.val).getD k.val 0=2)->(dgN n.val c.val).getD (i.val-1) 0<2->c.val+1<p3 n.val/\(tlN n.val c.val i.val).set (i.val-1) ((dgN n.val c.val).getD (i.val-1) 0+1)=dgN n.val (c.val+1)):=O7
def tl_end:∀n:Fin 4,∀c:Fin 27,c.val<p3 n.val->(∀k:Fin 4,k.val<n.val->(dgN n.val c.val).getD k.val 0=2)->c.val+1=p3 n.val:=O7
theorem Zvh(n:Nat):p3 n<=27/\1<=p3 n:=by unfold p3;split;decide;split;decide;split<;>decide
section
variable {n c i:Nat} (hn:n<=3) (hc:c<p3 n)
include hn hc
theorem Yg8(a:1<=i)(hi:i<=n):(tlN n c i).getD (i-1) 0=(dgN n c).getD (i-1) 0/\(tlN n c i).set (i-1) 0=tlN n c (i-1):=
 have h:=Yg9 ⟨n,O⟩ ⟨c,by have:=(Zvh n).1;omega⟩ ⟨i,O⟩ a hi
 ⟨h.1,h.2.1⟩
theorem tl_inc(a:1<=i)(hi:i<=n)(e:∀k,i<=k->k<n->(dgN n c).getD k 0=2)(g:(dgN n c).getD (i-1) 0<2):c+1<p3 n/\(tlN n c i).set (i-1) ((dgN n c).getD (i-1) 0+1)=dgN n (c+1):=
 (Yg9 ⟨n,O⟩ ⟨c,by have:=(Zvh n).1;omega⟩ ⟨i,O⟩ a hi).2.2 hc (λk b d=>e k.val b d) g
theorem tl_fin(a:∀k,0<=k->k<n->(dgN n c).getD k 0=2):c+1=p3 n:=
 tl_end ⟨n,O⟩ ⟨c,by have:=(Zvh n).1;omega⟩ hc λk h=>a k.val (aX _) h
end
def vl_dg:∀n:Fin 4,∀c:Fin 27,c.val<p3 n.val->vlN (dgN n.val c.val)=c.val:=O7
theorem vl_le{l m:List Nat}(hn:l.length<=3)(v:m.length=l.length)(k:∀i,l.getD i 0<=2)(d:∀i,m.getD i 0<=2)(h:LxL l m):vlN l<=vlN m:=by
 rcases h with rfl|⟨j,p,o,e⟩
 .exact aF _
 .match l,m,v with
  | [],[],_=>exact absurd p (aR j)
  | [a],[x],_=>
   obtain rfl:j=0:=by simpa using p
   simp [vlN]at e ⊢;omega
  | [a,b],[x,y],_=>
   have q:=k 0;have r:=k 1;have s:=d 0;have t:=d 1;simp at q r s t p;rcases(show j=0\/j=1 by omega)with rfl|rfl
   .simp [vlN]at e ⊢;omega
   .have g:=o 0 O3;simp at g;simp [vlN]at e ⊢;omega
  | [a,b,c],[x,y,z],_=>
   have q:=k 0;have r:=k 1;have w:=k 2;have s:=d 0;have t:=d 1;have B:=d 2;simp at q r w s t B p;rcases(show j=0\/j=1\/j=2 by omega)with rfl|rfl|rfl
   .simp [vlN]at e ⊢;omega
   .have g:=o 0 O3;simp at g;simp [vlN]at e ⊢;omega
   .have g:=o 0 O3;have u:=o 1 O3;simp at g u;simp [vlN]at e ⊢;omega
  | _::_::_::_::_,_,_=>exact absurd hn O5
theorem vl_lt{l:List Nat}(hn:l.length<=3)(d:∀i,l.getD i 0<=2):vlN l<p3 l.length/\dgN l.length (vlN l)=l:=by
 match l with
 | []=>exact⟨O3,rfl⟩
 | [a]=>have e:=d 0;simp at e;simp [vlN,p3,dgN];omega
 | [a,b]=>have e:=d 0;have g:=d 1;simp at e g;simp [vlN,p3,dgN];omega
 | [a,b,c]=>have e:=d 0;have g:=d 1;have h:=d 2;simp at e g h;simp [vlN,p3,dgN];omega
 | _::_::_::_::_=>exact absurd hn O5
end Go.Sky
namespace Go.Sky
def Zwg(a:List PPT):Bool:=decide (a.length<=5) && a.all λx=>Zbl 4 3 x.2
section
variable {ls:List PPT} {z:ZnT} {bd b2:Int} {i c:Nat} {R:RnT}
theorem Yse(hi:i<ls.length)(h:Zbl 4 3 (ls.getD i Ou).2=false):Zwg ls=false:=by
 have:(ls.all λx=>Zbl 4 3 x.2)=false:=kA.2 λa=>by rw [bK.1 a _ (Zd hi)]at h;cases h
 unfold Zwg;rw [this,Bool.and_false]
theorem Ymi(h:∀j,j<i->Zbl 4 3 (ls.getD j Ou).2=true)(hi:¬(i<ls.length/\i<6))(e:i<=ls.length):Zwg ls=decide (ls.length<=5):=by
 unfold Zwg;by_cases a:ls.length<=5
 .have:(ls.all λx=>Zbl 4 3 x.2)=true:=by rw [bK];intro x d;obtain⟨j,b,rfl⟩:=dW d;have:=h j O;rwa [aK,aL b]at this
  rw [this,Bool.and_true]
 .rw [aE a];rfl
theorem Zy4(h:Zwg ls=true):∀x∈ls,∀y∈x.2,y.2.length<=5:=λx b y d=>by unfold Zwg at h;simp only [aY]at h;have a:=(Yck (bK.1 h.2 x b)).2 y d;have:=few_le a;omega
theorem apA_7(z:ZnT)(p q:List Zv):(apA z p q).2=0\/(apA z p q).2=7:=by
 unfold apA Bi Dk;split
 .exact .inl rfl
 .split<;>split<;>try split
  all_goals first|exact .inl rfl|exact .inr rfl|(split<;>first|exact .inl rfl|exact .inr rfl)|simp_all
theorem lh_lg(b:∀j,j<ls.length->(ls.getD j Ou).2.length<=3):(ls.any λx=>decide (64<x.2.length))=false:=by refine iU.2 λx d=>?_;obtain⟨j,a,rfl⟩:=dW d;have:=b j a;rw [aK,aL a]at this;simp only [dI];simp at this;omega
def lh_r(b:∀j,j<ls.length->Fc (ls.getD j Ou).2=true)(a:∀j,j<ls.length->(ls.getD j Ou).2.length<=3)(e:ls.length<=3)(d:okZ z bd=true):chR ls z bd=rnA (Ae ls z) (Bd ls) bd.toNat:=
 chR_r (Zs2 b) d (lh_lg a) O
theorem lh_R(d:∀j,j<ls.length->Fc (ls.getD j Ou).2=true)(a:∀j,j<ls.length->(ls.getD j Ou).2.length<=3)(b:ls.length<=3)(e:okZ z bd=true):RsB (Ae ls z) (Bd ls) (chR ls z bd):=by rw [lh_r d a b e];exact Yqj
theorem lh_m(f:∀j,j<ls.length->Fc (ls.getD j Ou).2=true)(b:∀j,j<ls.length->(ls.getD j Ou).2.length<=3)(d:ls.length<=3)(g:okZ z bd=true)(a:okZ z b2=true)(h:bd<=b2)(e:(chR ls z bd).2≠(0,0)):chR ls z b2=chR ls z bd:=by rw [lh_r f b d g]at e ⊢;rw [lh_r f b d a];exact Yi5 O e
def lh_O(b:∀x∈ls,∀y∈x.2,∀g∈y.2,Gin g)(d:Zwg ls=true)(e:∀j,j<ls.length->Fc (ls.getD j Ou).2=true)(a:∀j,j<ls.length->(ls.getD j Ou).2.length<=3)(f:okZ z bd=true):OkL ls z:=
 ok_L b (Zy4 d) (Zs2 e) f (lh_lg a)
theorem rs_e(h:RsB (Ae ls z) (Bd ls) R)(b:R.2.2≠0):R.2.2=7/\R.2≠(0,0):=by
 refine⟨?_,λh=>b (by rw [h])⟩;rcases h with⟨l,rfl,_⟩|⟨rfl,_⟩|⟨e,rfl,d|⟨a,i,c,k,d⟩⟩
 .exact absurd rfl b
 .exact absurd rfl b
 .exact absurd d b
 .dsimp only at b ⊢;have:=apA_7 z (opt ls a i) (opt ls c k);rw [d]at b ⊢;exact this.resolve_left b
theorem rs_0(h:RsB (Ae ls z) (Bd ls) R)(a:R.2.1=0):R.1=[]:=by
 rcases h with⟨l,rfl,_⟩|⟨rfl,_⟩|⟨e,rfl,_⟩
 .exact absurd a Int.one_ne_zero
 .rfl
 .rfl
theorem Yqb(h:RsB (Ae ls z) (Bd ls) R)(a:R.2.1=1):VdB (Bd ls) R.1/\GdB (Ae ls z) R.1/\∀m,VdB (Bd ls) m->GdB (Ae ls z) m->LxL R.1 m:=by
 rcases h with⟨l,rfl,h⟩|⟨rfl,_⟩|⟨e,rfl,_⟩
 .exact h
 .exact absurd a O3
 .exact absurd a Int.zero_ne_one
theorem rs_n(h:RsB (Ae ls z) (Bd ls) R)(a:R.2.1≠0)(b:R.2.1≠1):R.2.1=2/\R.1=[]/\∀m,VdB (Bd ls) m->¬GdB (Ae ls z) m:=by
 rcases h with⟨l,rfl,h⟩|⟨rfl,h⟩|⟨e,rfl,_⟩
 .exact absurd rfl b
 .exact⟨rfl,rfl,h⟩
 .exact absurd rfl a
theorem Zxq(b:ls.length<=3):VdB (Bd ls) (dgN ls.length c)↔∀j,j<ls.length->(dgN ls.length c).getD j 0<(ls.getD j Ou).2.length:=by
 unfold VdB;rw [Bh,Zi6 b];constructor
 .intro h j a;have:=h.2 j a;rwa [Zmr]at this
 .intro h;exact⟨rfl,λj a=>by rw [Zmr];exact h j a⟩
def Ygr(ls:List PPT)(R:RnT)(c:Nat):Prop:=R.2.1=1->c<=vlN R.1
theorem Yiu(b:∀j,j<ls.length->(ls.getD j Ou).2.length<=3){m:List Nat}(h:VdB (Bd ls) m)(i:Nat):m.getD i 0<=2:=by
 by_cases hi:i<ls.length
 .have a:=h.2 i (by rw [Bh];exact hi);rw [Zmr]at a;have:=b i hi;omega
 .rw [aK,bJ (by rw [h.1,Bh];omega)];exact aX _
theorem Zx5(f:ls.length<=3)(d:∀j,j<ls.length->(ls.getD j Ou).2.length<=3)(h:RsB (Ae ls z) (Bd ls) R)(b:R.2.1=1):vlN R.1<p3 ls.length/\dgN ls.length (vlN R.1)=R.1:=by have a:=(Yqb h b).1;have e:R.1.length=ls.length:=a.1.trans (Bh ls);have:=vl_lt O (Yiu d a);rwa [e]at this
theorem Yiv(k:ls.length<=3)(e:∀j,j<ls.length->(ls.getD j Ou).2.length<=3)(n:c<p3 ls.length)(h:RsB (Ae ls z) (Bd ls) R)(l:R.2.1≠0)(p:Ygr ls R c)(g:VdB (Bd ls) (dgN ls.length c))(b:R.2.1=1->dgN ls.length c≠R.1):¬GdB (Ae ls z) (dgN ls.length c):=λf=>by
 by_cases a:R.2.1=1
 .have d:=Yqb h a;have o:R.1.length=ls.length:=d.1.1.trans (Bh ls);have q:=vl_le O (by rw [Zi6 k,o]) (Yiu e d.1) (λi=>dg_le _ _ i) (d.2.2 _ g f);have m:=vl_dg ⟨ls.length,O⟩ ⟨c,by have:=(Zvh ls.length).1;omega⟩ n;dsimp only at m;have r:=p a;have:c=vlN R.1:=O;refine b a ?_;rw [this];exact(Zx5 k e h a).2
 .exact(rs_n h l a).2.2 _ g f
theorem Zrb(g:ls.length<=3)(f:∀j,j<ls.length->(ls.getD j Ou).2.length<=3)(h:RsB (Ae ls z) (Bd ls) R)(k:Ygr ls R c)(d:R.2.1=1->dgN ls.length c≠R.1):Ygr ls R (c+1):=λa=>by
 have e:=k a;rcases eI e with b|b
 .exact b
 .refine absurd ?_ (d a);rw [b];exact(Zx5 g f h a).2
def prev_v(h:RsB (Ae ls z) (Bd ls) R)(b:¬VdB (Bd ls) (dgN ls.length c)):R.2.1=1->dgN ls.length c≠R.1:=λa d=>b (d▸(Yqb h a).1)
theorem Yj2(e:ls.length<=3)(d:∀j,j<ls.length->(ls.getD j Ou).2.length<=3)(h:RsB (Ae ls z) (Bd ls) R)(b:R.2.1≠0)(f:Ygr ls R (c+1))(g:c+1=p3 ls.length):R.2.1=2/\R.1=[]:=by
 have a:R.2.1≠1:=λa=>by have:=f a;have:=(Zx5 e d h a).1;omega
 exact⟨(rs_n h b a).1,(rs_n h b a).2.1⟩
def dg_2{n c i:Nat}(h:2<=(dgN n c).getD i 0):(dgN n c).getD i 0=2:=gF (dg_le n c i) h
theorem nI_inj{l m:List Nat}(h:nI l=nI m):l=m:=by exact(List.map_inj_right λa b h=>Int.ofNat.inj h).1 h
theorem Yk1{l:List Nat}{i:Nat}(v:Nat):(nI l).set i (v:Int)=nI (l.set i v):=by unfold nI;rw [List.map_set]
theorem nI_rep{n:Nat}:List.replicate n (0:Int)=nI (List.replicate n 0):=by unfold nI;rw [List.map_replicate];rfl
end
end Go.Sky
namespace Go.Sky
section
variable {ls:List PPT} {ap:ApF} {i c k:Nat} {vb:Bool} {r:Bool×Int} {l:List Nat}
def OkC(ls:List PPT)(l:List Nat)(i:Nat):Prop:=∀j,j<i->l.getD j 0<(ls.getD j Ou).2.length
theorem vb_t(h:vb=true↔OkC ls l i)(e:vb=true):decide (((l.getD i 0:Nat):Int)<(((ls.getD i Ou).2.length:Nat):Int))=true↔OkC ls l (i+1):=by
 rw [iP];refine⟨λa j d=>?_,λa=>?_⟩
 .rcases aN.1 d with b|rfl
  .exact h.1 e j b
  .omega
 .have:=a i (eX i);omega
theorem vb_f(h:vb=true↔OkC ls l i)(d:vb=false):false=true↔OkC ls l (i+1):=
 ⟨λa=>absurd a dU,λa=>by have:=h.2 λj b=>a j (mL b);rw [d]at this;cases this⟩
def GdR(ap:ApF)(l:List Nat)(r:Bool×Int):Prop:=(r.1=true/\GdB ap l)\/(r.1=false/\(r.2=0->¬GdB ap l))
def good_t(h:GdR ap l r)(a:r.2=0)(b:GdB ap l):r.1=true:=h.elim And.left λh=>absurd b (h.2 a)
def Yl3(h:GdR ap l r)(a:¬GdB ap l):r.1=false:=h.elim (λh=>absurd h.2 a) And.left
def GdI(ap:ApF)(l:List Nat)(i:Nat):Prop:=∀a,a<i->∀k,k<a->(ap k (l.getD k 0) a (l.getD a 0)).1=true
def GdK(ap:ApF)(l:List Nat)(i j:Nat):Prop:=∀k,k<j->(ap k (l.getD k 0) i (l.getD i 0)).1=true
theorem gdI_s(h:GdI ap l i)(b:GdK ap l i i):GdI ap l (i+1):=λa e=>by
 rcases aN.1 e with d|rfl
 .exact h a d
 .exact b
theorem gdK_s(h:GdK ap l i k)(b:(ap k (l.getD k 0) i (l.getD i 0)).1=true):GdK ap l i (k+1):=λa e=>by
 rcases aN.1 e with d|rfl
 .exact h a d
 .exact b
def gd_yes(h:GdI ap l l.length):GdR ap l (true,0):= .inl ⟨rfl,h⟩
def gd_no(hi:i<l.length)(d:k<i)(h:¬((ap k (l.getD k 0) i (l.getD i 0)).2=0/\(ap k (l.getD k 0) i (l.getD i 0)).1=true)):GdR ap l (false,(ap k (l.getD k 0) i (l.getD i 0)).2):=
 .inr ⟨rfl,λa b=>h ⟨a,b i hi k d⟩⟩
end
end Go.Sky
namespace Go.Sky
open Go.Proofs.Tryz
open Go.Proofs
set_option synthInstance.maxHeartbeats 0
set_option synthInstance.maxSize 100000
set_option maxRecDepth 20000
set_option linter.unusedSimpArgs false
variable{v:Value}
theorem Yjs(d:List PT)(m k:Nat)(o:m<=1000):Xp prog 67 #[v,.int .i64 (m:Int),.int .i64 (k:Int)] [Xv 1 Zdi qP v d] (.bool (Zbl m k d)):=by
 refine Zg func67 ntmps67 λr q p c=>?_;refine Xz (Oa (i:=1) J Zc) λn=>go 12 ?_;refine lp (G:=Nat) [0,1,2] [0,1] (λi=>[(7,.int .i64 (i:Int))]) (λi=>[]) (λi=>(i<=d.length)/\(∀j,j<i->Zi4 (pth d j) k=true)) (λi=>d.length-i) 0 ⟨O1,λj h=>absurd h (aR j)⟩ K1 aA ?_;rintro i ⟨hi,l⟩;refine go 8<|Zy 12 J (λf=>?_) (λf=>?_)
 .refine go 6<|Ze J (λe=>?_) (λe=>?_)
  .refine go 5<|Zf (Po 1 55 (d.getD i PT0) J J (Zd O) J)<|go 3 ?_;refine dt (Zs 1 i J J J J Zc Zgc Ztm J)<|dt (Yr 1 PT0 J J J Zc pPq)<|go 1 ?_;refine cl 1 [55] (Yqt k) λ_ _=>go 3<|Pe J (λa=>?_) (λa=>?_)
   .have b:=a;refine go 11 ?_;exact Yp c () results67 (by rw [Ysd (Zd O) (Fa b)]) aA Za
   .have b:=a;refine go 8 ⟨O,?_⟩;exact Ye (i+1) ⟨O1,λj h=>by rcases aN.1 h with g|g;exact l j g;subst g;exact Ks b⟩ O1 K1 aA
  .refine go 15 ?_;exact Yp c () results67 (by rw [Ymg l O O];exact vB (bB.2 O)) aA Za
 .refine go 22 ?_;exact Yp c () results67 (by rw [Ymg l O O];exact vB (bB.2 O)) aA Za
theorem Yjp(b:List PT)(n:∀x∈b,∀g∈x.2,Gin g):Xp prog 18 #[v] [Xv 1 Zdi qP v b] (.bool (Fc b)):=by
 refine Zg func18 ntmps18 λq p o e=>?_;refine Xz (Oa (i:=1) J Zc) λl=>go 12 ?_;refine lp (G:=Nat) [0] [0,1] (λi=>[(3,.int .i64 (i:Int))]) (λi=>[]) (λi=>(i<=b.length)/\(∀j,j<i->Qg (pth b j)=true)) (λi=>b.length-i) 0 ⟨O1,λj h=>absurd h (aR j)⟩ K1 aA ?_;rintro i ⟨hi,m⟩;refine go 9<|Ze J (λd=>?_) (λd=>?_)
 .refine go 5<|Zf (Po 1 55 (b.getD i PT0) J J (Zd O) J)<|go 3 ?_;refine dt (Zs 1 i J J J J Zc Zgc Ztm J)<|dt (Yr 1 PT0 J J J Zc pPq)<|cl 1 [55] (Zoo (n _ (Zd O))) λ_ _=>go 3 ?_;refine Pe J (λa=>?_) (λa=>?_)
  .have c:=a;refine go 11 ?_;exact Yp e () results18 (by rw [Zz8 (Zd O) (Fa c)]) aA Za
  .have c:=a;refine go 8 ⟨O,?_⟩;exact Ye (i+1) ⟨O1,λj h=>by rcases aN.1 h with f|f;exact m j f;subst f;exact Ks c⟩ O1 K1 aA
 .obtain rfl:i=b.length:=O;refine go 11 ?_;exact Yp e () results18 (by rw [Ztu (aF _) (λk h _=>m k h)]) aA Za
theorem Yrx(d:List PPT):Xp prog 17 #[v] [Xv 1 Zbn qPP v d] (.bool (Zwg d)):=by
 refine Zg func17 ntmps17 λo n m c=>?_;refine Xz (Oa (i:=1) J Zc) λl=>go 12 ?_;refine lp (G:=Nat) [0] [0,1] (λi=>[(3,.int .i64 (i:Int))]) (λi=>[]) (λi=>(i<=d.length)/\(∀j,j<i->Zbl 4 3 (d.getD j Ou).2=true)) (λi=>d.length-i) 0 ⟨O1,λj h=>absurd h (aR j)⟩ K1 aA ?_;rintro i ⟨hi,g⟩;refine go 8<|Zy 8 J (λk=>?_) (λk=>?_)
 .refine go 5<|Ze J (λe=>?_) (λe=>?_)
  .refine go 5<|Zf (Po 1 41 (d.getD i Ou) J J (Zd O) J)<|go 3 ?_;refine dt (Zs 1 i J J J J Zc Zll Zof J)<|dt (Yr 1 Ou J J J Zc pPPq)<|cl 1 [41] (Yjs (d.getD i Ou).2 4 3 O3) λ_ _=>go 3 ?_;refine Pe J (λa=>?_) (λa=>?_)
   .have b:=a;refine go 11 ?_;exact Yp c () results17 (by rw [Yse O (Fa b)]) aA Za
   .have b:=a;refine go 8 ⟨O,?_⟩;exact Ye (i+1) ⟨O1,λj h=>by rcases aN.1 h with f|f;exact g j f;subst f;exact Ks b⟩ O1 K1 aA
  .refine go 14 ?_;exact Yp c () results17 (by rw [Ymi g O O];exact vB (bB.2 O)) aA Za
 .refine go 20 ?_;exact Yp c () results17 (by rw [Ymi g O O];exact vB (bB.2 O)) aA Za
theorem Yjl{u:Value}(a:List PPT)(l:List Nat)(m f p o:Int)(t:OkL a (m,f,p,o))(r:l.length=a.length)(s:OkC a l a.length):Cal prog 22 #[v,u,.int .i64 m,.agg #[.int .i64 f,.int .i64 p,.int .i64 o]] [Xv 1 Zbn qPP v a,Yl 1 Zz u (nI l)] false (G:=Bool×Int) (λg=>GdR (Ae a (m,f,p,o)) l g) (λg=> .tuple #[.bool g.1,.int .i64 g.2]) (λg=>[]):=by
 refine Zg func22 ntmps22 λW V S q=>?_;refine Xz (Oa (i:=1) J Zc) (λM=>?_);have D:=Fs l;refine go 2<|Yj (Yg 3) λQ _=>go 11 ?_;refine lp (G:=Nat) [0,1,2,7] [0,1,2,3] (λi=>[(10,.int .i64 (i:Int))]) (λi=>[]) (λi=>(i<=a.length)/\(GdI (Ae a (m,f,p,o)) l i)) (λi=>a.length-i) 0 ⟨O1,λj h=>absurd h (aR j)⟩ K1 aA ?_;rintro i ⟨hi,H⟩;refine go 5 ?_;refine dt (Xf ( .int .i64 (a.length:Int)) (Yc3 J J (i:=2) J Zl Qi) (aD (λn:Nat=>Value.int .i64 (n:Int)) (D.trans r)))<|go 3 ?_;refine Ze J (λz=>?_) (λz=>?_)
 .refine go 10 ?_;refine lp (G:=Nat) [0,1,2,7,10] [0,1,2,3] (λk=>[(11,.int .i64 (k:Int))]) (λk=>[]) (λk=>(k<=i)/\(GdK (Ae a (m,f,p,o)) l i k)) (λk=>i-k) 0 ⟨O1,λj h=>absurd h (aR j)⟩ K1 aA ?_;rintro k ⟨R,I⟩;refine go 8<|Ze J (λB=>?_) (λB=>?_)
  .refine go 5 ?_;have d:k<a.length:=O;have c:i<a.length:=O;have w:=s k d;have x:=s i c;refine Zf (Po 1 41 (a.getD k Ou) J J (Zd d) J)<|Zf (Po 1 42 (a.getD i Ou) J J (Zd c) J)<|Zf (Po 41 51 ((a.getD k Ou).2.getD (l.getD k 0) PT0) J J (Zd w) J)<|Zf (Po 42 52 ((a.getD i Ou).2.getD (l.getD i 0) PT0) J J (Zd x) J) ?_;have N:=t.at d w;have P:=t.at c x;refine Qa (λ_=>False) [(0,0),(1,0),(2,0),(3,0),(4,0),(5,0),(6,0),(7,0),(8,0),(9,0),(10,0),(11,0),(12,0),(13,0),(14,0),(15,0),(16,0),(17,0),(18,0),(19,0),(20,0),(21,0),(22,1),(23,0),(24,0),(25,0),(26,0),(27,3)]<|go 2 ?_;refine Yz J J (Xn (Zs 1 k J J J J Zc Zll Zof J d))<|Yz J J (Xn (Yr 1 Ou J J J Zc pPPq d))<|go 2 ?_;refine Yz J J (Xn (Zs 2 k J J J J Zl Qi Lm J (by rw [Fs];omega)))<|Yz J J (Xn (Xf ( .int .i64 ((l.getD k 0:Nat):Int)) (Yr 2 0 J J J Zl pZ (by rw [Fs];omega)) (aD (Value.int .i64) (Zce l k))))<|Yz J J (Xn (Zs 41 (l.getD k 0) J J J J Zc Zgc Ztm J w))<|Yz J J (Xn (Yr 41 PT0 J J J Zc pPq w))<|go 2 ?_;refine Yz J J (Xn (Zs 1 i J J J J Zc Zll Zof J c))<|Yz J J (Xn (Yr 1 Ou J J J Zc pPPq c))<|go 2 ?_;refine Yz J J (Xn (Zs 2 i J J J J Zl Qi Lm J (by rw [Fs];omega)))<|Yz J J (Xn (Xf ( .int .i64 ((l.getD i 0:Nat):Int)) (Yr 2 0 J J J Zl pZ (by rw [Fs];omega)) (aD (Value.int .i64) (Zce l i))))<|Yz J J (Xn (Zs 42 (l.getD i 0) J J J J Zc Zgc Ztm J x))<|Yz J J (Xn (Yr 42 PT0 J J J Zc pPq x))<|go 2 ?_;refine Yq (Zo 3 [51,52] (Ye4 (opt a k (l.getD k 0)) (opt a i (l.getD i 0)) m f p o N P t.d t.z)) λ_ _=>go 12<|Zy 53 J (λe=>?_) (λe=>?_)
   .have F:=e;refine go 23 ?_;exact Nd q (false,(Ae a (m,f,p,o) k (l.getD k 0) i (l.getD i 0)).2) results22 J (gd_no O O (λh=>F h.1)) Za
   .have F:=dN.1 e;refine go 5<|Pe J (λb=>?_) (λb=>?_)
    .have y:=b;refine go 17 ?_;exact Nd q (false,(Ae a (m,f,p,o) k (l.getD k 0) i (l.getD i 0)).2) results22 J (gd_no O O (λh=>dU ((Fa y).symm.trans h.2))) Za
    .have y:=b;refine go 8 ⟨O,?_⟩;exact Ye (k+1) ⟨O1,gdK_s I (Ks y)⟩ O1 K1 aA
  .obtain rfl:i=k:=O;refine go 11 ⟨O,?_⟩;exact Ye (i+1) ⟨O1,gdI_s H I⟩ O1 K1 aA
 .obtain rfl:i=a.length:=O;refine go 12 ?_;exact Nd q (true,0) results22 J (gd_yes (r▸H)) Za
theorem Yrt(v:Value)(a:List PPT)(o m r p s mo:Int)(hP:∀x∈a,∀y∈x.2,∀g∈y.2,Gin g):Cal prog 4 #[v,.int .i64 o,.agg #[.int .i64 m,.int .i64 r,.int .i64 p],.int .i64 s,.int .i64 mo] [Xv 1 Zbn qPP v a] true (G:=Unit) (λ_=>True) (λ_=> .bool true) (λ_=>[]):=by
 refine Zg func4 ntmps4 λw0 sc hw d=>?_;refine Xz (Oa (i:=1) J Zc) λc4=>go 2 ?_;refine Yj (Yg 2) λbx _=>go 7 ?_;refine cl 2 [1] (Yrx a) λ_ _=>go 2<|Ly 27 J (λZ=>?_) (λZ=>?_)
 .refine go 17 ?_;refine cl 2 [] Lq λ_ _=>go 5 ?_;exact Yp d () results4 J aA Za
 .have a3:=Ks Z;refine go 5<|Zy 32 J (λP=>?_) (λP=>?_)
  .refine go 12 ?_;refine cl 2 [] Lq λ_ _=>go 5 ?_;exact Yp d () results4 J aA Za
  .refine go 4<|Zy 36 J (λQ=>?_) (λQ=>?_)
   .refine go 8 ?_;refine cl 2 [] Lq λ_ _=>go 5 ?_;exact Yp d () results4 J aA Za
   .refine go 5<|Ze J (λa6=>?_) (λa6=>?_)
    .refine go 2 ?_;refine cl 2 [] Lq λ_ _=>go 5 ?_;exact Yp d () results4 J aA Za
    .have b:a.length<=3:=O;refine go 9 ?_;refine lp (G:=Nat) [0,1,3,4,7] [0,1,2] (λi=>[(11,.int .i64 (i:Int))]) (λi=>[]) (λi=>(i<=a.length)/\(∀j,j<i->(a.getD j Ou).2.length<=3)/\(∀j,j<i->Fc (a.getD j Ou).2=true)) (λi=>a.length-i) 0 ⟨O1,λj h=>absurd h (aR j),λj h=>absurd h (aR j)⟩ K1 aA ?_;rintro i ⟨hi,D,hv⟩;refine go 9<|Ze J (λa7=>?_) (λa7=>?_)
     .refine go 5<|Zf (Po 1 41 (a.getD i Ou) J J (Zd O) J)<|go 3 ?_;refine dt (Zs 1 i J J J J Zc Zll Zof J)<|dt (Yr 1 Ou J J J Zc pPPq)<|go 3 ?_;refine Zy 53 J (λb4=>?_) (λb4=>?_)
      .refine go 12 ?_;refine cl 2 [] Lq λ_ _=>go 9 ?_;exact Yp d () results4 J aA Za
      .refine go 2 ?_;refine Di (Zs 1 i J J J J Zc Zll Zof J) J J<|Di (Yr 1 Ou J J J Zc pPPq) J J<|Gi 2 [41] (Yjp (a.getD i Ou).2 (hP _ (Zd O))) λ_ _=>go 4 ?_;refine Pe J (λl=>?_) (λl=>?_)
       .refine go 2 ?_;refine cl 2 [] Lq λ_ _=>go 9 ?_;exact Yp d () results4 J aA Za
       .have l:=l;refine go 8 ⟨O,?_⟩;exact Ye (i+1) ⟨O1,λj h=>by rcases aN.1 h with h9|h9;exact D j h9;subst h9;omega,λj h=>by rcases aN.1 h with h9|h9;exact hv j h9;subst h9;exact Ks l⟩ O1 K1 aA
     .obtain rfl:i=a.length:=O;refine go 11 ?_;refine cl 2 [] (Zph o m r p s) λ_ _=>go 1<|Ly 66 J (λa0=>?_) (λa0=>?_)
      .refine go 12 ?_;refine cl 2 [] Lq λ_ _=>go 5 ?_;exact Yp d () results4 J aA Za
      .have I:=Ks a0;have c3:=Ykm I;refine go 5 ⟨O,?_⟩;refine Gi 2 [] (Zph o m r p (s+mo)) λ_ _=>go 3<|Pe J (λR=>?_) (λR=>?_)
       .refine go 2 ?_;refine cl 2 [] Lq λ_ _=>go 5 ?_;exact Yp d () results4 J aA Za
       .have b3:=Ks R;refine go 8 ?_;refine cl 3 [1] (Ziy a o m r p s hP (Zy4 a3)) λrc _=>?_;refine go 17 ⟨O,?_⟩;refine cl 4 [1] (Ziy a o m r p (s+mo) hP (Zy4 a3)) λc2 _=>go 11 ?_;have N:=lh_R hv D b I;refine go 5<|Ze J (λt=>?_) (λt=>?_)
        .have h7:=rs_e N t;have F:=lh_m hv D b I b3 O h7.2;refine go 3<|kt (aH h7.1)<|go 1<|kt (aH (by rw [F];exact h7.1)) ?_;refine dt (dT (d_eqb J J J underlying4) J)<|go 2 ?_;refine ktg (aH h7.1)<|go 2 ?_;refine Gi 4 [] Lq λ_ _=>go 6 ?_;exact Yp d () results4 J aA Za
        .have b6:=dN.1 t;refine go 3 ?_;refine jn (G:=Unit) [0,1,7,12,13] [0,1,2,3,4] (λ_=>[(125,.bool false)]) (λ_=>[]) (λ_=>True) ?_ ?_
         .refine go 4<|Zy 111 J (λa1=>?_) (λa1=>?_)
          .have ho:=a1;have F:=lh_m hv D b I b3 O (λh=>ho (by rw [h]));refine go 1<|kfg (aE (λh=>h (by rw [F];exact b6)))<|go 3<|kfg (aE (λh=>h (by rw [F])))<|go 4 ?_;refine Gi 4 [3,4] (Zb6 _) λ_ _=>?_;refine Di (dF (Qn J J) (vB (by rw [F];simp))) J J<|go 3 ?_;exact Od () aA K1 aA
          .refine go 15 ?_;exact Od () aA K1 aA
         .rintro _ -;refine go 10<|Ze J (λu=>?_) (λu=>?_)
          .have b9:=u;refine go 4<|kt (aH (by rw [rs_0 N b9];rfl))<|go 1 ?_;refine Gi 4 [] Lq λ_ _=>go 6 ?_;exact Yp d () results4 J aA Za
          .have ho:=u;have hO:=lh_O hP a3 hv D I;refine go 6 ?_;refine tt (Il 70 a.length 8 (enc:=Zz) 0 J J J J Qi ti3 J pZ.cells pZ.pos J J J hw.h J J) J λv _=>go 4 ?_;refine lp (G:=Nat×Value) [0,1,7,12,13] [0,1,2,3,4] (λq=>[(18,q.2)]) (λq=>[(70,Oe 1 3 Zz q.2 (nI (dgN a.length q.1)))]) (λq=>(q.1<p3 a.length)/\(Ygr a (chR a (o,m,r,p) s) q.1)) (λq=>p3 a.length-q.1) (0,_) ⟨(Zvh _).2,λ_=>aX _⟩ ⟨J,aA⟩ ⟨(aD (λx=>some (Oe 1 3 Zz _ x)) (by rw [dg_0 b];exact nI_rep)),aA⟩ ?_;rintro⟨c,vo⟩ ⟨V,hp⟩;dsimp only at V hp;dsimp only;have a2:(nI (dgN a.length c)).length=a.length:=(Fs _).trans (Zi6 b);refine go 13 ?_;refine lp (G:=Nat×Bool) [0,1,7,12,13,18] [0,70,1,2,3,4] (λq=>[(20,.int .i64 (q.1:Int)),(19,.bool q.2)]) (λq=>[]) (λq=>(q.1<=a.length)/\(q.2=true↔OkC a (dgN a.length c) q.1)) (λq=>a.length-q.1) (0,true) ⟨O1,⟨λ_ j h=>absurd h (aR j),λ_=>rfl⟩⟩ K2 aA ?_;rintro⟨i,vb⟩ ⟨hi,H⟩;dsimp only at hi H;dsimp only;refine go 9<|Ze J (λa8=>?_) (λa8=>?_)
           .refine go 4 ?_;rcases Bool.eq_false_or_eq_true vb with b2|b1
            .refine Zf (Po 1 41 (a.getD i Ou) J J (Zd O) J)<|Qa (λ_=>False) [(0,0),(1,0),(2,0),(3,0),(4,0),(5,0),(6,0),(7,0),(8,0),(9,0),(10,0),(11,0),(12,0),(13,3)]<|Yz J J (Xn (dT (Zdm J J) (vB b2)))<|go 3 ?_;refine r0g (Xn (Zs 70 i J J J J (Yb pZ) Qi Lm J (by rw [a2];omega))) J J J J J<|r0g (Xn (Xf ( .int .i64 (((dgN a.length c).getD i 0:Nat):Int)) (Yr 70 0 J J J (Yb pZ) pZ (by rw [a2];omega)) (aD (Value.int .i64) ((Zce _ _).trans J)))) J J J J J<|go 2<|r0g (Xn (Zs 1 i J J J J Zc Zll Zof J)) J J J J J<|r0g (Xn (Yr 1 Ou J J J Zc pPPq)) J J J J J<|go 12 ⟨O,?_⟩;exact Ye (i+1,decide ((((dgN a.length c).getD i 0:Nat):Int)<(((a.getD i Ou).2.length:Nat):Int))) ⟨O1,vb_t H b2⟩ O1 K2 aA
            .refine Zf (Po 1 41 (a.getD i Ou) J J (Zd O) J)<|Qa (λ_=>False) [(0,0),(1,0),(2,2),(3,2),(4,2),(5,2),(6,2),(7,2),(8,2),(9,2),(10,2),(11,2),(12,0),(13,3)]<|Yz J J (Xn (dF (Zdm J J) (vB b1)))<|go 21 ⟨O,?_⟩;exact Ye (i+1,false) ⟨O1,vb_f H b1⟩ O1 K2 aA
           .obtain rfl:i=a.length:=O;refine go 5 ?_;refine jn (G:=Unit) [0,1,7,12,13,18] [0,70,1,2,3,4] (λ_=>[]) (λ_=>[]) (λ_=>Ygr a (chR a (o,m,r,p) s) (c+1)) ?_ ?_
            .refine go 5<|Pe J (λw=>?_) (λw=>?_)
             .have hV:=(Zxq b).2 (H.1 w);refine go 6 ?_;refine cl 4 [1,70] (Yjl a (dgN a.length c) o m r p hO (Zi6 b) ((Zxq b).1 hV)) λgr a5=>go 14<|Ze J (λS=>?_) (λS=>?_)
              .refine go 2 ?_;refine cl 4 [] Lq λ_ _=>go 9 ?_;exact Yp d () results4 J aA Za
              .have b7:=dN.1 S;refine go 8<|Zy 170 J (λM=>?_) (λM=>?_)
               .have c0:=M;refine go 2 ?_;refine Gi 4 [70,3] (Zb6 _) λ_ _=>go 3<|Pe J (λB=>?_) (λB=>?_)
                .have c1:=nI_inj (bW B);have b8:=good_t a5 b7 (c1▸(Yqb N c0).2.1);refine go 2<|kt b8<|go 1 ?_;refine Gi 4 [] Lq λ_ _=>go 10 ?_;exact Yp d () results4 J aA Za
                .have f:(chR a (o,m,r,p) s).2.1=1->(dgN a.length c)≠(chR a (o,m,r,p) s).1:=λ_ h=>absurd (aD nI h) (iQ B);refine go 3 ?_;have a4:=Yl3 a5 (Yiv b D V N ho hp hV f);refine go 1<|kf a4<|go 4 ?_;exact Od () ((Zrb b D N hp f)) aA aA
               .have f:(chR a (o,m,r,p) s).2.1=1->(dgN a.length c)≠(chR a (o,m,r,p) s).1:=λh=>absurd h M;refine go 10 ?_;have a4:=Yl3 a5 (Yiv b D V N ho hp hV f);refine go 1<|kf a4<|go 4 ?_;exact Od () ((Zrb b D N hp f)) aA aA
             .have f:=prev_v N (λh=>absurd (H.2 ((Zxq b).1 h)) (by rw [w];decide));refine go 1 ?_;exact Od () ((Zrb b D N hp f)) aA aA
            .rintro _ b0;refine go 3 ?_;refine dt (Xf ( .int .i64 (a.length:Int)) (Yc3 J J (i:=70) J (Yb pZ) Qi) (aD (λn:Nat=>Value.int .i64 (n:Int)) a2))<|go 6 ⟨O,?_⟩;refine lp (G:=Nat) [0,1,7,12,13,18] [0,1,2,3,4] (λi=>[(23,.int .i64 ((i:Int)-1))]) (λi=>[(70,Oe 1 3 Zz vo (nI (tlN a.length c i)))]) (λi=>(i<=a.length)/\(∀k,i<=k->k<a.length->(dgN a.length c).getD k 0=2)) (λi=>i) a.length ⟨aF _,λk h1 h2=>absurd h2 (Nat.not_lt.2 h1)⟩ K1 ⟨(aD (λx=>some (Oe 1 3 Zz vo x)) (by rw [tl_n b])),aA⟩ ?_;rintro i ⟨hi,ha⟩;have e:(nI (tlN a.length c i)).length=a.length:=(Fs _).trans (tl_len b hi);refine go 6<|Zy 185 J (λb5=>?_) (λb5=>?_)
             .refine go 2 ?_;refine Di (Zs 70 (i-1) J J J J (Yb pZ) Qi Lm O (by rw [e];omega)) J J<|Di (Xf ( .int .i64 (((dgN a.length c).getD (i-1) 0:Nat):Int)) (Yr 70 0 J J J (Yb pZ) pZ (by rw [e];omega)) (aD (Value.int .i64) ((Zce _ _).trans (aD _ (Yg8 b V O hi).1)))) J J<|go 4 ?_;refine Ze J (λa9=>?_) (λa9=>?_)
              .refine go 7 ?_;refine dt (Zs 70 (i-1) J J J J (Yb pZ) Qi Lm O (by rw [e];omega))<|tt (Ln 70 (enc:=Zz) (z:=(0:Int)) J J J J J J pZ J hw.h O3 (by rw [e];omega)) J (λ_ _=>?_);refine go 8 ⟨O,?_⟩;exact Ye (i-1) ⟨O1,(λk h1 h2=>by rcases bA k i with h8|h8;exact(show k=i-1 by omega)▸dg_2 O;exact ha k h8 h2)⟩ O1 ⟨(aD (λx=>some (Value.int .i64 x)) (show _=_ by omega)),aA⟩ ⟨(aD (λx=>some (Oe 1 3 Zz vo x)) ((Yk1 0).trans (aD nI (Yg8 b V O hi).2))),aA⟩
              .refine go 9<|kf (aE O)<|go 5 ?_;have Y:=tl_inc b V O hi ha O;refine go 3 ?_;refine dt (Zs 70 (i-1) J J J J (Yb pZ) Qi Lm O (by rw [e];omega))<|dt (Xf ( .int .i64 (((dgN a.length c).getD (i-1) 0:Nat):Int)) (Yr 70 0 J J J (Yb pZ) pZ (by rw [e];omega)) (aD (Value.int .i64) ((Zce _ _).trans (aD _ (Yg8 b V O hi).1))))<|go 1 ⟨O,?_⟩;refine dt (Zs 70 (i-1) J J J J (Yb pZ) Qi Lm O (by rw [e];omega))<|tt (Ln 70 (enc:=Zz) (z:=((((dgN a.length c).getD (i-1) 0+1:Nat)):Int)) J J J J J J pZ J hw.h O3 (by rw [e];omega)) J λ_ _=>go 2 ?_;exact Ye (c+1,_) ⟨Y.1,b0⟩ O9 K1 ⟨aD (λx=>some (Oe 1 3 Zz _ x)) ((Yk1 _).trans (aD nI Y.2)),aA⟩
             .refine go 18<|kt (aH O)<|go 4 ?_;have W:=Yj2 b D N ho b0 (tl_fin b V (λk _ h2=>ha k O h2));refine go 2<|kt (aH W.1)<|go 3<|ktg (aH (by rw [W.2];rfl))<|go 2 ?_;refine Gi 4 [] Lq λ_ _=>go 9 ?_;exact Yp d () results4 J aA Za
open Go.ChangeShapes Go.WideShapes Go.ChangeAt Go.RowKit Go.Joins Go.Deep
variable {P:Program} {W:World} {H:Type} {enc:TypeId×Value->H}
theorem Yfg {t0 t ti ts e:TypeId} {f0 f1 f2 f3 f4 f5:Field} {c:Value} {w:Nat} {x:DataW H×List MemPlace} (Y:P.underlying t0=some (.slice t)) (ht:P.underlying t=some (.struct #[f0,f1,f2,f3,f4,f5]))
  (h0:f0.type=ti) (h1:f1.type=ti) (h2:f2.type=ti) (h3:f3.type=ts) (h4:f4.type=ts) (h5:f5.type=ts) (o0:f0.offset=0) (o1:f1.offset=1) (o2:f2.offset=2) (o3:f3.offset=3) (o4:f4.offset=4) (o5:f5.offset=5)
  (hi:P.underlying ti=some (.int .i64)) (hs:P.underlying ts=some (.slice e)) (he:P.underlying e=some (.int .i64)) (hc:P.cellsOf e=1) (M:P.cellsOf ti=1) (N:P.cellsOf ts=1) (hC:P.cellsOf t=6)
  (h:DataW.trod enc P W 0 (λ_=>true) true w t0 [c]=some x):∃z:PT,c=Xd z.1/\(qP z).holds W/\∀g∈z.2,Gin g:=by
 rcases open_slice Y h with⟨V,_⟩|⟨a,r,a0,m,n,D,Pl,V,_,hl,hm,y,hx,Q⟩
 .cases V;exact⟨PT0,rfl,⟨Gr 6 Qv W,λz hz=>by cases hz⟩,λg d=>by cases d⟩
 .cases V;simp at y;subst y
  haveI:Inhabited Zv:=⟨G0⟩
  by_cases hn:r=0
  .subst hn;exact⟨((some a,0,m),[]),rfl,⟨⟨⟨some a,m,rfl,hl,hm,.inl rfl⟩,λb G=>absurd rfl G.1⟩,λz hz=>by cases hz⟩,λg d=>by cases d⟩
  .obtain⟨F,Z,q⟩:=Zav (p:=λi (g:Zv)=>W.cells? 0 (a.add (i*6)) 6=some [.int .i64 g.1.1,.int .i64 g.1.2.1,.int .i64 g.1.2.2,Xd g.2.1.1,Xd g.2.2.1.1,Xd g.2.2.2.1]/\(qG g).holds W/\Gin g) r λi f=>by obtain⟨a1,k2,k3⟩:=Q i O;rw [hC]at k2;obtain⟨g,rfl,k4,k5⟩:=Yew ht h0 h1 h2 h3 h4 h5 o0 o1 o2 o3 o4 o5 hi hs he hc M N hC k3;exact⟨g,k2,k4,k5⟩
   have k:∀g∈F,(qG g).holds W/\Gin g:=λg d=>by obtain⟨i,f,rfl⟩:=dW d;exact(q i _ (aL f)).2
   obtain⟨g,s,B⟩:=a;have c0:=(World.cells?_some (q 0 (F[0]' O) (aL O)).1).2.2 0 O;obtain⟨o,l⟩:=Zi9 c0;have o:B=none:=o;have l:g<W.heap.size:=l;subst o;refine⟨((some ⟨g,s,none⟩,r,m),F),rfl,⟨⟨⟨some ⟨g,s,none⟩,m,by rw [Z],by show F.length<=m;omega,hm,.inr ⟨g,s,rfl,λi x f j u R=>?_⟩⟩,λb G=>by cases G.2;exact l⟩,λg d=>(k g d).1⟩,λg d=>(k g d).2⟩;obtain⟨_,_,I⟩:=World.cells?_some (q i x f).1;have S:j<6:=by
    rcases bA j 6 with h|h
    .exact h
    .rw [bJ (by simp [Value.cells];omega)]at R;cases R
   have:=I j S;simp only [Ol]at this;rw [this];simpa [Value.cells]using R
end Go.Sky
namespace Go.Sky
open Go.ChangeShapes Go.WideShapes Go.ChangeAt Go.RowKit Go.Joins Go.Deep
open Go.Proofs
variable {P:Program} {W:World} {H:Type} {enc:TypeId×Value->H}
theorem Zyl {tl t0 t ti ts e:TypeId} {f0 f1 f2 f3 f4 f5:Field} {c:Value} {w:Nat} {x:DataW H×List MemPlace} (a0:P.underlying tl=some (.slice t0)) (I:P.cellsOf t0=1) (a1:P.underlying t0=some (.slice t)) (ht:P.underlying t=some (.struct #[f0,f1,f2,f3,f4,f5]))
  (h0:f0.type=ti) (h1:f1.type=ti) (h2:f2.type=ti) (h3:f3.type=ts) (h4:f4.type=ts) (h5:f5.type=ts) (o0:f0.offset=0) (o1:f1.offset=1) (o2:f2.offset=2) (o3:f3.offset=3) (o4:f4.offset=4) (o5:f5.offset=5)
  (hi:P.underlying ti=some (.int .i64)) (hs:P.underlying ts=some (.slice e)) (he:P.underlying e=some (.int .i64)) (hc:P.cellsOf e=1) (Q:P.cellsOf ti=1) (R:P.cellsOf ts=1) (hC:P.cellsOf t=6)
  (h:DataW.trod enc P W 0 (λ_=>true) true w tl [c]=some x):∃z:PPT,c=Xd z.1/\(qPP z).holds W/\∀y∈z.2,∀g∈y.2,Gin g:=by
 rcases open_slice a0 h with⟨Z,_⟩|⟨a,r,a3,m,n,D,Pl,Z,_,hl,hm,B,hx,S⟩
 .cases Z;exact⟨Ou,rfl,⟨Gr 1 Zdi W,λz hz=>by cases hz⟩,λg d=>by cases d⟩
 .cases Z;simp at B;subst B
  haveI:Inhabited PT:=⟨PT0⟩
  by_cases hn:r=0
  .subst hn;exact⟨((some a,0,m),[]),rfl,⟨⟨⟨some a,m,rfl,hl,hm,.inl rfl⟩,λb M=>absurd rfl M.1⟩,λz hz=>by cases hz⟩,λg d=>by cases d⟩
  .obtain⟨G,a2,q⟩:=Zav (p:=λi (z:PT)=>W.cells? 0 (a.add (i*1)) 1=some [Xd z.1]/\(qP z).holds W/\∀g∈z.2,Gin g) r λi f=>by
    obtain⟨v,k2,k3⟩:=S i O;rw [I]at k2;obtain⟨c,rfl⟩:∃c,v=[c]:=by
     have:=(World.cells?_some k2).2.1
     match v,this with
     | [c],_=>exact⟨c,rfl⟩
    obtain⟨z,rfl,k4,k5⟩:=Yfg a1 ht h0 h1 h2 h3 h4 h5 o0 o1 o2 o3 o4 o5 hi hs he hc Q R hC k3;exact⟨z,k2,k4,k5⟩
   have k:∀z∈G,(qP z).holds W/\∀g∈z.2,Gin g:=λg d=>by obtain⟨i,f,rfl⟩:=dW d;exact(q i _ (aL f)).2
   obtain⟨g,s,F⟩:=a;have c0:=(World.cells?_some (q 0 (G[0]' O) (aL O)).1).2.2 0 O;obtain⟨o,l⟩:=Zi9 c0;have o:F=none:=o;have l:g<W.heap.size:=l;subst o;refine⟨((some ⟨g,s,none⟩,r,m),G),rfl,⟨⟨⟨some ⟨g,s,none⟩,m,by rw [a2],by show G.length<=m;omega,hm,.inr ⟨g,s,rfl,λi x f j u V=>?_⟩⟩,λb M=>by cases M.2;exact l⟩,λg d=>(k g d).1⟩,λg d=>(k g d).2⟩;obtain⟨_,_,N⟩:=World.cells?_some (q i x f).1;have Y:j<1:=by
    rcases bA j 1 with h|h
    .exact h
    .rw [bJ (by simp [Value.cells];omega)]at V;cases V
   have:=N j Y;simp only [Ol]at this;rw [this];simpa [Value.cells]using V
theorem Yfh {tt tl t0 t ti ts e:TypeId} {f0 f1 f2 f3 f4 f5:Field} {v:Value} {d:DataW H} {p:List MemPlace} (f:P.underlying tt=some (.slice tl)) (M:P.cellsOf tl=1) (Z:P.underlying tl=some (.slice t0)) (I:P.cellsOf t0=1) (a1:P.underlying t0=some (.slice t)) (ht:P.underlying t=some (.struct #[f0,f1,f2,f3,f4,f5]))
  (h0:f0.type=ti) (h1:f1.type=ti) (h2:f2.type=ti) (h3:f3.type=ts) (h4:f4.type=ts) (h5:f5.type=ts) (o0:f0.offset=0) (o1:f1.offset=1) (o2:f2.offset=2) (o3:f3.offset=3) (o4:f4.offset=4) (o5:f5.offset=5)
  (hi:P.underlying ti=some (.int .i64)) (hs:P.underlying ts=some (.slice e)) (he:P.underlying e=some (.int .i64)) (hc:P.cellsOf e=1) (Q:P.cellsOf ti=1) (R:P.cellsOf ts=1) (hC:P.cellsOf t=6)
  {r:Reach} {b0:Nat} (hv:Value.okWide P W r b0 tt v) (h:DataW.Trod enc P W 0 (λ_=>true) true tt v d p):∃ls:List PPT,(Xv 1 Zbn qPP v ls).holds W/\∀x∈ls,∀y∈x.2,∀g∈y.2,Gin g:=by
 obtain⟨a0,G,a8,rfl⟩:=okWide_slice f hv;obtain⟨a5,hf⟩:=h;rcases open_slice f hf with⟨w,_⟩|⟨a,a6,a4,m,n,D,Pl,w,_,hl,hm,s,hx,S⟩
 .simp [Value.cells]at w;obtain⟨rfl,rfl,rfl⟩:=w;exact⟨[],⟨Gr 1 Zbn W,λz hz=>by cases hz⟩,λg o=>by cases o⟩
 .simp [Value.cells]at w;obtain⟨rfl,rfl,rfl⟩:=w;simp at s;subst s
  haveI:Inhabited PPT:=⟨Ou⟩
  obtain⟨xs,a2,F⟩:=Zav (p:=λi (z:PPT)=>W.cells? 0 (a.add (i*1)) 1=some [Xd z.1]/\(qPP z).holds W/\∀y∈z.2,∀g∈y.2,Gin g) G λi k=>by
   obtain⟨q,k2,k3⟩:=S i O;rw [M]at k2;obtain⟨c,rfl⟩:∃c,q=[c]:=by
    have:=(World.cells?_some k2).2.1
    match q,this with
    | [c],_=>exact⟨c,rfl⟩
   obtain⟨z,rfl,k4,k5⟩:=Zyl Z I a1 ht h0 h1 h2 h3 h4 h5 o0 o1 o2 o3 o4 o5 hi hs he hc Q R hC k3;exact⟨z,k2,k4,k5⟩
  have l:∀z∈xs,(qPP z).holds W/\∀y∈z.2,∀g∈y.2,Gin g:=λg o=>by obtain⟨i,k,rfl⟩:=dW o;exact(F i _ (aL k)).2
  refine⟨xs,⟨⟨⟨some a,m,by rw [a2],O,hm,?_⟩,λb hb=>?_⟩,λg o=>(l g o).1⟩,λg o=>(l g o).2⟩
  .rcases bD G with hz|hz
   .exact .inl (aC O)
   .right;obtain⟨g,a3,a7⟩:=a;obtain⟨B,_⟩:=Zmp f hv;simp only at B;subst B;refine⟨g,a3,rfl,λi x k j u V=>?_⟩;obtain⟨_,_,N⟩:=World.cells?_some (F i x k).1;have Y:j<1:=by
     rcases bA j 1 with h|h
     .exact h
     .rw [bJ (by simp [Value.cells];omega)]at V;cases V
    have:=N j Y;simp only [Ol]at this;rw [this];simpa [Value.cells]using V
  .cases hb.2;exact(Zmp f hv).2
end Go.Sky
namespace Go.Sky
open Go.Proofs
def law_lh(v:Value)(a:List PPT)(e d h f b c:Int)(i:∀x∈a,∀y∈x.2,∀g∈y.2,Gin g):Cal Tryz.prog 4 #[v,.int .i64 e,.agg #[.int .i64 d,.int .i64 h,.int .i64 f],.int .i64 b,.int .i64 c] [Xv 1 Zbn qPP v a] true (G:=Unit) (λ_=>True) (λ_=> .bool true) (λ_=>[]):=
 Yrt v a e d h f b c i
end Go.Sky
namespace Go.Proofs.YtlnoheikolgejaaGreat
open Go.ChangeShapes Go.WideShapes Go.ChangeAt Go.RowKit Go.Joins Go.Deep Go.Sky
def own:ownKnob Tryz.prog.godebug=none:=O6
def Zhh:laidOutB Tryz.prog=true:=O6
set_option maxRecDepth 100000 in
def lifted(Z:Os)(f:Z.Started)(H:Type)(enc:TypeId×Value->H) :
  ReturnsInHanded {} Tryz.checked Z 4 .any (Rows.launchHoldsSpec.pre6 enc Tryz.prog Tryz.f4 Rows.launchHoldsRow.domain false) (Rows.launchHoldsSpec.post enc Tryz.prog Tryz.f4 false true false false):=by
 refine returnsInHanded_of_change (C:=Tryz.checked) own f O6 Tryz.func4
  (ChangeSpec.witness6 (enc:=enc) (C:=Tryz.checked) false ⟨#[],#[.slice none 0 0,.int .i64 0,.agg #[.int .i64 0,.int .i64 0,.int .i64 0],.int .i64 0,.int .i64 0],[]⟩ 8 O6 O6 O6 O6) ?_
 intro W base b ds gs k d V Y _;have a:∀(j:Nat) t v,Tryz.f4.params[j]? = some t->b[j]? = some v->Value.okWide Tryz.prog W .any base t v:=d;have o:=V;obtain⟨p,q,i,hV,rfl,a5,a6⟩:=V;have S:DataW.TrodAll enc Tryz.prog W 0 (λ_=>true) true Tryz.f4.params.toList b.toList ds p:=i;rw [Tryz.params4]at S a;obtain⟨G,a7,d0,a0,p0,q0,r,rfl,rfl,l,r0⟩:=trodAll_cons S;obtain⟨v1,a8,d1,a1,p1,q1,rfl,rfl,rfl,P,r1⟩:=trodAll_cons r0;obtain⟨v2,a9,d2,a2,p2,q2,rfl,rfl,rfl,n,r2⟩:=trodAll_cons r1;obtain⟨v3,b0,d3,a3,p3,q3,rfl,rfl,rfl,Q,r3⟩:=trodAll_cons r2;obtain⟨v4,b1,d4,a4,p4,q4,rfl,rfl,rfl,R,r4⟩:=trodAll_cons r3;obtain⟨rfl,rfl,rfl⟩:=trodAll_nil r4;obtain rfl:b=#[G,v1,v2,v3,v4]:=by cases b;simp_all
 obtain⟨rfl,rfl⟩:=trodVars_none hV;have y:∀x∈p0,x.block<W.heap.size:=by obtain⟨m,g⟩:=l;exact DataW.trod_lt m _ _ _ g
 obtain⟨l0,s,u⟩:=Yfh Tryz.underlying38 O6 Tryz.underlying27 O6 Tryz.underlying36 Tryz.underlying116 rfl rfl rfl rfl rfl rfl rfl rfl rfl rfl rfl rfl Tryz.underlying3 Tryz.underlying25 Tryz.underlying3 O6 O6 O6 O6 (a 0 (38) G rfl rfl) l;have z:∀x∈p1,x.block<W.heap.size:=by obtain⟨m,g⟩:=P;exact DataW.trod_lt m _ _ _ g
 obtain⟨n1,rfl⟩:=okWide_int Tryz.underlying3 (a 1 3 v1 rfl rfl);have B:∀x∈p2,x.block<W.heap.size:=by obtain⟨m,g⟩:=n;exact DataW.trod_lt m _ _ _ g
 obtain⟨I,M,N,rfl,-,-,-⟩:=Zyn Tryz.underlying40 O6 rfl rfl rfl rfl rfl rfl Tryz.underlying3 O6 (a 2 (40) v2 rfl rfl) n;have D:∀x∈p3,x.block<W.heap.size:=by obtain⟨m,g⟩:=Q;exact DataW.trod_lt m _ _ _ g
 obtain⟨n3,rfl⟩:=okWide_int Tryz.underlying3 (a 3 3 v3 rfl rfl);have F:∀x∈p4,x.block<W.heap.size:=by obtain⟨m,g⟩:=R;exact DataW.trod_lt m _ _ _ g
 obtain⟨n4,rfl⟩:=okWide_int Tryz.underlying3 (a 4 3 v4 rfl rfl);clear i d;refine(law_lh G l0 n1 I M N n3 n4 u W (λp w=>by cases w with|head=>exact s|tail _ w=>cases w)).mono λe W' ⟨_,he,_,c,_⟩=>?_;subst he;exact⟨_,rfl,_,_,_,[],_,[],o,trodAll_mk1 (shut_bool Tryz.underlying4 _),(trodAll_cons_mk (Below.trod Zhh O6 (bW O6) l c y) (trodAll_cons_mk (Below.trod Zhh O6 (bW O6) P c z) (trodAll_cons_mk (Below.trod Zhh O6 (bW O6) n c B) (trodAll_cons_mk (Below.trod Zhh O6 (bW O6) Q c D) (trodAll_cons_mk (Below.trod Zhh O6 (bW O6) R c F) trodAll_mk0))))),rfl,c.frame _,λh=>by cases h⟩
theorem x_holds : Rows.LaunchHoldsSaid :=
 OpenClaim.holds_of_wide 4 Tryz.f4 rfl rfl rfl rfl rfl rfl rfl ⟨rfl,rfl,rfl,rfl,rfl⟩ rfl rfl rfl rfl rfl O6 Tryz.func4 closed
  (bW O6) (by unfold Func.isWrapper;first|(rw [aP O7];kernel_rfl)|(rw [aJ O7];exact⟨rfl,rfl⟩))
  (λos started H enc _=>lifted os started H enc)
#print axioms x_holds
end Go.Proofs.YtlnoheikolgejaaGreat

