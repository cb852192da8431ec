/- Rules, arithmetic and contracts: part 20. No conditions but those that each theorem names. -/
import Derived.Test.YteikicbnfbgpnaaGreatEa218
set_option linter.all false
set_option maxHeartbeats 4000000
namespace Go.Sky
structure Pcs (a b:List Zk) (n:Nat) (T:Nat->Int) (ua ub:Nat->Zkt) (ja jb:Nat->Nat):Prop where
 n1:1<=n
 t0:T 0=cmF a b
 tn:T n=Dn a b
 lt:∀k,k<n->T k<T (k+1)/\cmF a b<=T k/\T (k+1)<=Dn a b
 la:∀k,k<n->ja k<a.length/\(a.getD (ja k) G0).1.1<=T k/\T (k+1)<=(a.getD (ja k) G0).1.2.1
 lb:∀k,k<n->jb k<b.length/\(b.getD (jb k) G0).1.1<=T k/\T (k+1)<=(b.getD (jb k) G0).1.2.1
 pa:∀k,k<n->SgG (mkS (ua k))/\(∃G,Prt (mkS (ua k)) (a.getD (ja k) G0) G)/\(ua k).1.1=T k/\(ua k).1.2.1=T (k+1)
 pb:∀k,k<n->SgG (mkS (ub k))/\(∃G,Prt (mkS (ub k)) (b.getD (jb k) G0) G)/\(ub k).1.1=T k/\(ub k).1.2.1=T (k+1)
 ra:Lx a b a=(List.range n).map ua
 rb:Lx a b b=(List.range n).map ub
def Zn3{a:List Int}{ps:List Zk}{u:Nat->Zkt} : ∀n,(∀k,k<n->Zbf (a.getD k 0) (a.getD (k+1) 0) ps=[u k])->Zd1 a ps n=(List.range n).map u
 | 0,_=>rfl
 | n+1,h=>by show Zd1 a ps n ++ Zbf _ _ ps=_;rw [Zn3 n (λk b=>h k O1),h n O1,List.range_succ,dB];rfl
def pcs{a b:List Zk}(r:∀g∈a,Gin g)(s:∀g∈b,Gin g)(m:Yf a=true)(o:Yf b=true)(R:cmF a b<Dn a b)(D:Mx a b=0):∃n T V W e f,Pcs a b n T V W e f:=by
 have t:El a b=0:=by
  unfold Mx at D;split at D
  .rename_i P;unfold El at P;omega
  omega
 obtain⟨-,Q⟩:=Yoa t;have B:=bks _ _ R;have S:=B.two;have z:∀ps,Lx a b ps=Zd1 (Na a b) ps ((Na a b).length-1):=λps=>aM t;have kk:=Zx1 Q;have N:∀k,k+1<(Na a b).length->∃j,j<a.length/\(a.getD j G0).1.1<=(Na a b).getD k 0/\(Na a b).getD (k+1) 0<=(a.getD j G0).1.2.1:=λk c=>by obtain⟨h,i,l⟩:=B.lt k c;unfold cmF at h;unfold Dn at l;exact Yjd r m O1 i O1 λg p=>B.no k c g (.inl p)
 have gb:∀k,k+1<(Na a b).length->∃j,j<b.length/\(b.getD j G0).1.1<=(Na a b).getD k 0/\(Na a b).getD (k+1) 0<=(b.getD j G0).1.2.1:=λk c=>by obtain⟨h,i,l⟩:=B.lt k c;unfold cmF at h;unfold Dn at l;exact Yjd s o O1 i O1 λg p=>B.no k c g (.inr p)
 have u:∃(e f:Nat->Nat),∀k,k+1<(Na a b).length->(e k<a.length/\(a.getD (e k) G0).1.1<=(Na a b).getD k 0/\(Na a b).getD (k+1) 0<=(a.getD (e k) G0).1.2.1)/\(f k<b.length/\(b.getD (f k) G0).1.1<=(Na a b).getD k 0/\(Na a b).getD (k+1) 0<=(b.getD (f k) G0).1.2.1):=by refine⟨λk=>if c:k+1<(Na a b).length then Classical.choose (N k c)else 0,λk=>if c:k+1<(Na a b).length then Classical.choose (gb k c)else 0,λk c=>?_⟩;grind
 obtain⟨e,f,d⟩:=u;have x:∀k,k+1<(Na a b).length->_:=λk c=>by obtain⟨h,i,l⟩:=B.lt k c;unfold cmF at h;unfold Dn at l;exact Yea r m O1 i O1 (λg p=>B.no k c g (.inl p)) (kk k O1).1 (d k c).1.1 (d k c).1.2.1 (d k c).1.2.2
 have y:∀k,k+1<(Na a b).length->_:=λk c=>by obtain⟨h,i,l⟩:=B.lt k c;unfold cmF at h;unfold Dn at l;exact Yea s o O1 i O1 (λg p=>B.no k c g (.inr p)) (kk k O1).2 (d k c).2.1 (d k c).2.2.1 (d k c).2.2.2
 refine⟨(Na a b).length-1,λk=>(Na a b).getD k 0,λk=>Zf5 ((Na a b).getD k 0) ((Na a b).getD (k+1) 0) (a.getD (e k) G0),λk=>Zf5 ((Na a b).getD k 0) ((Na a b).getD (k+1) 0) (b.getD (f k) G0),e,f,O1,B.hd,B.ls,λk c=>?_,λk c=>(d k O1).1,λk c=>(d k O1).2,λk c=>?_,λk c=>?_,?_,?_⟩
 .obtain⟨h,i,l⟩:=B.lt k O1;omega
 .obtain⟨-,v,w,F,G⟩:=x k O1;obtain⟨H,I,M⟩:=Ztk (q:=mkS (Zf5 ((Na a b).getD k 0) ((Na a b).getD (k+1) 0) (a.getD (e k) G0))) (r _ (Zd (d k O1).1.1)) (Nx ((Qd m).1 _ (d k O1).1.1)) v w rfl;grind [Oj]
 .obtain⟨-,v,w,F,G⟩:=y k O1;obtain⟨H,I,M⟩:=Ztk (q:=mkS (Zf5 ((Na a b).getD k 0) ((Na a b).getD (k+1) 0) (b.getD (f k) G0))) (s _ (Zd (d k O1).2.1)) (Nx ((Qd o).1 _ (d k O1).2.1)) v w rfl;exact⟨Oj H I,⟨_,M⟩,F,G⟩
 .rw [z];exact Zn3 _ λk c=>(x k O1).1
 .rw [z];exact Zn3 _ λk c=>(y k O1).1
section
variable {a b:List Zk} (hpa:∀g∈a,Gin g) (hpb:∀g∈b,Gin g) (hba:Yf a=true) (hbb:Yf b=true)
include hpa hpb hba hbb
theorem pcs_at{n:Nat}{T:Nat->Int}{e f:Nat->Zkt}{m o:Nat->Nat}(P:Pcs a b n T e f m o):∀k,k<n->∀u:Rat,0<=u->u<=1->∀t:Rat,t=(T k:Rat)+u*((T (k+1)-T k:Int):Rat)->InG (a.getD (m k) G0) t/\InG (b.getD (o k) G0) t/\(cmF a b:Rat)<=t/\t<=(Dn a b:Rat)/\dQ (mkS (e k)) (mkS (f k)) u u=dQ (a.getD (m k) G0) (b.getD (o k) G0) (sR (a.getD (m k) G0) t) (sR (b.getD (o k) G0) t):=by
 intro k d u R u1 t l;have i:∀k,k<a.length->SgG (a.getD k G0):=λk d=>Oj (hpa _ (Zd d)) (Nx ((Qd hba).1 _ d));have j:∀k,k<b.length->SgG (b.getD k G0):=λk d=>Oj (hpb _ (Zd d)) (Nx ((Qd hbb).1 _ d));obtain⟨q,S,V⟩:=P.la k d;obtain⟨r,W,Y⟩:=P.lb k d;obtain⟨N,⟨G,I⟩,s,v⟩:=P.pa k d;obtain⟨Q,⟨K,M⟩,w,z⟩:=P.pb k d;obtain⟨Z,F,l3⟩:=P.lt k d;have p:(0:Rat)<=((T (k+1)-T k:Int):Rat):=by exact_mod_cast (show 0<=T (k+1)-T k by omega)
 have m1:=aE R p;have H:=aE (show(0:Rat)<=1-u by grind) p;have t1:(T k:Rat)<=t:=by rw [l];grind
 have t2:t<=(T (k+1):Rat):=by rw [l];push_cast at H ⊢;grind
 have c:∀{x y:Int},x<=y->(x:Rat)<=(y:Rat):=λh=>by exact_mod_cast h
 have f1:=Ype (i _ q) I (u:=u);have f2:=Ype (j _ r) M (u:=u);have B:((mkS (e k)).1.1:Rat)+u*(((mkS (e k)).1.2.1-(mkS (e k)).1.1:Int):Rat)=t:=by rw [l,show(mkS (e k)).1.1=T k from s,show(mkS (e k)).1.2.1=T (k+1)from v]
 have D:((mkS (f k)).1.1:Rat)+u*(((mkS (f k)).1.2.1-(mkS (f k)).1.1:Int):Rat)=t:=by rw [l,show(mkS (f k)).1.1=T k from w,show(mkS (f k)).1.2.1=T (k+1)from z]
 rw [B]at f1;rw [D]at f2;exact⟨⟨eD (c S) t1,eD t2 (c V)⟩,⟨eD (c W) t1,eD t2 (c Y)⟩,eD (c F) t1,eD t2 (c l3),dQ_sm N Q (i _ q) (j _ r) f1 f2⟩
end
end Go.Sky
namespace Go.Sky
section
variable {P:Program} {N:Nat} {sc:Nat->Prop} {env:Pw} {H:Hp} {M:Nat->Prop}
end
abbrev V3T:=Int×Int×Int
def adL(c:List Int)(d:Int):List Int:=c.set 0 (c.getD 0 0+d)
def mvG(v:V3T)(g:Zk):Zk:=(g.1,(g.2.1.1,adL g.2.1.2 (v.1*g.1.2.2)),(g.2.2.1.1,adL g.2.2.1.2 (v.2.1*g.1.2.2)),(g.2.2.2.1,adL g.2.2.2.2 (v.2.2*g.1.2.2)))
def mv1(v:V3T)(g:Zk):Zk:=(g.1,(g.2.1.1,adL g.2.1.2 (v.1*g.1.2.2)),g.2.2.1,g.2.2.2)
def mv2(v:V3T)(g:Zk):Zk:=(g.1,(g.2.1.1,adL g.2.1.2 (v.1*g.1.2.2)),(g.2.2.1.1,adL g.2.2.1.2 (v.2.1*g.1.2.2)),g.2.2.2)
def mvK(v:V3T)(ps:List Zk)(k:Nat):List Zk:=(ps.take k).map (mvG v) ++ ps.drop k
def vcB(x y z:Int):Bool:=insB 16777216 [x,y,z]
structure MvX (v:V3T) (g:Zk):Prop where
 x:Nc (v.1*g.1.2.2)/\Nc (g.2.1.2.getD 0 0+v.1*g.1.2.2)
 y:Nc (v.2.1*g.1.2.2)/\Nc (g.2.2.1.2.getD 0 0+v.2.1*g.1.2.2)
 z:Nc (v.2.2*g.1.2.2)/\Nc (g.2.2.2.2.getD 0 0+v.2.2*g.1.2.2)
 lx:0<g.2.1.2.length
 ly:0<g.2.2.1.2.length
 lz:0<g.2.2.2.2.length
end Go.Sky
namespace Go.Sky
structure Mvd (y:Int) (v:Nat->Rat) (a c:List Zk):Prop where
 len:c.length=a.length
 t1:∀k,k<a.length->(c.getD k G0).1.1=(a.getD k G0).1.1+y
 t2:∀k,k<a.length->(c.getD k G0).1.2.1=(a.getD k G0).1.2.1+y
 ck:∀k,k<a.length->∀fr to,Kq fr to (a.getD k G0)=true->Zd0 (fr+y) (to+y) (c.getD k G0)=Zd0 fr to (a.getD k G0)
 pl:∀k,k<a.length->∀(t:Rat) i,i<3->pzQ (c.getD k G0) i (sR (c.getD k G0) (t+(y:Rat)))=pzQ (a.getD k G0) i (sR (a.getD k G0) t)+v i
section
variable {y:Int} {v w:Nat->Rat} {a b c d:List Zk}
def Mvd.F(h:Mvd y v a c)(e:0<a.length):spF c=spF a+y:=h.t1 0 e
theorem Mvd.L(h:Mvd y v a c)(e:0<a.length):spL c=spL a+y:=by unfold spL;rw [h.len];exact h.t2 _ O1
variable (hpa:∀g∈a,Gin g) (hpb:∀g∈b,Gin g) (hba:Yf a=true) (hbb:Yf b=true) (hpc:∀g∈c,Gin g) (hpd:∀g∈d,Gin g) (hbc:Yf c=true) (hbd:Yf d=true)
include hpa hpb hba hbb hpc hpd hbc hbd
end
end Go.Sky
namespace Go.Sky
variable{d n2 d2 x:Int}{r s t:Rat}{m k:Nat}{c p:List Int}{f:Nat->Rat}{zs:List (Int×SL)}
structure QOK (n d:Int) (r:Rat) (m:Nat):Prop where
 p:0<d
 v:(n:Rat)=r*(d:Rat)
 a:bl n.natAbs<=m
 b:bl d.natAbs<=m
theorem QOK.ne{n:Int}(h:QOK n d r m):d≠0:=by have:=h.p;omega
def QOK.mono{n:Int}(h:QOK n d r m)(a:m<=k):QOK n d r k:=⟨h.p,h.v,aB h.a a,aB h.b a⟩
def QOK.cg{n:Int}(h:QOK n d r m)(e:r=s):QOK n d s m:=e▸h
theorem Zvz{n:Int}(h:QOK n d r m):QOK (n/Qi n d) (d/Qi n d) r m:=by
 refine⟨Zp2 h.p,?_,aB (Pz (fB _ _)) h.a,aB (Pz (fB _ _)) h.b⟩;have a:=Zwm n d;have b:=h.v;have g:(d:Rat)≠0:=by exact_mod_cast h.ne
 generalize n/Qi n d=x at *;generalize d/Qi n d=y at *;have e:(x)*(d:Rat)=(n)*(y):=by exact_mod_cast a
 grind
theorem Zps{n:Int}(h:QOK n d r m)(g:QOK n2 d2 s k):QOK (n*n2/Qi (n*n2) (d*d2)) (d*d2/Qi (n*n2) (d*d2)) (r*s) (m+k):=by
 refine Zvz ⟨eZ h.p g.p,?_,?_,?_⟩
 .have:=h.v;have:=g.v;grind
 .have:=Zy n n2;have:=h.a;have:=g.a;omega
 .have:=Zy d d2;have:=h.b;have:=g.b;omega
theorem q_add{n:Int}(h:QOK n d r m)(g:QOK n2 d2 s k):QOK ((n*d2+n2*d)/Qi (n*d2+n2*d) (d*d2)) (d*d2/Qi (n*d2+n2*d) (d*d2)) (r+s) (m+k+1):=by
 refine Zvz ⟨eZ h.p g.p,?_,?_,?_⟩
 .have:=h.v;have:=g.v;grind
 .have:=Lp (n*d2) (n2*d);have:=Zy n d2;have:=Zy n2 d;have:=h.a;have:=g.a;have:=h.b;have:=g.b;omega
 .have:=Zy d d2;have:=h.b;have:=g.b;omega
theorem Ycl{n:Int}(h:QOK n d r m)(g:QOK n2 d2 s k):QOK ((n*d2-n2*d)/Qi (n*d2-n2*d) (d*d2)) (d*d2/Qi (n*d2-n2*d) (d*d2)) (r-s) (m+k+1):=by
 refine Zvz ⟨eZ h.p g.p,?_,?_,?_⟩
 .have:=h.v;have:=g.v;grind
 .have:=Lp (n*d2) (-(n2*d));have:=Zy n d2;have:=Zy n2 d;have:=h.a;have:=g.a;have:=h.b;have:=g.b;grind
 .have:=Zy d d2;have:=h.b;have:=g.b;omega
def q_int(h:bl x.natAbs<=m)(a:1<=m):QOK x 1 (x:Rat) m:=⟨O1,O6,h,aB O4 a⟩
theorem q_inv (m:Nat)(b:0<x)(h:bl x.natAbs<=m)(a:1<=m):QOK 1 x (1/(x:Rat)) m:=
 ⟨b,by rw [eG (by exact_mod_cast (show x≠0 by omega))];rfl,aB O4 a,h⟩
theorem Ykm{n:Int}(h:QOK n d r m)(g:QOK n2 d2 s k):(n*d2-n2*d).sign<0↔r<s:=by
 have i:(0)<(d:Rat)*(d2):=aT (by exact_mod_cast h.p) (by exact_mod_cast g.p);have e:((n*d2-n2*d))=(r-s)*((d)*(d2)):=by rw [h.v,g.v];grind
 have j:(n*d2-n2*d).sign<0↔n*d2-n2*d<0:=Int.sign_neg_iff;rw [j];constructor
 .intro a;have b:((n*d2-n2*d):Rat)<0:=by exact_mod_cast a
  refine lE.1 λl=>?_;have:=aE (show 0<=r-s by grind) (Rat.le_of_lt i);grind
 .intro a;have:=aT (show 0<s-r by grind) i;have b:((n*d2-n2*d):Rat)<0:=O5;exact_mod_cast b
theorem q_val(b:p=tzl c)(j:∀a∈c,Nc a)(l:c.length<=6){y:Int}(h:QOK x y s 5450) :
  QOK (pev p x y/Qi (pev p x y) (y^(p.length-1))) (y^(p.length-1)/Qi (pev p x y) (y^(p.length-1))) (Zi c s) 27500:=by
 have n:p.length<=6:=by rw [b];exact aB (Ns c) l
 have hs:Sz 64 p:=by rw [b];exact(Yfd j).sz O4
 have g:∀k,bl (y^k).natAbs<=k*5450+1:=λk=>Fh h.b k;have o:∀k,bl (x^k).natAbs<=k*5450+1:=λk=>Fh h.a k;refine Zvz ⟨jD h.p,?_,?_,?_⟩
 .have e:(x:Rat)/(y:Rat)=s:=by rw [h.v,Rat.mul_div_cancel (by exact_mod_cast h.ne)]
  rw [Zrz h.p,e,<-Ll c,<-b,Zcw]
 .refine aB (Zib (K:=27400) (λi hi=>?_) O1) O4;have q:=Zy (cf p i) (x^i*y^(p.length-1-i));have u:=Zy (x^i) (y^(p.length-1-i));have v:=o i;have w:=g (p.length-1-i);have z:bl (cf p i).natAbs<=64:=hs i;omega
 .have:=g (p.length-1);omega
def sq3(f:Nat->Rat):Nat->Rat
 | 0=>0
 | k+1=>sq3 f k+f k*f k
theorem sq3_dQ(g h:Zk)(s u:Rat):sq3 (λi=>pzQ g i s-pzQ h i u) 3=dQ g h s u:=by unfold dQ;simp only [sq3];grind
theorem sR_q{g:Zk} : (t-(g.1.1:Rat))*(1/((g.1.2.1-g.1.1:Int):Rat))=sR g t:=by unfold sR;rw [gK,gK,nD]
theorem pzQ_q{g:Zk}{i:Nat} : Zi (Zs i g.2.1.2 g.2.2.1.2 g.2.2.2.2) s*(1/(g.1.2.2:Rat))=pzQ g i s:=by unfold pzQ spX;grind
abbrev QzT:=(Int×SL)×(Int×SL)
abbrev Yad (z:QzT):Value:= .agg #[.bool (decide (z.1.1<0)),Xk z.1.2,.bool (decide (z.2.1<0)),Xk z.2.2]
abbrev qq (z:QzT):Pc:=Nf qI [z.1,z.2]
abbrev QZ0:QzT:=((0,none,0,0),(1,none,0,0))
def PlQ(g:Zk)(t:Rat)(zs:List QzT)(k:Nat):Prop:=zs.length=k/\∀i,i<k->QOK (zs.getD i QZ0).1.1 (zs.getD i QZ0).2.1 (pzQ g i (sR g t)) 28000
def Plc(ps:List Zk)(t:Rat)(zs:List QzT):Prop:=∃j,j<ps.length/\InG (ps.getD j G0) t/\PlQ (ps.getD j G0) t zs 3
def plQ_0{g:Zk}:PlQ g t [] 0:=⟨rfl,λi h=>absurd h (bD i)⟩
theorem plQ_s{g:Zk}{zs:List QzT}(h:PlQ g t zs k){z:QzT}(b:QOK z.1.1 z.2.1 (pzQ g k (sR g t)) 28000):PlQ g t (zs ++ [z]) (k+1):=by
 refine⟨by rw [bG,h.1];rfl,λi hi=>?_⟩;rcases aW i k with a|a
 .have e:(zs ++ [z]).getD i QZ0=zs.getD i QZ0:=by rw [aL,aL,eN (by rw [h.1];exact a)]
  rw [e];exact h.2 i a
 .obtain rfl:i=k:=O1;have e:(zs ++ [z]).getD i QZ0=z:=by rw [aL,fT (by rw [h.1];exact aF _),h.1,fE];rfl
  rw [e];exact b
theorem sR_ok{g:Zk}(a:SgG g){y:Int}(h:QOK x y t 5400) :
  QOK ((x*1-g.1.1*y)/Qi (x*1-g.1.1*y) (y*1)*1/Qi ((x*1-g.1.1*y)/Qi (x*1-g.1.1*y) (y*1)*1) (y*1/Qi (x*1-g.1.1*y) (y*1)*(g.1.2.1-g.1.1))) (y*1/Qi (x*1-g.1.1*y) (y*1)*(g.1.2.1-g.1.1)/Qi ((x*1-g.1.1*y)/Qi (x*1-g.1.1*y) (y*1)*1) (y*1/Qi (x*1-g.1.1*y) (y*1)*(g.1.2.1-g.1.1))) (sR g t) 5450:=by
 have t1:=a.t1;have t2:=a.t2;have t3:=a.t3;exact((Zps (Ycl h (q_int (x:=g.1.1) (m:=22) (Bd O1) O4)) (q_inv 22 (x:=g.1.2.1-g.1.1) O1 (Bd O1) O4)).mono O4).cg sR_q
theorem Ykl{n:Int}(h:QOK n d r m)(g:QOK n2 d2 s k):0<(n*d2-n2*d).sign↔s<r:=by rw [<-Ykm g h,Int.sign_pos_iff,Int.sign_neg_iff];omega
def q_i(h:bl x.natAbs<=22):QOK x 1 (x:Rat) 22:=q_int h O4
theorem sq_0:QOK 0 1 (sq3 f 0) 1:=⟨O1,by show((0))=0*_;simp,O4,O4⟩
def ClsI(a b:List Zk)(D:Int)(t:Rat)(c:Bool):Prop:=∃j k,j<a.length/\k<b.length/\InG (a.getD j G0) t/\InG (b.getD k G0) t/\(c=true↔dQ (a.getD j G0) (b.getD k G0) (sR (a.getD j G0) t) (sR (b.getD k G0) t)<(D:Rat)*(D:Rat))
theorem q_sz(e:p=tzl c)(b:∀a∈c,Nc a):Sz 1000000 p:=by
 have h:Sz 64 p:=by rw [e];exact(Yfd b).sz O1
 exact h.mono O6
theorem q_ln(b:Zb zs=tzl c)(a:c.length<=6):zs.length<=30:=by grind [Zh,Ns]
theorem q_in{g:Zk}(hi:Gin g)(b:k<3):∀a∈Zs k g.2.1.2 g.2.2.1.2 g.2.2.2.2,Nc a:=by
 match k,b with
 | 0,_=>exact hi.4
 | 1,_=>exact hi.5
 | 2,_=>exact hi.6
theorem Yrl{ps:List Zk}(a:Yf ps=true)(h:(spF ps:Rat)<=t){j:Nat}(b:j<ps.length)(g:∀m,m<j->¬t<=((ps.getD m G0).1.2.1:Rat)):((ps.getD j G0).1.1:Rat)<=t:=by
 rcases aU j with e|e
 .subst e;exact h
 .obtain⟨m,rfl⟩:∃m,j=m+1:=⟨j-1,O1⟩;rw [Zfz a b];exact cS (lE.1 (g m O1))
theorem pl_no{ps:List Zk}(a:Yf ps=true)(e:t<=(spL ps:Rat))(b:∀m,m<ps.length->¬t<=((ps.getD m G0).1.2.1:Rat)):False:=by obtain⟨-,h,-⟩:=Qd a;exact b (ps.length-1) O1 e
section
variable {P:Program} {N:Nat} {sc:Nat->Prop} {env:Pw} {H:Hp}
def Yqv (z:QzT)(y:Int×SL){v:Value}{zs:List QzT}(j n:Nat)(o:lk H j=some (Xn 4 Yad qq v zs))(e:Nat.beq j 0=false)(i:z∈zs)(g:y∈[z.1,z.2]):∀a w,Sat N sc env H a w->Sat N sc env ((n,Pn (Xk y.2) y.1.natAbs)::H) a w:=
 Zcz j n o e rfl (λw h=>h.2 z i y g) (λb l=> .inr ⟨z,i,y,g,l⟩) rfl
end
theorem clo_of{a b:List Zk}{D:Int}{j:Nat}(e:j<a.length)(l:k<b.length)(o:InG (a.getD j G0) t)(q:InG (b.getD k G0) t){n:Int}(h:QOK n d (sq3 (λi=>pzQ (a.getD j G0) i (sR (a.getD j G0) t)-pzQ (b.getD k G0) i (sR (b.getD k G0) t)) 3) m):ClsI a b D t (decide ((n*1-D*D*d).sign<0)):=by have g:QOK (D*D) 1 ((D:Rat)*(D:Rat)) (bl (D*D).natAbs+1):=⟨O4,by push_cast;grind,O1,Nat.le_trans O4 (Nat.le_add_left 1 _)⟩;refine⟨j,k,e,l,o,q,?_⟩;rw [fW,Ykm h g,sq3_dQ]
def MvR(ps:List Zk)(v:V3T)(zs:List Zk)(e:Int):Prop:=e=2\/e=3\/e=0/\Yf zs=true/\(∀g∈zs,Gin g)/\zs.map Gx=(ps.map (mvG v)).map Gx
end Go.Sky
namespace Go.Sky
open Go.Proofs.Tryz
open Go.Proofs
set_option synthInstance.maxHeartbeats 0
set_option synthInstance.maxSize 100000
set_option maxRecDepth 20000
set_option linter.unusedSimpArgs false
variable{w va vb:Value}
def pZq:Enc Tryz.prog 91 4 Yad:=Enc.agg O4 Tryz.sizeOf91 Tryz.isAgg91 (λx=>⟨[.bool (decide (x.1.1<0)),Xk x.1.2,.bool (decide (x.2.1<0)),Xk x.2.2],rfl,rfl,O12⟩)
@[reducible,instance] def encZqI:EncT Tryz.prog 91 4 Yad:=⟨pZq⟩
theorem Zy8{v i j:Value}(x y c a:Int)(z:bl x.natAbs<=100000000)(B:bl y.natAbs<=100000000)(D:bl c.natAbs<=100000000)(F:bl a.natAbs<=100000000)(e:y≠0)(f:a≠0):Cal prog 102 #[.agg #[.bool (decide (x<0)),v,.bool (decide (y<0)),w],.agg #[.bool (decide (c<0)),i,.bool (decide (a<0)),j]] [Pn v x.natAbs,Pn w y.natAbs,Pn i c.natAbs,Pn j a.natAbs] true (G:=Value×Value) (λr=>True) (λr=> .agg #[.bool (decide ((x*a-c*y)/Qi (x*a-c*y) (y*a)<0)),r.1,.bool (decide ((y*a)/Qi (x*a-c*y) (y*a)<0)),r.2]) (λr=>[Pn r.1 ((x*a-c*y)/Qi (x*a-c*y) (y*a)).natAbs,Pn r.2 ((y*a)/Qi (x*a-c*y) (y*a)).natAbs]):=by refine Zg func102 ntmps102 λM I H d=>?_;have p:=Zy x a;have q:=Zy c y;have s:=Zy y a;have t:=Zy x c;have h:y*a≠0:=bB e f;have u:=Cn (x*a) (c*y);refine go 2<|Yd (Yk 5) λb _=>Yd (Yk 6) λk _=>Yd (Zw 7) λl _=>go 3<|Qb (λ_=>False) [(0,0),(1,0),(2,0),(3,0),(5,0),(6,0),(7,0),(8,0),(11,0),(12,0),(13,0),(14,0),(4,1),(9,1),(10,1),(15,1),(16,1),(17,3)]<|go 12<|Yn (Zl 8 [1,4] (Ni _ _)) λv _=>Yn (Zl 9 [3,2] (Ni _ _)) λm _=>Yn (Zl 10 [8,9] Zg3) λn _=>Yn (Zl 11 [2,4] (Ni _ _)) λo _=>Yn (Zl 12 [10,11] (Zg4 h)) λg _=>go 4 ?_;exact Xh d (_,_) results102 J aA (Ph 12 (Ph 13 Za))
theorem Zp3{v u:Value}{ps:List Zk}(l f:Int)(T:Rat)(hp:∀g∈ps,Gin g)(V:Yf ps=true)(n:QOK l f T 5400)(a2:(spF ps:Rat)<=T/\T<=(spL ps:Rat)):Cal prog 101 #[v,.agg #[.bool (decide (l<0)),w,.bool (decide (f<0)),u]] [Xn 6 Xv qG v ps,Pn w (l).natAbs,Pn u (f).natAbs] true (G:=Value×List QzT) (λg=>Plc ps T g.2) (λg=> .tuple #[g.1,.bool true]) (λg=>[Xn 4 Yad qq g.1 g.2]):=by
 refine Zg func101 ntmps101 λw0 sc hw a6=>?_;obtain⟨l1,l2⟩:=a2;obtain⟨-,-,c2⟩:=Qd V;have c1:=n.a;have b6:=n.b;have b5:bl (1:Int).natAbs<=22:=O4;refine go 2<|Yd (Yk 4) λbx _=>go 11 ?_;refine lp (G:=Nat) [0,3] [0,1,2,3,4] (λj=>[(6,.int .i64 (j:Int))]) (λj=>[]) (λj=>(j<=ps.length)/\(∀m,m<j->¬T<=((ps.getD m G0).1.2.1:Rat))) (λj=>ps.length-j) 0 ⟨O2,λm h=>absurd h (bD m)⟩ K1 aA ?_;rintro j ⟨hj,hk⟩;refine go 9<|Ze J (λD=>?_) (λD=>?_)
 .have r:j<ps.length:=O1;have b:=hp _ (Zd (d:=G0) r);have P:=Yrl V l1 r hk;have B:=Oj b (Nx ((Qd V).1 _ r));have t1:=B.t1;have t2:=B.t2;have t3:=B.t3;have o1:=B.o1;have M:bl ((ps.getD j G0).1.1).natAbs<=22:=Bd O1;have N:bl ((ps.getD j G0).1.2.1).natAbs<=22:=Bd O1;have c0:bl ((ps.getD j G0).1.2.1-(ps.getD j G0).1.1).natAbs<=22:=Bd O1;refine go 4 ?_;refine jn (G:=Value×Value×Value×Value×Nat×Nat) [0,3,6] [0,1,2,3,4] (λq=>[(7,.pointer (some ⟨q.2.2.2.2.1,0,none⟩)),(8,.pointer (some ⟨q.2.2.2.2.2,0,none⟩))]) (λq=>[(80,Pn q.1 ((ps.getD j G0).1.1).natAbs),(81,Pn q.2.1 (1:Int).natAbs),(82,Pn q.2.2.1 ((ps.getD j G0).1.2.1).natAbs),(83,Pn q.2.2.2.1 (1:Int).natAbs),(84,box q.2.2.2.2.1 91 #[.bool (decide ((ps.getD j G0).1.1<0)),q.1,.bool (decide ((1:Int)<0)),q.2.1]),(85,box q.2.2.2.2.2 91 #[.bool (decide ((ps.getD j G0).1.2.1<0)),q.2.2.1,.bool (decide ((1:Int)<0)),q.2.2.2.1])]) (λq=>True) ?_ ?_
  .refine Pj [1] [19]<|Zj 10 [(0,0),(1,0),(2,0),(3,0),(4,0),(8,0),(9,0),(10,0),(11,0),(12,0)]<|go 2 ?_;refine Xc J J (Ga (Zv 1 j J J J J Zc Lz Ir J) K1)<|Xc J J (Ga (Mb 1 J J J Zc Dl J Kx J) K1)<|Xc J J (Ga (Mj 1 G0 J J J Zc iA3 J) K1)<|go 2 ?_;refine Xc J J (Ga (Zv 1 j J J J J Zc Lz Ir J) K1)<|Xc J J (Ga (Mb 1 J J J Zc Dl J Kx J) K1)<|Xc J J (Ga (Mj 1 G0 J J J Zc iA3 J) K1)<|go 1 ?_
   repeat' first|refine bq 5 ?_;refine Px (Zl 80 [] (Qr (ps.getD j G0).1.1 b.1)) λv _=>?_|refine bq 6 ?_;refine Px (Zl 81 [] (Qr 1 ⟨O4,O4⟩)) λc4 _=>?_|refine bq 13 ?_;refine Px (Zl 82 [] (Qr (ps.getD j G0).1.2.1 b.2)) λc5 _=>?_|refine bq 14 ?_;refine Px (Zl 83 [] (Qr 1 ⟨O4,O4⟩)) λc6 _=>?_|refine bq 16 ?_;refine Px (Qf 84) λa7 ho=>?_|refine bq 17 ?_;refine Px (Qf 85) λa8 c3=>?_|refine bq 18 ?_;refine Lq rfl rfl (t_stw 84 rfl rfl rfl rfl rfl rfl sizeOf91 rfl rfl ⟨Yg rfl,Of 80 rfl Zr,Yg rfl,Of 81 rfl Zr,aA⟩ rfl hw.h ho.h) (λ_ _=>?_)|refine Ya7 5 16 17 O7 ?_ ?_ ?_|refine Zag 5 16 O7 ?_ ?_|refine Zai 5 O7 ?_|refine Zai 6 O7 ?_|refine Zai 13 O7 ?_|refine Zai 14 O7 ?_|refine Zai 18 O7 ?_|refine Zag 6 16 O7 ?_ ?_|refine Zag 13 16 O7 ?_ ?_|refine Zag 14 16 O7 ?_ ?_|refine Zai 16 O7 ?_|refine Zag 5 17 O7 ?_ ?_|refine Zag 6 17 O7 ?_ ?_|refine Zag 13 17 O7 ?_ ?_|refine Zag 14 17 O7 ?_ ?_|refine Zai 17 O7 ?_|refine Ya7 6 16 17 O7 ?_ ?_ ?_|refine Ya7 13 16 17 O7 ?_ ?_ ?_|refine Ya7 14 16 17 O7 ?_ ?_ ?_|refine Zag 16 17 O7 ?_ ?_|refine Zc5 7 0 O7 ?_;refine Xc rfl rfl (Ga (Xy [(0,_),(1,_)] rfl ⟨rfl,rfl,rfl,rfl,aA⟩ (λa w hs=>Zad)) ⟨rfl,aA⟩) ?_;refine go 1 ?_|refine Zc5 15 0 O7 ?_;refine Xc rfl rfl (Ga (Xy [(0,_),(1,_)] rfl ⟨rfl,rfl,rfl,rfl,aA⟩ (λa w hs=>Zad)) ⟨rfl,aA⟩) ?_;refine go 1 ?_|refine Zc5 19 3 O7 ?_;refine go 2 ?_|refine Zo ?_ O7;exact Oc (_,_,_,_,_,_) aA ⟨rfl,rfl,aA⟩ ⟨rfl,rfl,rfl,rfl,rfl,rfl,aA⟩
  .rintro⟨q1,q2,q3,q4,b7,b8⟩ -;dsimp only;refine go 5 ?_;refine cl 4 [2,3,80,81] (Zcm l f (ps.getD j G0).1.1 1) λ_ _=>?_;refine kf (aI (λh=>absurd ((Ykm n (q_i M)).1 h) (lB.2 P)))<|go 3 ?_;refine Hu 4 [2,3,82,83] (Zcm l f (ps.getD j G0).1.2.1 1) λ_ _=>go 4<|Ze J (λi=>?_) (λi=>?_)
   .have Z:¬T<=((ps.getD j G0).1.2.1:Rat):=λo=>absurd ((Ykl n (q_i N)).1 i) (lB.2 o);refine go 9 ⟨O1,?_⟩;exact Yh (j+1) ⟨O2,λm h=>by rcases aY.1 h with o|o;exact hk m o;subst o;exact Z⟩ O2 K1 aA
   .have Z:T<=((ps.getD j G0).1.2.1:Rat):=lB.1 λo=>i ((Ykl n (q_i N)).2 o);refine go 2 ?_;refine jn (G:=Value×Value×Int×Int×Nat) [0,6] [0,80,81,82,83,84,85,1,2,3,4] (λq=>[(9,.pointer (some ⟨q.2.2.2.2,0,none⟩))]) (λq=>[(90,Pn q.1 (q.2.2.1).natAbs),(91,Pn q.2.1 (q.2.2.2.1).natAbs),(92,box q.2.2.2.2 91 #[.bool (decide (q.2.2.1<0)),q.1,.bool (decide (q.2.2.2.1<0)),q.2.1])]) (λq=>QOK q.2.2.1 q.2.2.2.1 (sR (ps.getD j G0) T) 5450) ?_ ?_
    .have y:=Ycl n (q_i M);refine Lo (λ_=>False) [19]<|Zj 7 [(0,0),(1,0),(4,0),(5,0),(6,0),(7,0),(8,0),(9,0),(10,0),(11,0),(12,0),(13,0),(14,0)]<|go 4 ?_;refine Xc J J (Xl (Zv 1 j J J J J Zc Lz Ir J))<|Xc J J (Xl (Mb 1 J J J Zc Dl J Kx J))<|Xc J J (Xl (Mj 1 G0 J J J Zc iA3 J))<|go 2 ?_;refine Xc J J (Xl (Zv 1 j J J J J Zc Lz Ir J))<|Xc J J (Xl (Mb 1 J J J Zc Dl J Kx J))<|Xc J J (Xl (Mj 1 G0 J J J Zc iA3 J))<|go 2 ⟨O1,?_⟩
     repeat' first|refine bq 2 ?_;refine Px (Zl 86 [2,3,80,81] (Zy8 l f (ps.getD j G0).1.1 1 O1 O1 O1 O1 n.ne O4)) λg _=>?_|refine bq 3 ?_;refine Px (Zl 88 [] (Qr 1 ⟨O4,O4⟩)) λc7 _=>?_|refine bq 15 ?_;refine Px (Zl 89 [] (Qr ((ps.getD j G0).1.2.1-(ps.getD j G0).1.1))) λc8 _=>?_|refine bq 17 ?_;refine Px (Zl 90 [86,87,88,89] (Zza ((l*1-(ps.getD j G0).1.1*f)/Qi (l*1-(ps.getD j G0).1.1*f) (f*1)) (f*1/Qi (l*1-(ps.getD j G0).1.1*f) (f*1)) 1 ((ps.getD j G0).1.2.1-(ps.getD j G0).1.1) (aB y.a O4) (aB y.b O4) y.ne)) λb3 _=>?_|refine bq 18 ?_;refine Px (Zw 92) λa9 _=>?_|refine Zag 2 18 O7 ?_ ?_|refine Zai 2 O7 ?_|refine Zai 3 O7 ?_|refine Zai 15 O7 ?_|refine Zai 17 O7 ?_|refine Zag 3 18 O7 ?_ ?_|refine Zag 15 18 O7 ?_ ?_|refine Zag 17 18 O7 ?_ ?_|refine Zai 18 O7 ?_|refine Zc5 16 0 O7 ?_;refine Xc rfl rfl (Xl (Xy [(0,_),(1,_)] rfl ⟨rfl,rfl,rfl,rfl,aA⟩ (λa w hs=>Zad))) ?_;refine go 1 ?_|refine Zc5 19 3 O7 ?_;refine go 2 ?_|refine Zo ?_ O7;exact Oc (_,_,_,_,_) (sR_ok B n) ⟨rfl,aA⟩ ⟨rfl,rfl,rfl,aA⟩
    .rintro⟨q5,q6,un,ud,b9⟩ H;dsimp only at H;dsimp only;refine go 12<|Zf (Qt 74 4 91 Yad)<|Zf (Yi qq 76) ?_;refine lp (G:=Nat×Value×List QzT) [0,6,9] [0,90,91,92,80,81,82,83,84,85,1,2,3,4] (λq=>[(11,.int .i64 (q.1:Int)),(10,q.2.1)]) (λq=>[(74,Oe 4 91 Yad q.2.1 q.2.2),(76,Nf qq q.2.2)]) (λq=>(q.1<=3)/\(PlQ (ps.getD j G0) T q.2.2 q.1)) (λq=>3-q.1) (0,.slice none 0 0,[]) ⟨O2,plQ_0⟩ K2 K2 ?_;rintro⟨k,vo,zs⟩ ⟨a1,S⟩;dsimp only at a1 S;dsimp only;refine go 7<|Ze J (λF=>?_) (λF=>?_)
     .have p:∀a∈(Zs k (ps.getD j G0).2.1.2 (ps.getD j G0).2.2.1.2 (ps.getD j G0).2.2.2.2),Nc a:=q_in b O1;have Q:=(B.lc k).2;refine go 4 ?_;refine jn (G:=Value×Value×Int×Int×Nat) [0,6,9,10,11] [0,74,76,90,91,92,80,81,82,83,84,85,1,2,3,4] (λq=>[(12,.pointer (some ⟨q.2.2.2.2,0,none⟩))]) (λq=>[(95,Pn q.1 (q.2.2.1).natAbs),(96,Pn q.2.1 (q.2.2.2.1).natAbs),(97,box q.2.2.2.2 91 #[.bool (decide (q.2.2.1<0)),q.1,.bool (decide (q.2.2.2.1<0)),q.2.1])]) (λq=>QOK q.2.2.1 q.2.2.2.1 (Zi (Zs k (ps.getD j G0).2.1.2 (ps.getD j G0).2.2.1.2 (ps.getD j G0).2.2.2.2) (sR (ps.getD j G0) T)) 27500) ?_ ?_
      .refine Zf (Pf (ps.getD j G0) ((ps.getD j G0).2.1) 1 51 J J (Zd O1) O6)<|Zf (Pf (ps.getD j G0) ((ps.getD j G0).2.2.1) 1 52 J J (Zd O1) O6)<|Zf (Pf (ps.getD j G0) ((ps.getD j G0).2.2.2) 1 53 J J (Zd O1) O6)<|Lo (λ_=>False) [12]<|Zj 7 [(0,0),(1,0),(2,0),(3,0),(5,0),(9,0)]<|go 2 ?_;refine Xc J J (Xl (Zv 1 j J J J J Zc Lz Ir J))<|Xc J J (Xl (Yw 1 G0 J J J Zc pG))<|go 3 ?_
       repeat' first|refine bq 4 ?_;refine Px (Zl 93 [51,52,53] Fq) λc9 _=>?_;refine Zfh (Nd 93 40 ([((ps.getD j G0).2.1.1,(ps.getD j G0).2.1.2),((ps.getD j G0).2.2.1.1,(ps.getD j G0).2.2.1.2),((ps.getD j G0).2.2.2.1,(ps.getD j G0).2.2.2.2)].getD k C0) rfl rfl (Zd (show k<3 by omega)) rfl) ?_;refine Zfh (Np 40 (q:=Yx 1 Yj (Xk ([((ps.getD j G0).2.1.1,(ps.getD j G0).2.1.2),((ps.getD j G0).2.2.1.1,(ps.getD j G0).2.2.1.2),((ps.getD j G0).2.2.2.1,(ps.getD j G0).2.2.2.2)].getD k C0).1) (Zs k (ps.getD j G0).2.1.2 (ps.getD j G0).2.2.1.2 (ps.getD j G0).2.2.2.2)) (aD (Yx 1 Yj _) (Zfi O1)) rfl rfl) ?_|refine bq 8 ?_;refine Px (Zl 94 [40] (Aw (Zs k (ps.getD j G0).2.1.2 (ps.getD j G0).2.2.1.2 (ps.getD j G0).2.2.2.2) p O1)) λW hg=>?_;have s:Zb W.2=tzl (Zs k (ps.getD j G0).2.1.2 (ps.getD j G0).2.2.1.2 (ps.getD j G0).2.2.2.2):=hg|refine bq 10 ?_;refine Px (Zl 95 [94,90,91] (Yjq un ud (q_sz s p) (q_ln s Q) (aB H.a O4) (aB H.b O4) H.ne)) λb4 _=>?_|refine bq 11 ?_;refine Px (Zw 97) λb0 _=>?_|refine Zag 4 11 O7 ?_ ?_|refine Zai 4 O7 ?_|refine Zai 8 O7 ?_|refine Zai 10 O7 ?_|refine Zag 8 11 O7 ?_ ?_|refine Zag 10 11 O7 ?_ ?_|refine Zai 11 O7 ?_|refine Zc5 6 0 O7 ?_;refine Xc rfl rfl (Xl (Zv 93 k rfl rfl rfl rfl Zc An Zc7 rfl (show k<3 by omega))) ?_;refine go 1 ?_|refine Zc5 7 0 O7 ?_;refine Xc rfl rfl (Xl (Yw 93 C0 rfl rfl rfl Zc pC (show k<3 by omega))) ?_;refine go 1 ?_|refine Zc5 12 3 O7 ?_;refine go 2 ?_|refine Zo ?_ O7;exact Oc (_,_,_,_,_) (q_val s p Q H) ⟨rfl,aA⟩ ⟨rfl,rfl,rfl,aA⟩
      .rintro⟨q7,q8,e,c,ba⟩ I;dsimp only at I;dsimp only;have a0:bl ((ps.getD j G0).1.2.2).natAbs<=64:=Li b.3;have a3:=((Zps I (q_inv 64 (x:=(ps.getD j G0).1.2.2) O1 a0 O4)).mono (show 27500+64<=28000 by decide)).cg pzQ_q;refine Pj [1,97] [13]<|Zj 3 [(0,0),(1,0),(3,0),(4,0),(5,0),(6,0),(7,0),(2,1),(8,1),(9,0),(10,1)]<|go 4 ?_;refine Xc J J (Ga (Zv 1 j J J J J Zc Lz Ir J) K2)<|Xc J J (Ga (Mb 1 J J J Zc Dl J Kx J) K2)<|Xc J J (Ga (Mj 1 G0 J J J Zc iA3 J) K2)<|Yn (Zl 98 [] (Qr 1 ⟨O4,O4⟩)) λd0 _=>Yn (Zl 99 [] (Qr (ps.getD j G0).1.2.2 b.3)) λd1 _=>?_;refine Xc J J (Ga (Xy [(0,_),(1,_)] J K4 (λa w hs=>Zad)) K2)<|Yn (Zl 100 [95,96,98,99] (Zza e c 1 (ps.getD j G0).1.2.2 (aB I.a O4) (aB I.b O4) I.ne)) λY _=>go 1 ?_;obtain⟨ga,gb⟩:=Y;refine Zks (Xp 100 J Zr) (λs8 a4=>?_);obtain rfl:ga=Xk s8:=a4;refine Zks (Xp 101 J Zr) (λR a5=>?_);obtain rfl:gb=Xk R:=a5;refine Zj 0 [(11,1),(12,1),(13,3)]<|Kp J (Xx [(0,_)] 102 (enc:=Yad) [((((e*1/Qi (e*1) (c*(ps.getD j G0).1.2.2)),s8),((c*(ps.getD j G0).1.2.2/Qi (e*1) (c*(ps.getD j G0).1.2.2)),R)):QzT)] J J K2 underlying150 ti91 J J J J J pZq.cells J J hw.h) (λb1 _=>?_);refine Kp J (Za5 74 J J J K2 (λt=>(Cg 74 102 64 J J J J J J O4 J (Zz pZq) underlying150 ti91 J pZq J J J (by have:=S.1;simp;omega) O4 J hw.h t))) λb2 _=>go 2 ?_;refine Zo<|go 7 ⟨O1,?_⟩;exact Zp (Yi qI 71)<|Zp (Zq (q:=qI) (z:=((e*1/Qi (e*1) (c*(ps.getD j G0).1.2.2)),s8)) 71 100 71 J J J J J)<|Zp (Zq (q:=qI) (z:=((c*(ps.getD j G0).1.2.2/Qi (e*1) (c*(ps.getD j G0).1.2.2)),R)) 71 101 71 J J J J J)<|Zp (Zq (q:=qq) (z:=((((e*1/Qi (e*1) (c*(ps.getD j G0).1.2.2)),s8),((c*(ps.getD j G0).1.2.2/Qi (e*1) (c*(ps.getD j G0).1.2.2)),R)):QzT)) 76 71 76 J J J J J)<|Yh (k+1,_,zs ++ [((((e*1/Qi (e*1) (c*(ps.getD j G0).1.2.2)),s8),((c*(ps.getD j G0).1.2.2/Qi (e*1) (c*(ps.getD j G0).1.2.2)),R)):QzT)]) ⟨O2,plQ_s S a3⟩ O2 K2 K2
     .obtain rfl:k=3:=O1;refine go 18<|Zp (Xo 74 J J pZq)<|Zp (Xq 74 76 78 J J J J) ?_;exact Nm a6 (vo,zs) results101 J ⟨j,O1,⟨P,Z⟩,S⟩ (Ph 78 Za)
 .exfalso;exact pl_no V l2 (λm hm=>hk m O1)
theorem Zzz{u:Value}(c d:List Zk)(D x t:Int)(T:Rat)(hD:dsB D=true)(Q:∀g∈c,Gin g)(R:∀g∈d,Gin g)(B:Yf c=true)(F:Yf d=true)(Y:QOK x t T 5400)(N:(spF c:Rat)<=T/\T<=(spL c:Rat))(P:(spF d:Rat)<=T/\T<=(spL d:Rat)):Cal prog 46 #[va,vb,.int .i64 D,.agg #[.bool (decide (x<0)),w,.bool (decide (t<0)),u]] [Xn 6 Xv qG va c,Xn 6 Xv qG vb d,Pn w (x).natAbs,Pn u (t).natAbs] false (G:=Bool) (λn=>ClsI c d D T n) (λn=> .bool n) (λn=>[]):=by
 refine Zg func46 ntmps46 λw0 sc hw S=>?_;obtain⟨d1,d2⟩:=Ys1 hD;have a5:bl D.natAbs<=64:=Li ⟨O1,O1⟩;have a4:bl (1:Int).natAbs<=22:=O4;have a3:=Zy D D;refine go 2<|Yd (Yk 5) λbx _=>go 7 ?_;refine cl 6 [1,3,4] (Zp3 x t T Q B Y N) λj H=>go 8 ?_;obtain⟨y,I,ia,r⟩:=H;refine go 3 ?_;refine cl 7 [2,3,4] (Zp3 x t T R F Y P) λZkk m=>go 9 ?_;obtain⟨z,M,ib,s⟩:=m;refine go 14 ?_;refine cl 98 [] (Qr 0 ⟨O4,O4⟩) λv _=>cl 99 [] (Qr 1 ⟨O4,O4⟩) λa6 _=>?_;refine dt (Xy [(0,_),(1,_)] J K4 (λa w hs=>Zad))<|Yd (Zw 97) λo _=>go 10 ?_;refine lp (G:=Nat×Value×Value×Int×Int) [2,9,11,13] [0,1,2,3,4,5,6,7] (λq=>[(14,.int .i64 (q.1:Int))]) (λq=>[(98,Pn q.2.1 (q.2.2.2.1).natAbs),(99,Pn q.2.2.1 (q.2.2.2.2).natAbs),(97,box o 91 #[.bool (decide (q.2.2.2.1<0)),q.2.1,.bool (decide (q.2.2.2.2<0)),q.2.2.1])]) (λq=>(q.1<=3)/\(QOK q.2.2.2.1 q.2.2.2.2 (sq3 (λi=>pzQ (c.getD y G0) i (sR (c.getD y G0) T)-pzQ (d.getD z G0) i (sR (d.getD z G0) T)) q.1) (112100*q.1+1))) (λq=>3-q.1) (0,_,_,0,1) ⟨O2,sq_0⟩ K1 K3 ?_;rintro⟨k,vn,vd,sn,Z⟩ ⟨hk,l⟩;dsimp only at hk l;dsimp only;refine go 7<|Ze J (λp=>?_) (λp=>?_)
 .refine go 4 ?_;refine jn (G:=Value×Value×Int×Int×Nat) [2,9,11,13,14] [0,98,99,97,1,2,3,4,5,6,7] (λq=>[(15,.pointer (some ⟨q.2.2.2.2,0,none⟩))]) (λq=>[(80,Pn q.1 (q.2.2.1).natAbs),(81,Pn q.2.1 (q.2.2.2.1).natAbs),(82,box q.2.2.2.2 91 #[.bool (decide (q.2.2.1<0)),q.1,.bool (decide (q.2.2.2.1<0)),q.2.1])]) (λq=>QOK q.2.2.1 q.2.2.2.1 ((λi=>pzQ (c.getD y G0) i (sR (c.getD y G0) T)-pzQ (d.getD z G0) i (sR (d.getD z G0) T)) k) 56001) ?_ ?_
  .refine Zf (Yqv (j.2.getD k QZ0) ((j.2.getD k QZ0).1) 6 51 J J (Zd (by rw [r.1];omega)) O6)<|Zf (Yqv (j.2.getD k QZ0) ((j.2.getD k QZ0).2) 6 52 J J (Zd (by rw [r.1];omega)) O6) ?_;have e:=r.2 k O1;refine Zf (Yqv (Zkk.2.getD k QZ0) ((Zkk.2.getD k QZ0).1) 7 53 J J (Zd (by rw [s.1];omega)) O6)<|Zf (Yqv (Zkk.2.getD k QZ0) ((Zkk.2.getD k QZ0).2) 7 54 J J (Zd (by rw [s.1];omega)) O6) ?_;have f:=s.2 k O1;refine Lo (λ_=>False) [10]<|Zj 3 [(0,0),(1,0),(2,0),(3,0),(4,0),(5,0),(6,0),(7,0)]<|go 2 ?_;refine Xc J J (Xl (Zv 6 k J J J J Zc underlying150 sizeOf91 J (by rw [r.1];omega)))<|Xc J J (Xl (Yw 6 QZ0 J J J Zc pZq (by rw [r.1];omega)))<|go 2 ?_;refine Xc J J (Xl (Zv 7 k J J J J Zc underlying150 sizeOf91 J (by rw [s.1];omega)))<|Xc J J (Xl (Yw 7 QZ0 J J J Zc pZq (by rw [s.1];omega)))<|go 1 ?_;refine Qq 2 8 9 ?_ ?_
   .refine Px (Zl 80 [51,52,53,54] (Zy8 ((j.2.getD k QZ0).1.1) ((j.2.getD k QZ0).2.1) ((Zkk.2.getD k QZ0).1.1) ((Zkk.2.getD k QZ0).2.1) (aB e.a O4) (aB e.b O4) (aB f.a O4) (aB f.b O4) e.ne f.ne)) λg _=>?_;refine Zj 0 [(9,1),(10,3)]<|Yn (Zw 82) λV _=>go 2 ?_;exact Zo<|Oc (_,_,_,_,_) (Ycl e f) K1 K3
   .refine Px (Zw 82) λW _=>?_;refine Zj 0 [(8,1),(10,3)]<|Yn (Zl 80 [51,52,53,54] (Zy8 ((j.2.getD k QZ0).1.1) ((j.2.getD k QZ0).2.1) ((Zkk.2.getD k QZ0).1.1) ((Zkk.2.getD k QZ0).2.1) (aB e.a O4) (aB e.b O4) (aB f.a O4) (aB f.b O4) e.ne f.ne)) λa0 _=>go 2 ?_;exact Zo<|Oc (_,_,_,_,_) (Ycl e f) K1 K3
  .rintro⟨q1,q2,dn,h,n⟩ b;dsimp only at b;dsimp only;refine Qb (λ_=>False) [(0,0),(1,0),(2,0),(3,1),(4,1),(5,3)]<|go 3<|Yn (Zl 83 [80,81,80,81] (Zza dn h dn h (aB b.a O4) (aB b.b O4) b.ne (aB b.a O4) (aB b.b O4) b.ne)) λa1 _=>Yn (Zl 85 [98,99,83,84] (r_addq sn Z (dn*dn/Qi (dn*dn) (h*h)) (h*h/Qi (dn*dn) (h*h)) (aB l.a O1) (aB l.b O1) (aB (Zps b b).a O4) (aB (Zps b b).b O4) l.ne (Zps b b).ne)) λa2 _=>?_;refine go 9 ⟨O1,?_⟩;exact Zp (Xs 85 98 J J J)<|Zp (Xs 86 99 J J J)<|Yh (k+1,_,_,_,_) ⟨O2,(q_add l (Zps b b)).mono O10⟩ O2 K1 K3
 .obtain rfl:k=3:=O1;refine go 6<|Qb (λ_=>False) [(0,0),(1,0),(3,0),(2,1),(4,1),(5,1),(6,1),(7,0),(8,1),(9,0),(10,3)]<|go 3<|Yn (Zl 8 [] (Qr D)) λa7 _=>Yn (Zl 9 [] (Qr D)) λa8 _=>Yn (Zl 10 [8,9] (Ni D D)) λa9 _=>Yn (Zl 11 [] (Qr 1 ⟨O4,O4⟩)) λb0 _=>?_;refine Xc J J (Xl (Xy [(0,_),(1,_)] J K4 (λa w hs=>Zad)))<|Yn (Zl 11 [98,99,10,11] (Zcm sn Z (D*D) 1 (aB l.a O4) (aB l.b O4))) λ_ _=>go 5 ?_;exact Xh S _ results46 J (clo_of I M ia ib l) Za
theorem Zev{x y z:Int}:Qe prog 160 #[.int .i64 x,.int .i64 y,.int .i64 z] [] (.agg #[.int .i64 x,.int .i64 y,.int .i64 z]):=by refine Zg func160 ntmps160 λf e d b=>go 2 ?_;refine Yd (Zw 1) λc _=>go 7 ?_;refine dt (Xy [(0,_),(1,_),(2,_)] J K6 (λa w hs=>Yuc ((Yg J) a w hs) ((Yg J) a w hs) ((Yg J) a w hs)))<|go 4 ?_;exact Xh b () results160 J aA Za
theorem Zp4:Cal prog 90 #[] [] true (G:=Value×GvT) (λr=>True) (λr=>r.1) (λr=>[Xn 1 Znu qP r.1 (gvs r.2)]):=by refine Zg func90 ntmps90 λB y p s=>go 7 ?_;refine cl 0 [] Zev λ_ _=>cl 0 [] Zev λ_ _=>cl 1 [] (Zro 0 0 0 1000 0 0 0 1000 1 ⟨O4,O4⟩ ⟨O4,O4⟩ ⟨O4,O4⟩ ⟨O4,O4⟩ ⟨O4,O4⟩ ⟨O4,O4⟩) λ⟨i,a,b⟩ _=>?_;refine tt (Xx [(0,_)] 4 (enc:=Xv) [gv0 (i,a,b)] J J K2 Lz ti35 J J Zjf J J pG.cells J J p.h) (λv _=>?_);refine Xg (Xo 4 J J pG)<|Xg (Yi qC 71)<|Xg (Zq (q:=qC) (z:=(gv0 (i,a,b)).2.1) 71 1 71 J J J J J)<|Xg (Zq (q:=qC) (z:=(gv0 (i,a,b)).2.2.1) 71 2 71 J J J J J)<|Xg (Zq (q:=qC) (z:=(gv0 (i,a,b)).2.2.2) 71 3 71 J J J J J)<|Xg (Yi qG 73)<|Xg (Zq (q:=qG) (z:=(gv0 (i,a,b))) 73 71 73 J J J J J)<|Xg (Xq 4 73 81 J J J J)<|Zkj (Xp 81 J Zc) (λj m=>?_);subst m;refine cl 4 [] Zev λ_ _=>cl 4 [] Zev λ_ _=>cl 5 [] (Zro 1000 300 0 0 300 0 0 1000 1 ⟨O4,O4⟩ ⟨O4,O4⟩ ⟨O4,O4⟩ ⟨O4,O4⟩ ⟨O4,O4⟩ ⟨O4,O4⟩) λ⟨c,d,e⟩ _=>?_;refine tt (Xx [(0,_)] 8 (enc:=Xv) [gv1 (c,d,e)] J J K2 Lz ti35 J J Zjf J J pG.cells J J p.h) (λt _=>?_);refine Xg (Xo 8 J J pG)<|Xg (Yi qC 71)<|Xg (Zq (q:=qC) (z:=(gv1 (c,d,e)).2.1) 71 5 71 J J J J J)<|Xg (Zq (q:=qC) (z:=(gv1 (c,d,e)).2.2.1) 71 6 71 J J J J J)<|Xg (Zq (q:=qC) (z:=(gv1 (c,d,e)).2.2.2) 71 7 71 J J J J J)<|Xg (Yi qG 73)<|Xg (Zq (q:=qG) (z:=(gv1 (c,d,e))) 73 71 73 J J J J J)<|Xg (Xq 8 73 82 J J J J)<|Zkj (Xp 82 J Zc) (λk n=>?_);subst n;refine cl 8 [] Zev λ_ _=>cl 8 [] Zev λ_ _=>cl 9 [] (Zro 0 700 0 0 700 0 500 2000 2 ⟨O4,O4⟩ ⟨O4,O4⟩ ⟨O4,O4⟩ ⟨O4,O4⟩ ⟨O4,O4⟩ ⟨O4,O4⟩) λ⟨f,g,h⟩ _=>?_;refine tt (Xx [(0,_)] 12 (enc:=Xv) [gv2 (f,g,h)] J J K2 Lz ti35 J J Zjf J J pG.cells J J p.h) (λu _=>?_);refine Xg (Xo 12 J J pG)<|Xg (Yi qC 71)<|Xg (Zq (q:=qC) (z:=(gv2 (f,g,h)).2.1) 71 9 71 J J J J J)<|Xg (Zq (q:=qC) (z:=(gv2 (f,g,h)).2.2.1) 71 10 71 J J J J J)<|Xg (Zq (q:=qC) (z:=(gv2 (f,g,h)).2.2.2) 71 11 71 J J J J J)<|Xg (Yi qG 73)<|Xg (Zq (q:=qG) (z:=(gv2 (f,g,h))) 73 71 73 J J J J J)<|Xg (Xq 12 73 83 J J J J)<|Zkj (Xp 83 J Zc) (λl o=>?_);subst o;refine tt (Xx [(0,_),(1,_),(2,_)] 13 (enc:=Znu) ([(j,[gv0 (i,a,b)]),(k,[gv1 (c,d,e)]),(l,[gv2 (f,g,h)])]:List PT) J J K6 Yfk ti38 J J J J J pPq.cells J J p.h) λx _=>go 4 ?_;exact Zp (Xo 13 J J pPq)<|Zp (Yi qP 71)<|Zp (Zq (q:=qP) (z:=((j,[gv0 (i,a,b)]):PT)) 71 81 71 J J J J J)<|Zp (Zq (q:=qP) (z:=((k,[gv1 (c,d,e)]):PT)) 71 82 71 J J J J J)<|Zp (Zq (q:=qP) (z:=((l,[gv2 (f,g,h)]):PT)) 71 83 71 J J J J J)<|Zp (Xq 13 71 90 J J J J)<|Xh s (_,(((i,a,b),(c,d,e),(f,g,h)),(j,k,l))) results90 J aA (Ph 90 Za)
theorem Zwz(d a b c:Int)(n:dsB d=true)(f:Nc a)(h:Nc b)(i:Nc c)(j:fmZ d 1 1 1 1 (Be 0 1000 1) (Be 0 0 1) (Be 0 0 1) (Be 1000 0 1) (Be 300 300 1) (Be 0 0 1)=tzl [a,b,c]):Qe prog 91 #[.int .i64 d,.int .i64 a,.int .i64 b,.int .i64 c] [] (.bool true):=by refine Zg func91 ntmps91 λt s o m=>go 7 ?_;refine cl 1 [] Zp4 λ⟨r,e⟩ _=>go 4<|Zf (Nd 1 61 (e.2.1,[(gv0 e.1.1)]) J J (.head _) J)<|Zf (Nd 1 62 (e.2.2.1,[(gv1 e.1.2.1)]) J J (.tail _ (.head _)) J)<|Zf (Pf (gv0 e.1.1) ((gv0 e.1.1).2.1) 61 51 J J (bN.2 J) O6)<|Zf (Pf (gv0 e.1.1) ((gv0 e.1.1).2.2.1) 61 52 J J (bN.2 J) O6)<|Zf (Pf (gv0 e.1.1) ((gv0 e.1.1).2.2.2) 61 53 J J (bN.2 J) O6)<|Zf (Pf (gv1 e.1.2.1) ((gv1 e.1.2.1).2.1) 62 54 J J (bN.2 J) O6)<|Zf (Pf (gv1 e.1.2.1) ((gv1 e.1.2.1).2.2.1) 62 55 J J (bN.2 J) O6)<|Zf (Pf (gv1 e.1.2.1) ((gv1 e.1.2.1).2.2.2) 62 56 J J (bN.2 J) O6)<|Qb (λ_=>False) [(0,0),(1,0),(2,0),(3,0),(4,0),(5,0),(6,0),(7,0),(8,0),(9,0),(10,0),(11,1),(12,0),(13,0),(14,0),(15,0),(16,3)]<|go 2 ⟨show(0:Nat)<3 from by decide,?_⟩;refine Xc J J (Xl (Yz (Xk e.2.1) (Yw 1 PT0 J J J Zc pPq (show(0:Nat)<3 from by decide)) J))<|go 1 ⟨O6,?_⟩;refine Xc J J (Xl (Yw 61 G0 J J J Zc pG O6))<|go 2 ⟨show(1:Nat)<3 from by decide,?_⟩;refine Xc J J (Xl (Yz (Xk e.2.2.1) (Yw 1 PT0 J J J Zc pPq (show(1:Nat)<3 from by decide)) J))<|go 1 ⟨O6,?_⟩;refine Xc J J (Xl (Yw 62 G0 J J J Zc pG O6))<|go 1 ?_;refine Yn (Zl 2 [51,52,53,54,55,56] (Yqq 0 1000 1 0 1000 1 (Be 0 1000 1) (Be 0 0 1) (Be 0 0 1) (Be 1000 0 1) (Be 300 300 1) (Be 0 0 1) d ⟨O4,O4⟩ ⟨O4,O4⟩ ⟨O4,O4⟩ (Oy O4) (Oy O4) (Oy O4) ⟨O4,O4⟩ ⟨O4,O4⟩ ⟨O4,O4⟩ (Oy O4) (Oy O4) (Oy O4) gs_0 gs_1 J J n)) λq k=>go 10<|kt (aG J)<|go 5 ?_;refine gtt (Xx [(0,_),(1,_),(2,_)] 3 (enc:=Yj) ([a,b,c]:List Int) J J K6 Py ti3 J J J J J pZ.cells J J o.h) J J J J (λv _=>?_);refine Xg (Xo 3 J J pZ)<|Hu 4 [3] (Zq6 [a,b,c] (Ygz f h i) O6) λg l=>Hu 5 [4] (Yjr (Ybh (Ygz f h i) O6 l).1 (Ybh (Ygz f h i) O6 l).2) λp _=>Hu 5 [2,5] Zpn λ_ _=>?_;refine kt (aG (by rw [k,j,l]))<|go 4 ?_;exact Xh m () results91 J aA Za
theorem Zwy(a b:List Zk)(c:Int)(j:∀g∈a,Gin g)(k:∀g∈b,Gin g)(d:Yf a=true)(e:Yf b=true)(f:a.length<=5)(h:b.length<=5)(m:Mx a b=0)(q:Ma 0 1 1 a b≠[])(p:1<=c/\c<4194304)(n:Fw c 1 1 a b=true)(o:Fw (c+1) 1 1 a b=false):Qe prog 92 #[va,vb,.int .i64 c] [Xn 6 Xv qG va a,Xn 6 Xv qG vb b] (.bool true):=by refine Zg func92 ntmps92 λu t r l=>go 9 ?_;refine cl 2 [1,2] (Zq2 _ _ j k d e f h) λs i=>?_;obtain rfl:=nr_is i m q p n o;refine go 10<|kt (aG J)<|go 3<|ktg (aG J)<|go 5 ?_;exact Xh l () results92 J aA Za
theorem Ec:Cal Tryz.prog 36 #[] [] false (G:=Unit) (λ_=>True) (λ_=> .bool true) (λ_=>[]):=by
 refine Zg Tryz.func36 Tryz.ntmps36 λY W m k=>?_;refine go 7 ?_;refine cl 1 [] Zp4 λ⟨Q,c⟩ _=>?_;refine go 4 ?_;refine Zf (Nd 1 61 (c.2.1,[(gv0 c.1.1)]) rfl rfl (.head _) rfl) ?_;refine Zf (Nd 1 62 (c.2.2.1,[(gv1 c.1.2.1)]) rfl rfl (.tail _ (.head _)) rfl) ?_;refine Zf (Nd 1 63 (c.2.2.2,[(gv2 c.1.2.2)]) rfl rfl (.tail _ (.tail _ (.head _))) rfl) ?_;refine Qb (λ_=>False) [(0,0),(1,0),(2,0),(3,0),(4,0),(5,0),(6,1),(7,0),(8,0),(9,0),(10,0),(11,3)] ?_;refine go 2 ⟨show(0:Nat)<3 from by decide,?_⟩;refine Xc rfl rfl (Xl (Yz (Xk c.2.1) (Yw 1 PT0 rfl rfl rfl Zc pPq (show(0:Nat)<3 from by decide)) rfl)) ?_;refine go 2 ⟨show(1:Nat)<3 from by decide,?_⟩;refine Xc rfl rfl (Xl (Yz (Xk c.2.2.1) (Yw 1 PT0 rfl rfl rfl Zc pPq (show(1:Nat)<3 from by decide)) rfl)) ?_;refine Yn (Zl 1 [61,62] (Zbo [(gv0 c.1.1)] [(gv1 c.1.2.1)] 300 Zkm Yg4 (Zkl _) (Yg1 _) (show(1:Nat)<=5 from by decide) (show(1:Nat)<=5 from by decide) O4)) λ_ _=>?_;refine go 8 ?_;refine Qb (λ_=>False) [(0,0),(1,0),(2,0),(3,0),(4,0),(5,0),(6,1),(7,0),(8,0),(9,0),(10,0),(11,3)] ?_;refine go 2 ⟨show(0:Nat)<3 from by decide,?_⟩;refine Xc rfl rfl (Xl (Yz (Xk c.2.1) (Yw 1 PT0 rfl rfl rfl Zc pPq (show(0:Nat)<3 from by decide)) rfl)) ?_;refine go 2 ⟨show(1:Nat)<3 from by decide,?_⟩;refine Xc rfl rfl (Xl (Yz (Xk c.2.2.1) (Yw 1 PT0 rfl rfl rfl Zc pPq (show(1:Nat)<3 from by decide)) rfl)) ?_;refine Yn (Zl 1 [61,62] (Zbo [(gv0 c.1.1)] [(gv1 c.1.2.1)] 301 Zkm Yg4 (Zkl _) (Yg1 _) (show(1:Nat)<=5 from by decide) (show(1:Nat)<=5 from by decide) O4)) λ_ _=>?_;refine go 9 ?_;refine Qb (λ_=>False) [(0,1),(1,0),(2,0),(3,1),(4,0),(5,0),(6,0),(7,0),(8,0),(9,0),(10,0),(11,0),(12,0),(13,0),(14,0),(15,0),(16,0),(17,0),(18,0),(19,0),(20,0),(21,0),(22,0),(23,0),(24,0),(25,0),(26,0),(27,0),(28,1),(29,0),(30,0),(31,0),(32,0),(33,0),(34,0),(35,0),(36,0),(37,0),(38,1),(39,0),(40,0)] ?_;refine Yn (Zl 1 [] (Zwz 300 1 (-4) 4 O4 ⟨O4,O4⟩ ⟨O4,O4⟩ ⟨O4,O4⟩ gf_1)) λ_ _=>?_;refine go 2 ?_;refine Zfu rfl rfl rfl rfl rfl (Xe 1 (Zwz 400 93 (-400) 400 O4 ⟨O4,O4⟩ ⟨O4,O4⟩ ⟨O4,O4⟩ gf_2) rfl rfl rfl ⟨rfl,rfl,rfl,rfl,aA⟩ Tryz.call91 Zn rfl m.h) (λ_ _=>?_);refine go 4 ?_;refine Em (Xl (Yz ( .bool false) (Yq rfl rfl) (aD (λb=>Value.bool (!b)) (Ymr _ _)))) rfl rfl rfl rfl rfl ?_;refine go 2 ?_;refine Em (Xl (Yz ( .bool false) (Zbd rfl rfl) (aD Value.bool (ga_2 _ _)))) rfl rfl rfl rfl rfl ?_;refine go 3 ?_;refine Em (Xl (Yz ( .bool false) (Znz rfl rfl rfl) (aD Value.bool (aI (λh=>h (Yg5 _ _)))))) rfl rfl rfl rfl rfl ?_;refine go 3 ?_;refine Em (Xl (Yz ( .bool false) (Znz rfl rfl rfl) (aD Value.bool (aI (λh=>h (Yg5 _ _)))))) rfl rfl rfl rfl rfl ?_;refine go 4 ⟨show(0:Nat)<3 from by decide,?_⟩;refine Em (Xl (Yz (Xk c.2.1) (Yw 1 PT0 rfl rfl rfl Zc pPq (show(0:Nat)<3 from by decide)) rfl)) rfl rfl rfl rfl rfl ?_;refine go 2 ⟨show(1:Nat)<3 from by decide,?_⟩;refine Em (Xl (Yz (Xk c.2.2.1) (Yw 1 PT0 rfl rfl rfl Zc pPq (show(1:Nat)<3 from by decide)) rfl)) rfl rfl rfl rfl rfl ?_;refine Zfu rfl rfl rfl rfl rfl (Xe 1 (Zwy [(gv0 c.1.1)] [(gv1 c.1.2.1)] 300 Zkm Yg4 (Zkl _) (Yg1 _) (show(1:Nat)<=5 from by decide) (show(1:Nat)<=5 from by decide) (Yg5 _ _) (Ylo (gz_1 _ _)) ⟨O4,O4⟩ (Ymr _ _) (ga_2 _ _)) rfl rfl rfl ⟨rfl,rfl,rfl,aA⟩ Tryz.call92 (Zm 61 rfl rfl rfl (Zm 62 rfl rfl rfl Zn)) rfl m.h) (λ_ _=>?_);refine go 5 ⟨show(0:Nat)<3 from by decide,?_⟩;refine Em (Xl (Yz (Xk c.2.1) (Yw 1 PT0 rfl rfl rfl Zc pPq (show(0:Nat)<3 from by decide)) rfl)) rfl rfl rfl rfl rfl ?_;refine go 2 ⟨show(2:Nat)<3 from by decide,?_⟩;refine Em (Xl (Yz (Xk c.2.2.2) (Yw 1 PT0 rfl rfl rfl Zc pPq (show(2:Nat)<3 from by decide)) rfl)) rfl rfl rfl rfl rfl ?_;refine Zfu rfl rfl rfl rfl rfl (Xe 1 (Zwy [(gv0 c.1.1)] [(gv2 c.1.2.2)] 860 Zkm gg_2 (Zkl _) (Zkk _) (show(1:Nat)<=5 from by decide) (show(1:Nat)<=5 from by decide) (ge_2 _ _) (Ylo (gz_2 _ _)) ⟨O4,O4⟩ (ga_3 _ _) (ga_4 _ _)) rfl rfl rfl ⟨rfl,rfl,rfl,aA⟩ Tryz.call92 (Zm 61 rfl rfl rfl (Zm 63 rfl rfl rfl Zn)) rfl m.h) (λ_ _=>?_);refine go 8 ?_;refine Qb (λ_=>False) [(0,0),(1,0),(2,0),(3,0),(4,0),(5,0),(6,1),(7,0),(8,0),(9,0),(10,0),(11,3)] ?_;refine go 2 ⟨show(0:Nat)<3 from by decide,?_⟩;refine Xc rfl rfl (Xl (Yz (Xk c.2.1) (Yw 1 PT0 rfl rfl rfl Zc pPq (show(0:Nat)<3 from by decide)) rfl)) ?_;refine go 2 ⟨show(2:Nat)<3 from by decide,?_⟩;refine Xc rfl rfl (Xl (Yz (Xk c.2.2.2) (Yw 1 PT0 rfl rfl rfl Zc pPq (show(2:Nat)<3 from by decide)) rfl)) ?_;refine Yn (Zl 2 [61,63] (Zgu [(gv0 c.1.1)] [(gv2 c.1.2.2)] 860 Zkm gg_2 (Zkl _) (Zkk _) (show(1:Nat)<=5 from by decide) (show(1:Nat)<=5 from by decide) O4)) λP p=>?_;refine go 11 ?_;refine kf (aI (λh=>h (ge_2 _ _))) ?_;refine go 2 ?_;refine gtt (Xx [(0,_),(1,_),(2,_)] 3 (enc:=Yj) ([1,1250,625]:List Int) rfl rfl ⟨rfl,rfl,rfl,rfl,rfl,rfl,aA⟩ Tryz.underlying33 Tryz.ti3 rfl rfl rfl rfl rfl pZ.cells rfl rfl m.h) rfl rfl rfl rfl (λv _=>?_);refine Xg (Xo 3 rfl rfl pZ) ?_;refine Hu 4 [3] (Zq6 [1,1250,625] (Ygz ⟨O4,O4⟩ ⟨O4,O4⟩ ⟨O4,O4⟩) O6) λg o=>?_;refine Hu 5 [4] (Yjr (Ybh (Ygz ⟨O4,O4⟩ ⟨O4,O4⟩ ⟨O4,O4⟩) O6 o).1 (Ybh (Ygz ⟨O4,O4⟩ ⟨O4,O4⟩ ⟨O4,O4⟩) O6 o).2) λI _=>?_;refine Zkj (Xp 5 rfl Zr) (λn l=>?_);subst l;refine Hk (Xy [(0,_),(1,_),(2,_)] rfl ⟨rfl,rfl,rfl,rfl,rfl,rfl,aA⟩ (λa w hs=>Zol ((Yg rfl) a w hs) ((Yg rfl) a w hs) ((Yg rfl) a w hs))) rfl rfl ?_;refine gtt (Xx [(0,_)] 6 (enc:=Hm) [((((500,1000),(n,Zb g.2)):Ad))] rfl rfl ⟨rfl,rfl,aA⟩ Tryz.underlying50 Tryz.ti130 rfl rfl Ym0 rfl rfl pGp.cells rfl rfl m.h) rfl rfl rfl rfl (λM _=>?_);refine Xg (Xo 6 rfl rfl pGp) ?_;refine Xg (Yi qGp 76) ?_;refine Xg (Zq (q:=qGp) (z:=((((500,1000),(n,Zb g.2)):Ad))) 76 5 76 rfl rfl rfl rfl rfl) ?_;refine Xg (Xq 6 76 78 rfl rfl rfl rfl) ?_;refine Hu 6 [2,78] (Ykc (p.trans ((gz_3 _ _).trans (by rw [<-o];rfl)))) λ_ _=>?_;refine go 10 ?_;refine cl 6 [1] (Zvb 300 gvs_P gvs_V gvs_L gvs_n O4) λV t=>?_;obtain rfl:=Zx6 t (gcl_0 c);refine go 4 ?_;refine Yd (Zw 7) λN _=>?_;refine go 8 ?_;refine cl 7 [1] (Zvb 301 gvs_P gvs_V gvs_L gvs_n O4) λD i=>?_;obtain rfl:=Zx6 i (gcl_1 c);refine go 4 ?_;refine Yd (Zw 8) λu _=>?_;refine go 6 ?_;refine Pj [1] [12] ?_;refine Zj 7 [(0,0),(1,0),(2,0),(3,0),(4,0),(5,0)] ?_;refine go 2 ⟨show(0:Nat)<3 from by decide,?_⟩;refine Xc rfl rfl (Ga (Yz (Xk c.2.1) (Yw 1 PT0 rfl rfl rfl Zc pPq (show(0:Nat)<3 from by decide)) rfl) ⟨rfl,aA⟩) ?_;refine go 2 ⟨show(1:Nat)<3 from by decide,?_⟩;refine Xc rfl rfl (Ga (Yz (Xk c.2.2.1) (Yw 1 PT0 rfl rfl rfl Zc pPq (show(1:Nat)<3 from by decide)) rfl) ⟨rfl,aA⟩) ?_;refine go 1 ?_;refine Qq 6 6 10 ?_ ?_
 .refine Px (Zl 8 [61,62] (Ziu [(gv0 c.1.1)] [(gv1 c.1.2.1)] 300 Zkm Yg4 (Zkl _) (Yg1 _) (show(1:Nat)<=5 from by decide) (show(1:Nat)<=5 from by decide) O4 (Yg5 _ _) (Ymr _ _))) λ_ _=>?_;refine Zj 0 [(7,0),(8,0),(9,0),(10,1),(11,1),(12,3)] ?_;refine go 3 ?_;refine Yn (Qf 9) λx R=>?_;refine go 3 ?_;refine Zo ?_;refine go 5 ⟨show(0:Nat)<3 from by decide,?_⟩;refine dt (Yz (Xk c.2.1) (Yw 1 PT0 rfl rfl rfl Zc pPq (show(0:Nat)<3 from by decide)) rfl) ?_;refine cl 10 [61] (Zgo [gv0 c.1.1] 1000 Zkm (Zkl _)) λF r=>?_;obtain⟨t9,d⟩:=Zu3 r;refine go 11 ⟨show(0:Nat)<3 from by decide,?_⟩;refine dt (Yz (Xk c.2.1) (Yw 1 PT0 rfl rfl rfl Zc pPq (show(0:Nat)<3 from by decide)) rfl) ?_;refine go 1 ?_;refine cl 10 [61,10] (Zq2 [gv0 c.1.1] F.2.1 Zkm (by rw [d];exact gg_L) (Zkl _) (by rw [d];exact gp_L _) (show(1:Nat)<=5 from by decide) (by rw [d];exact(show(1:Nat)<=5 from by decide))) λS s=>?_;obtain rfl:=Zwd s (by rw [d];exact gnr_L);refine go 10 ?_;refine dt (Yz ( .bool true) (Yq rfl rfl) rfl) ?_;refine go 2 ?_;refine ktg (aG rfl) ?_;refine go 2 ?_;refine Hk (Yz ( .bool true) (Zbd rfl rfl) rfl) rfl rfl ?_;refine go 3 ?_;refine ktg (aG rfl) ?_;refine go 3 ?_;refine Hk (Xy [(0,_),(1,_),(2,_),(3,_)] rfl ⟨rfl,rfl,rfl,rfl,rfl,rfl,rfl,rfl,aA⟩ (λa w hs=>Zoj ((Yg rfl) a w hs) ((Yg rfl) a w hs) ((Yg rfl) a w hs) ((Yg rfl) a w hs))) rfl rfl ?_;refine Hk (Zdy rfl rfl rfl egCl (λw=>eqCl w)) rfl rfl ?_;refine go 3 ?_;refine ktg (aG rfl) ?_;refine go 3 ?_;refine ktg (aG rfl) ?_;refine go 5 ?_;exact Xh k () Tryz.results36 rfl aA Za
 .refine Px (Qf 11) λy H=>?_;refine Zj 0 [(6,1),(7,0),(8,0),(9,0),(11,1),(12,3)] ?_;refine Yn (Zl 11 [61,62] (Ziu [(gv0 c.1.1)] [(gv1 c.1.2.1)] 300 Zkm Yg4 (Zkl _) (Yg1 _) (show(1:Nat)<=5 from by decide) (show(1:Nat)<=5 from by decide) O4 (Yg5 _ _) (Ymr _ _))) λ_ _=>?_;refine go 6 ?_;refine Zo ?_;refine go 5 ⟨show(0:Nat)<3 from by decide,?_⟩;refine dt (Yz (Xk c.2.1) (Yw 1 PT0 rfl rfl rfl Zc pPq (show(0:Nat)<3 from by decide)) rfl) ?_;refine cl 12 [61] (Zgo [gv0 c.1.1] 1000 Zkm (Zkl _)) λj e=>?_;obtain⟨t9,d⟩:=Zu3 e;refine go 11 ⟨show(0:Nat)<3 from by decide,?_⟩;refine dt (Yz (Xk c.2.1) (Yw 1 PT0 rfl rfl rfl Zc pPq (show(0:Nat)<3 from by decide)) rfl) ?_;refine go 1 ?_;refine cl 12 [61,12] (Zq2 [gv0 c.1.1] j.2.1 Zkm (by rw [d];exact gg_L) (Zkl _) (by rw [d];exact gp_L _) (show(1:Nat)<=5 from by decide) (by rw [d];exact(show(1:Nat)<=5 from by decide))) λB f=>?_;obtain rfl:=Zwd f (by rw [d];exact gnr_L);refine go 10 ?_;refine dt (Yz ( .bool true) (Yq rfl rfl) rfl) ?_;refine go 2 ?_;refine ktg (aG rfl) ?_;refine go 2 ?_;refine Hk (Yz ( .bool true) (Zbd rfl rfl) rfl) rfl rfl ?_;refine go 3 ?_;refine ktg (aG rfl) ?_;refine go 3 ?_;refine Hk (Xy [(0,_),(1,_),(2,_),(3,_)] rfl ⟨rfl,rfl,rfl,rfl,rfl,rfl,rfl,rfl,aA⟩ (λa w hs=>Zoj ((Yg rfl) a w hs) ((Yg rfl) a w hs) ((Yg rfl) a w hs) ((Yg rfl) a w hs))) rfl rfl ?_;refine Hk (Zdy rfl rfl rfl egCl (λw=>eqCl w)) rfl rfl ?_;refine go 3 ?_;refine ktg (aG rfl) ?_;refine go 3 ?_;refine ktg (aG rfl) ?_;refine go 5 ?_;exact Xh k () Tryz.results36 rfl aA Za
section
variable {a b:List Zk} (hpa:∀g∈a,Gin g) (hpb:∀g∈b,Gin g) (hba:Yf a=true) (hbb:Yf b=true) {D:Int} (hD:dsB D=true)
include hpa hpb hba hbb hD
variable (hE:Mx a b=0) (hap:Fw D 1 1 a b=true)
include hE hap
structure Two (c d:List Zk) (D:Int):Prop where
 pc:∀g∈c,Gin g
 pd:∀g∈d,Gin g
 bc:Yf c=true
 bd:Yf d=true
 lc:c.length<=5
 ld:d.length<=5
 e:Mx c d=0
 ap:Fw D 1 1 c d=true
end
end Go.Sky
namespace Go.Sky
variable{d D ov ov2 zd:Int}{z x y x2 y2 z2:List Int}{a b:List Zk}{zs ys:List (Int×SL)}
theorem q_rn{n:Int}{r:Rat}{m:Nat}(h:QOK n d r m)(c:m<=65536):QOK (Et n d) (Gn n d) r m:=by obtain⟨g,-⟩:=nrf (aB h.a c) (aB h.b c) h.p;obtain⟨e,f,-⟩:=Zba g;rw [e,f];exact Zvz h
theorem wtT_q{z:Ad}{u:R2}(l:0<=z.1.1/\z.1.1<z.1.2/\z.1.2<=3600000)(i:bl u.1.natAbs<=5200)(j:bl u.2.natAbs<=5200)(k:0<u.2) :
  QOK (wtT z u).1 (wtT z u).2 ((z.1.1:Rat)+qv u*((z.1.2-z.1.1:Int):Rat)) 5400:=by
 have f:(u.2:Rat)≠0:=by exact_mod_cast (show u.2≠0 by omega)
 have e:(u.1:Rat)=qv u*(u.2:Rat):=by unfold qv;rw [eG f]
 have g:bl (z.1.2-z.1.1).natAbs<=22:=Bd O1;have h:bl z.1.1.natAbs<=22:=Bd O1;have c:QOK (wtM z u).1 (wtM z u).2 (qv u*((z.1.2-z.1.1:Int):Rat)) 5223:=by
  refine q_rn ⟨O1,?_,?_,?_⟩ O4
  .push_cast;rw [e];grind
  .have:=Zy u.1 (z.1.2-z.1.1);omega
  .rw [fH];omega
 refine q_rn ⟨by have:=c.p;omega,?_,?_,?_⟩ O4
 .have:=c.v;push_cast at this ⊢;rw [this];grind
 .have:=Lp ((wtM z u).1*1) (z.1.1*(wtM z u).2);have:=Zy z.1.1 (wtM z u).2;have:=c.a;have:=c.b;rw [fH]at *;omega
 .rw [fH];have:=c.b;omega
theorem wt_err{g:R2×Int}(c:Mx a b≠0)(h:WtP D a b g):g=((0,0),Mx a b):=by
 rcases h with h|h|h
 .exact h.2
 .exact absurd h.1 c
 .exact absurd h.1 c
theorem neg_at{n:Int}{t:Rat}(h:Zi (fmZ D n d ov ov2 x y z x2 y2 z2) t<0):fvE D n d ov ov2 x y z x2 y2 z2 t<0:=by unfold fmZ at h;rwa [Zm3 (Zyo ..),Zrb]at h
theorem wt_far(l:∀g∈a,Gin g)(s:∀g∈b,Gin g)(i:Yf a=true)(o:Yf b=true)(hD:dsB D=true)(S:Mx a b=0)(G:Fw D 1 1 a b=false){g:R2×Int}(h:WtP D a b g) :
  g.2=0/\∃T:Rat,QOK g.1.1 g.1.2 T 5400/\((spF a:Rat)<=T/\T<=(spL a:Rat))/\((spF b:Rat)<=T/\T<=(spL b:Rat))/\∀c,ClsI a b D T c->c=true:=by
 rcases h with h|h|⟨-,-,h2,z,N,u,v,hg⟩
 .exact absurd S h.1
 .rw [G]at h;cases h.2.1
 have I:=v.lw.1;obtain⟨qa,qb⟩:=qv_01;have u0:0<=qv u:=by rw [<-qa];exact v.lo
 have u1:qv u<=1:=by rw [<-qb];exact v.hi
 have H:cmF a b<Dn a b:=Int.not_le.1 λH=>by have:El a b=9:=(Zn2 H a).1;rw [Zsu O1]at N;cases N
 obtain⟨n,T,ua,ub,ja,jb,P⟩:=pcs l s i o H S;have t:=(Zyj _ _ _ _).1 N;obtain⟨p,q,t,e⟩:=t;rw [P.ra,P.rb,List.zip_map']at t;obtain⟨k,f,Y⟩:=dI.1 t;have f:=fX.1 f;cases Y;simp only [gpZ,unP,Prod.mk.injEq]at e;obtain⟨F,z2,z3⟩:=e;have F:=F.symm.trans (P.pa k f).2.2.1;have z2:=z2.symm.trans (P.pa k f).2.2.2;have r:=v.ng;rw [<-z3]at r;have r:=neg_at r;obtain⟨i1,i2,Q,R,Z⟩:=pcs_at l s i o P k f (qv u) u0 u1 _ rfl;obtain⟨l1,l2,l3⟩:=P.lt k f;obtain⟨p1,p2,p3,p4⟩:=sp_bd l i;have W:=wtT_q (z:=z) (u:=u) (by rw [F,z2];unfold cmF Dn at *;omega) v.b1 v.b2 I;rw [F,z2]at W;rw [hg];have c:∀{x y:Int},x<=y->(x:Rat)<=(y:Rat):=λh=>by exact_mod_cast h
 refine⟨h2,_,W,⟨eD (c (by unfold cmF;omega)) Q,eD R (c (by unfold Dn;omega))⟩,⟨eD (c (by unfold cmF;omega)) Q,eD R (c (by unfold Dn;omega))⟩,λx M=>?_⟩;obtain⟨j,m,V,t,ij,im,M⟩:=M;have w:∀k,k<a.length->SgG (a.getD k G0):=λk f=>Oj (l _ (Zd f)) (Nx ((Qd i).1 _ f));have B:∀k,k<b.length->SgG (b.getD k G0):=λk f=>Oj (s _ (Zd f)) (Nx ((Qd o).1 _ f));refine M.2 ?_;rw [dQ_sm (w _ V) (B _ t) (w _ (P.la k f).1) (B _ (P.lb k f).1) (Zvd l i V (P.la k f).1 ij i1) (Zvd s o t (P.lb k f).1 im i2),<-Z];exact lE.1 λh=>absurd ((fv_dQ (P.pa k f).1 (P.pb k f).1 D).2 h) (lE.2 r)
def rsL(ov ov2:Int)(x y z x2 y2 z2:List Int):List Int:=Gb (Gb (sqF ov ov2 x y z x2 y2 z2 0) (sqF ov ov2 x y z x2 y2 z2 1)) (sqF ov ov2 x y z x2 y2 z2 2)
def rsW(zd ov ov2:Int):Int:=zd*zd*ovW ov ov2
def rsZ(zd ov ov2:Int)(x y z x2 y2 z2:List Int):List Int:=Ek (rsL ov ov2 x y z x2 y2 z2) (tzl [rsW zd ov ov2])
theorem rs_eq(zd ov ov2:Int)(x y z x2 y2 z2:List Int):rsZ zd ov ov2 x y z x2 y2 z2=rfZ zd 1 1 ov ov2 x y z x2 y2 z2:=by have t0:∀i,Tr (sqF ov ov2 x y z x2 y2 z2 i):=λi=>Qo _ _;unfold rsZ rfZ rsL rfL rsW rfW;rw [show(1:Int)*1=1 from rfl,Ax (show Tr (Gb (sqF ov ov2 x y z x2 y2 z2 0) (sqF ov ov2 x y z x2 y2 z2 1))from Qn _),Ax (t0 2),fH]
structure RsX (zd ov ov2:Int) (x y z x2 y2 z2:List Int):Prop where
 v0:∀i,Vp (sqF ov ov2 x y z x2 y2 z2 i)
 v1:Vp (Gb (sqF ov ov2 x y z x2 y2 z2 0) (sqF ov ov2 x y z x2 y2 z2 1))
 v4:Vp (rsL ov ov2 x y z x2 y2 z2)
 v5:Vp (tzl [rsW zd ov ov2])
 v6:Vp (rsZ zd ov ov2 x y z x2 y2 z2)
 wb:bl (rsW zd ov ov2).natAbs<=1000000
 oW:bl (ovW ov ov2).natAbs<=1000
 db:bl (zd*zd).natAbs<=1000
 zb:bl zd.natAbs<=1000
theorem rsX{fr to k p:Int}(m:Sgo fr to ov x y z)(c:Sgo k p ov2 x2 y2 z2)(Q:∀i,Ab KA (tzl (Zs i x y z)))(l:∀i,Ab KA (tzl (Zs i x2 y2 z2)))(S:dsB zd=true):RsX zd ov ov2 x y z x2 y2 z2:=by
 obtain⟨z1,a2⟩:=Ys1 S;have Y:=m.o1;have Z:=m.o2;have o3:=c.o1;have o4:=c.o2;have F:∀i,FmX (Zs i x y z) (Zs i x2 y2 z2) ov ov2 1:=λi=>fmX (Q i) (l i) (m.lc i).2 (c.lc i).2 ⟨Y,Z⟩ ⟨o3,o4⟩ ⟨O4,O4⟩;have u:=Ylr ov ov2 4294967296 4294967296 O1 O1;have w:=Ylr (ov*ov2) (ov*ov2) _ _ u u;have B:=Ylr zd zd 4194304 4194304 O1 O1;have P:=Ylr (zd*zd) (ov*ov2*(ov*ov2)) _ _ B w;have G:(rsW zd ov ov2).natAbs<=4194304*4194304*(4294967296*4294967296*(4294967296*4294967296)):=by unfold rsW ovW;exact P
 have g:∀{v:Int} {M:Nat},v.natAbs<=M->M<BG->bl v.natAbs<=500:=λh R=>Ye2 (aV h R);have e:∀i,Ab (6*((KD*100)*(KD*100))) (sqF ov ov2 x y z x2 y2 z2 i):=λi=>(F i).ab8;have f:∀i,(sqF ov ov2 x y z x2 y2 z2 i).length<=11:=λi=>(F i).l8;have t0:∀i,Tr (sqF ov ov2 x y z x2 y2 z2 i):=λi=>Qo _ _;have r:=Ya6 (e 0) (e 1);have H:=Zso (f 0) (f 1);have s:=Ya6 r (e 2);have I:=Zso H (f 2);have t:Ab (4194304*4194304*(4294967296*4294967296*(4294967296*4294967296))) (tzl [rsW zd ov ov2]):=ab_one G;have V:(tzl [rsW zd ov ov2]).length<=1:=Ns _;have N:=Yo9 s t;have W:=Ydd (n:=11) (q:=tzl [rsW zd ov ov2]) I O1;have j:Ab (6*((KD*100)*(KD*100))+6*((KD*100)*(KD*100))+6*((KD*100)*(KD*100))+4194304*4194304*(4294967296*4294967296*(4294967296*4294967296))) (rsZ zd ov ov2 x y z x2 y2 z2):=by unfold rsZ rsL;exact N
 have o:(rsZ zd ov ov2 x y z x2 y2 z2).length<=11:=by unfold rsZ rsL;exact W
 have t6:Tr (rsZ zd ov ov2 x y z x2 y2 z2):=by unfold rsZ;exact Qn _
 constructor
 .exact(λi=>Cp (e i) O7 (t0 i) (aB (f i) O4))
 .exact(Cp r O7 (Qn _) (aB H O4))
 .exact(Cp s O7 (Qn _) (aB I O4))
 .exact(Cp t O7 (Qn _) (aB V O4))
 .exact(Cp j O7 t6 (aB o O4))
 .exact(aB (g G O7) O4)
 .exact(aB (g w O7) O4)
 .exact(aB (g B O7) O4)
 .exact(aB (g (v:=zd) (M:=4194304) O1 O7) O4)
def Yqx(h:Zb zs=rsZ zd ov ov2 x y z x2 y2 z2):zs.length≠0->Yv (Zb zs)≠0:=Yq1 (h.trans (rs_eq ..))
def rs_fin(h:Zb ys=Yb (Zb zs))(c:Zb zs=rsZ zd ov ov2 x y z x2 y2 z2):Zb ys=fmZ zd 1 1 ov ov2 x y z x2 y2 z2:=rf_fin h (c.trans (rs_eq ..))
end Go.Sky

