/- Rules, arithmetic and contracts: part 3. No conditions but those that each theorem names. -/
import Derived.Test.YtoaklaecgjlfoaaTm01
import Derived.Test.YtoaklaecgjlfoaaProg
set_option linter.all false
namespace Go.Sky
set_option maxRecDepth 20000
variable{p xs:List Int}{args:Array Value}{pre:List Pc}
def sg(s:Bool)(x:Int):Prop:=(s=true->x<=0)/\(s=false->0<=x)
abbrev wv (x:Int):Value:= .agg #[.bool (decide (x<0)),.string (Og x.natAbs)]
def clip(x:Int):Int:=if 65536<bl x.natAbs then 0 else x
def full(x:Int):Int:=if 65536<bl x.natAbs then 7 else 0
abbrev wideV (x:Int):Value:= .tuple #[wv (clip x),.int .i64 (full x)]
def okW(b:Bool)(s:ByteArray):Bool:=if s.size=0 then !b else decide ((s.data.toList.getD 0 0).toNat≠0) && decide (s.size<=8192)
theorem bl256{n k:Nat} : (dg 256 n).length<=k↔bl n<=8*k:=by rw [len256];omega
theorem Zax{a b:ByteArray}(h:a.data.toList=b.data.toList):a=b:=by cases a;cases b;simp at h;rw [h]
theorem Znn{s:ByteArray}(c:s.size≠0)(h:(s.data.toList.getD 0 0).toNat≠0):s=Og (val 256 (s.data.toList.reverse.map UInt8.toNat)):=by
 have e:s.data.toList.length=s.size:=rfl;have a:∀d∈s.data.toList.reverse.map UInt8.toNat,d<256:=λd b=>by obtain⟨u,_,rfl⟩:=cQ.1 b;exact u.toNat_lt
 refine Zax ?_;unfold Og;rw [Zj0 O _ a,tz_eq]
 .simp [List.map_reverse,Function.comp_def]
 .refine .inr ?_;rw [cY,List.length_reverse,aA,dI,List.getElem?_reverse O];rw [show s.data.toList.length-1-(s.data.toList.length-1)=0 by omega];rw [aA]at h;cases hx:s.data.toList[0]? with
  | none=>rw [hx]at h;simp at h
  | some u=>rw [hx]at h;simpa using h
theorem okW_ex{b:Bool}{s:ByteArray}(h:okW b s=true):∃x:Int,bl x.natAbs<=65536/\b=decide (x<0)/\s=Og x.natAbs:=by
 unfold okW at h;split at h
 .rename_i c;refine⟨0,by simp [Ee],?_,?_⟩
  .cases b<;>simp_all
  .refine Zax ?_;have:s.data.toList.length=0:=c;rw [aE this];rfl
 .rename_i c;rw [bH]at h;have e:=bB h.1;have f:=bB h.2;have hs:=Znn c e;generalize val 256 (s.data.toList.reverse.map UInt8.toNat)=n at hs;have d:(dg 256 n).length=s.size:=by rw [hs,Zay]
  have g:0<n:=by
   rcases cE n with h|h
   .subst h;simp [Fz]at d;omega
   .exact h
  have a:bl n<=65536:=by have:=(bl256 (n:=n) (k:=8192)).1 O;omega
  cases b with
  | true=>exact⟨-(n:Int),by simpa using a,by simp;omega,by simpa using hs⟩
  | false=>exact⟨n,by simpa using a,O6,by simpa using hs⟩
def eqW(a:Bool)(s:ByteArray)(b:Bool)(t:ByteArray):Bool:=(a == b) && (s.toList == t.toList)
theorem Znt(x y:Int):bl (x*y).natAbs<=bl x.natAbs+bl y.natAbs:=by rw [cN];exact bl_mul
theorem bl_gcd{x y:Nat}:bl (Nat.gcd x y)<=max (bl x) (bl y):=by
 rcases cE x with h|h
 .subst h;rw [Nat.gcd_zero_left];omega
 .have:=Cm (iU h (jA x y));omega
def Ol(x y:Int):Int:=if y<0 then -(Int.gcd x y:Int)else(Int.gcd x y:Int)
theorem Zc7(x y:Int):(Ol x y).natAbs=Nat.gcd x.natAbs y.natAbs:=by unfold Ol;split<;>simp [Int.gcd]
def Np(x y:Int):Prop:=65536<bl (x/Ol x y).natAbs\/65536<bl (y/Ol x y).natAbs
instance (x y:Int):Decidable (Np x y):=by unfold Np;infer_instance
def Me(x y:Int):Int:=if Np x y then 0 else x/Ol x y
def Nq(x y:Int):Int:=if Np x y then 0 else y/Ol x y
def rerr(x y:Int):Int:=if Np x y then 7 else 0
abbrev ratioV (x y:Int):Value:= .tuple #[.agg #[.bool (decide (Me x y<0)),.string (Og (Me x y).natAbs),.bool (decide (Nq x y<0)),.string (Og (Nq x y).natAbs)],.int .i64 (rerr x y)]
def okR(b:Bool)(s:ByteArray)(c:Bool)(t:ByteArray):Bool:=okW b s && okW c t && (!c && decide (0<t.size))
open Go.RowKit Below
def Sz(n:Nat)(p:List Int):Prop:=∀i,bl (cf p i).natAbs<=n
def Sz.getD{n:Nat}(h:Sz n p)(i:Nat):bl (p.getD i 0).natAbs<=n:=h i
def Sz.mono{n m:Nat}(h:Sz n p)(a:n<=m):Sz m p:=λi=>aM (h i) a
theorem Sz.tzl{n:Nat}(h:Sz n p):Sz n (tzl p):=λi=>by rw [Py];exact h i
theorem Sz.nil(n:Nat):Sz n []:=λi=>by simp [cf,Ee]
theorem Sz.take{n:Nat}(h:Sz n p)(k:Nat):Sz n (p.take k):=λi=>by
 rw [Lu];split
 .exact h i
 .simp [Ee]
theorem Sz.mem{n:Nat}(h:Sz n p){x:Int}(a:x∈p):bl x.natAbs<=n:=by obtain⟨i,hi,rfl⟩:=dV.1 a;have:=h i;rwa [Dq hi]at this
theorem Sz.of_mem{n:Nat}(h:∀x∈p,bl x.natAbs<=n):Sz n p:=λi=>by
 rcases bD i p.length with hi|hi
 .rw [Dq hi];exact h _ (gO hi)
 .rw [Zr hi];simp [Ee]
structure Vp (p:List Int):Prop where
 sz:Sz 65536 p
 tr:Tr p
 len:p.length<=25
def wr(x:Int):Bool×ByteArray:=(decide (x<0),Og x.natAbs)
def okP(r:List (Bool×ByteArray)):Bool:=r.all (λw=>okW w.1 w.2) && (decide (r.length<=25) && (decide (r.length=0) || decide ((r.getD (r.length-1) (false,⟨#[]⟩)).2.size≠0)))
theorem Zez{x:Int} : (Og x.natAbs).size=0↔x=0:=by rw [Zay];have:=Zes (by omega:2<=256) x.natAbs;omega
theorem Zdd{i:Nat}(h:i<xs.length):(xs.map wr).getD i (false,⟨#[]⟩)=wr (cf xs i):=by rw [Dq h];simp [List.getD,h]
theorem Zis{r:List (Bool×ByteArray)}(h:∀w∈r,okW w.1 w.2=true):∃xs:List Int,(∀x∈xs,bl x.natAbs<=65536)/\r=xs.map wr:=by
 induction r with
 | nil=>exact⟨[],O6,rfl⟩
 | cons w r i=>
  obtain⟨xs,b,c⟩:=i λu f=>h u (bC _ f);obtain⟨x,g,d,e⟩:=okW_ex (h w (bM ..));refine⟨x::xs,λy a=>?_,?_⟩
  .rcases dA.1 a with rfl|a
   .exact g
   .exact b y a
  .rw [bK,<-c,wr,<-d,<-e]
theorem okP_ex{r:List (Bool×ByteArray)}(h:okP r=true):∃xs:List Int,Vp xs/\r=xs.map wr:=by
 unfold okP at h;rw [bH,bH,gY]at h;obtain⟨c,d,a⟩:=h;obtain⟨xs,e,rfl⟩:=Zis (dG.1 c);refine⟨xs,⟨Sz.of_mem e,?_,by simpa using d⟩,rfl⟩;rcases a with a|a
 .left;exact aE (by simpa using a)
 .rcases cE xs.length with b|b
  .left;exact aE b
  .right;rw [cY,Zdd O]at a;exact λf=>bB a (Zez.2 f)
def err(e x:Int):Int:=if e=0 then full x else e
def Kp:List Int->Nat
 | []=>0
 | x::r=>max (bl x.natAbs) (Kp r)
theorem Ky{n:Nat}(h:Sz n p):Kp p<=n:=by
 have b:∀x∈p,bl x.natAbs<=n:=λx a=>h.mem a;clear h
 induction p with
 | nil=>exact aW _
 | cons y r c=>
  have:=b y (bM ..);have:=c λx a=>b x (bC _ a);simp only [Kp];omega
variable {P:Program} {N:Nat} {sc:Nat->Prop} {env env':Yd} {H H':Hp} {Q Q':Exit->Act->World->Prop} {M:Nat->Prop}
theorem Cal.imp{f:FuncId}{p q:Pc}{al:Bool}{G:Type}{φ:G->Prop}{val:G->Value}{i:G->List Pc}(h:Cal P f args (p::pre) al φ val i)(v:∀w,q.holds w->p.holds w)(t:∀b,p.fp b->q.fp b) :
  Cal P f args (q::pre) al φ val i:=λw l=>by
 refine(h w λr a=>?_).mono ?_
 .rcases dA.1 a with rfl|a
  .exact v w (l q (bM ..))
  .exact l r (bC _ a)
 .rintro e y ⟨g,s,u,j,c⟩;refine⟨g,s,u,j,λx k=>?_⟩;obtain⟨m,n,o⟩:=c x k;refine⟨m,n,λb j=>?_⟩;rcases o b j with h|⟨h,r,a,d⟩
  .exact .inl h
  .refine .inr ⟨h,?_⟩;rcases dA.1 a with rfl|a
   .exact⟨q,bM ..,t b d⟩
   .exact⟨r,bC _ a,d⟩
end Go.Sky
namespace Go.Sky
def fill(n k:Nat)(f:Nat->Int):List Int:=mk n λi=>if i<k then f i else 0
def Xz{p:List Int}(h:Tr p):Tr (Zv p):=by
 unfold Zv;rcases bD 1 p.length with a|a
 .right;rw [Yh,Le,aK O];have c:=h.mem (by intro e;rw [e]at a;simp at a);rw [show p.length-1-1+1=p.length-1 by omega];intro d;rcases dL.1 d with b|b
  .exact c b
  .omega
 .left;exact aE (by rw [Yh];omega)
def Bh(p:List Int)(x:Int):Zx (p ++ [x])=(Int.gcd (Zx p) x:Int):=by unfold Zx;rw [List.foldl_append];rfl
def Xo(p:List Int):0<=Zx p:=by
 rcases Cc p with rfl|⟨a,y,rfl⟩
 .exact cL _
 .rw [Bh];omega
def Nw{p:List Int}{k:Nat}(h:k<p.length):Zx (p.take (k+1))=(Int.gcd (Zx (p.take k)) (p.getD k 0):Int):=by rw [Oc 0 h,Bh]
def Qm(p:List Int):∀i,Zx p∣cf p i:=by
 have a:∀k,k<=p.length->∀i,i<k->Zx (p.take k)∣cf p i:=by
  intro k
  induction k with
  | zero=>intro _ i hi;omega
  | succ k c=>
   intro b i hi;rw [Nw b];rcases bD i k with h|h
   .exact eV (gP ..) (c O i h)
   .have:i=k:=O;subst this;exact fJ ..
 intro i;rcases bD i p.length with h|h
 .have:=a p.length (aH _) i h;rwa [eE]at this
 .rw [Zr h];exact fQ _
def Hc(p:List Int):Zx p=0↔∀i,cf p i=0:=by
 refine⟨λh i=>by have:=Qm p i;rw [h]at this;exact Int.zero_dvd.1 this,λh=>?_⟩;have a:∀k,k<=p.length->Zx (p.take k)=0:=by
  intro k
  induction k with
  | zero=>intro _;rfl
  | succ k c=>
   intro b;rw [Nw b,c O];have:=h k;rw [show p.getD k 0=0 from this];rfl
 have:=a p.length (aH _);rwa [eE]at this
def Nb{p:List Int}{d:Int}(h:∀i,d∣cf p i):d∣Zx p:=by
 have a:∀k,k<=p.length->d∣Zx (p.take k):=by
  intro k
  induction k with
  | zero=>intro _;exact fQ _
  | succ k c=>
   intro b;rw [Nw b];exact Int.dvd_coe_gcd (c O) (h k)
 have:=a p.length (aH _);rwa [eE]at this
def Kn(p:List Int)(i:Nat):cf (Zq p) i=cf p i/Zx p:=by unfold Zq;rw [Gw O6]
def Zi(p:List Int):(Zq p).length=p.length:=by simp [Zq]
def Zen{x y:Int}{n:Nat}(h:y∣x)(b:bl x.natAbs<=n):bl (x/y).natAbs<=n:=by have a:(x/y).natAbs<=x.natAbs:=Int.natAbs_ediv_le_natAbs x y;exact aM (Cm a) b
def Zs{p:List Int}(h:Tr p):Tr (Zq p):=by
 rcases h with rfl|h
 .left;rfl
 .right;rw [Kn,Zi];intro a;have b:=Qm p (p.length-1);have:=jW b;rw [a,cJ]at this;exact h this.symm
def Lz{n:Nat}{p:List Int}(h:Sz n p):Sz n (Zq p):=λi=>by rw [Kn];exact Zen (Qm p i) (h i)
def Vp.ne{p:List Int}(h:Vp p)(a:p≠[]):Zx p≠0:=λe=>h.tr.mem a ((Hc p).1 e _)
def Ih(p:List Int)(n d:Int)(i:Nat):Int:=Zc (λm=>cf p (i+m)*(n^m*d^(p.length-1-(i+m)))) (p.length-i)
def Ez(p:List Int)(n d:Int):Prop:=p≠[]/\65536<Kp p+(p.length-1)*Kp [n,d]+8
instance (p:List Int) (n d:Int):Decidable (Ez p n d):=by unfold Ez;infer_instance
def evv(p:List Int)(n d:Int):Int:=if Ez p n d then 0 else pev p n d
def eve(p:List Int)(n d:Int):Int:=if Ez p n d then 7 else 0
abbrev wc (x:Int):Array Value:=#[.bool (decide (x<0)),.string (Og x.natAbs)]
section
variable {p:List Int} {n d:Int} (hF:Kp p+(p.length-1)*Kp [n,d]+8<=65536) (hl:p.length<=25)
include hF
include hl
end
end Go.Sky
namespace Go.Sky
def acc(p q:List Int)(i t:Nat):Int:=Zc (λk=>if k<=t then cf p k*cf q (t-k)else 0) i
def acc2(p q:List Int)(i j t:Nat):Int:=acc p q i t+if i<=t/\t<i+j then cf p i*cf q (t-i)else 0
def Zkz(p q:List Int)(t:Nat):acc p q p.length t=(ps p*ps q).c t:=by
 rw [PS.mul_c];unfold acc;have a:Zc (λk=>if k<=t then cf p k*cf q (t-k)else 0) (max (t+1) p.length)=Zc (λk=>if k<=t then cf p k*cf q (t-k)else 0) p.length:=
  Zaf O λk a _=>by rw [Zr a,cK];split<;>rfl
 have b:Zc (λk=>if k<=t then cf p k*cf q (t-k)else 0) (max (t+1) p.length)=Zc (λk=>if k<=t then cf p k*cf q (t-k)else 0) (t+1):=
  Zaf O λk a _=>by rw [aG O]
 rw [<-a,b];exact Zj λk c=>by rw [aK O];rfl
def Ci(p q:List Int):Prop:=p≠[]/\q≠[]/\(24<p.length+q.length-2\/65536<Kp p+Kp q+5)
instance (p q:List Int):Decidable (Ci p q):=by unfold Ci;infer_instance
def dlow(p q:List Int):Bool:=decide (q≠[]) && decide (p.length<q.length)
def Zet(p q:List Int):Int:=if q.length=0 then 3 else if p.length<q.length then 0 else if 65536<Kp p+(p.length-q.length+1)*(Kp q+1)then 7 else 0
def Zah(q r:List Int)(a:Nat):List Int:=
 mk r.length λt=>cf r t*cf q (q.length-1)-if a-(q.length-1)<=t/\t<a-(q.length-1)+q.length then cf r a*cf q (t-(a-(q.length-1)))else 0
def Qp(p q:List Int):Nat->List Int
 | 0=>p
 | j+1=>Zah q (Qp p q j) (p.length-1-j)
def Fs(q r:List Int)(a:Nat):(Zah q r a).length=r.length:=Yh _ _
def Qw(p q:List Int):∀j,(Qp p q j).length=p.length
 | 0=>rfl
 | j+1=>by unfold Qp;rw [Fs,Qw p q j]
def Yn(p q:List Int):List Int:=if p.length<q.length then p else tzl (Qp p q (p.length-q.length+1))
def Zdp{q r:List Int}{a t:Nat}(b:t<r.length):cf (Zah q r a) t=cf r t*cf q (q.length-1)-if a-(q.length-1)<=t/\t<a-(q.length-1)+q.length then cf r a*cf q (t-(a-(q.length-1)))else 0:=by unfold Zah;rw [Le,aK b]
def dq(q r:List Int)(k:Nat):Int:=cf r (k+q.length-1)/cf q (q.length-1)
def Zdi(q r:List Int)(k:Nat):List Int:=mk r.length λt=>cf r t-if k<=t/\t<k+q.length then dq q r k*cf q (t-k)else 0
def Nc(p q:List Int):Nat->List Int
 | 0=>p
 | j+1=>Zdi q (Nc p q j) (p.length-q.length-j)
def Gc(p q:List Int):∀j,(Nc p q j).length=p.length
 | 0=>rfl
 | j+1=>by unfold Nc Zdi;rw [Yh,Gc p q j]
def Zj4(p q:List Int)(k:Nat):Int:=dq q (Nc p q (p.length-q.length-k)) k
def Ad(p q:List Int)(k:Nat):Prop:=cf (Nc p q (p.length-q.length-k)) (k+q.length-1)%cf q (q.length-1)=0
def pquo(p q:List Int):List Int:=tzl (mk (p.length-q.length+1) (Zj4 p q))
def pdivs(p q:List Int):Prop:=p=[]\/(q.length<=p.length/\(∀k,k<=p.length-q.length->Ad p q k)/\∀i,cf (Nc p q (p.length-q.length+1)) i=0)
def Zcz{p q:List Int}(h:p.length=0\/q.length=0):Yj p q=[]:=by
 unfold Yj;refine(Xy _).2 λi=>?_;rw [Le];split
 .rw [PS.mul_c];refine Pn λk _=>?_;rcases h with h|h
  .rw [Xc,Zr O,cK]
  .rw [Xc,Xc,Zr (p:=q) O,cJ]
 .rfl
def mul1(R:List Int)(l:Int)(i:Nat):List Int:=mk R.length λt=>if t<i then cf R t*l else cf R t
def sub2(q R:List Int)(l c:Int)(s i:Nat):List Int:=mk R.length λt=>cf R t*l-if s<=t/\t<s+i then c*cf q (t-s)else 0
def dsub(q R:List Int)(c:Int)(k i:Nat):List Int:=mk R.length λt=>cf R t-if k<=t/\t<k+i then c*cf q (t-k)else 0
def dout(p q:List Int)(j:Nat):List Int:=mk (p.length-q.length+1) λt=>if p.length-q.length<t+j then Zj4 p q t else 0
def pdv(p q:List Int):Prop:=p=[]\/(q.length<=p.length/\(∀k,k<=p.length-q.length->Ad p q k)/\tzl (Nc p q (p.length-q.length+1))=[])
instance (p q:List Int) (k:Nat):Decidable (Ad p q k):=by unfold Ad;infer_instance
instance (p q:List Int):Decidable (pdv p q):=by unfold pdv;infer_instance
def Zni(p:List Int)(a b d:Int):Nat->List Int
 | 0=>[cf p (p.length-1)]
 | j+1=>mk ((Zni p a b d j).length+1) λt=>cf (Zni p a b d j) t*a+(if t=0 then cf p (p.length-2-j)*d^(j+1)else cf (Zni p a b d j) (t-1)*b)
def Zip(p:List Int)(a b d:Int):List Int:=if p.length=0 then []else tzl (Zni p a b d (p.length-1))
def Zj8(p:List Int)(a b d:Int):Prop:=p≠[]/\65536<Kp p+(p.length-1)*(Kp [a,b,d]+1)+8
instance (p:List Int) (a b d:Int):Decidable (Zj8 p a b d):=by unfold Zj8;infer_instance
def Ke(p q:List Int):List Int:=if p=[]then []else pquo p q
def Zij{p q:List Int}(h:p≠[]):Ke p q=pquo p q:=aG h
def cnx(c:List Int)(a b:Int)(i:Nat):List Int:=mk (c.length+1) λt=>if t<i then cf c t*a+(if t=0 then 0 else cf c (t-1)*b)else if t=i/\0<i then cf c (t-1)*b else 0
section
variable {p:List Int} {x y z:Int} (hF:Kp p+(p.length-1)*(Kp [x,y,z]+1)+8<=65536) {j:Nat} (hj:j<p.length-1)
include hF hj
end
def Zjj(p q:List Int):Prop:=p.length≠0/\q.length≠0/\65536<(max p.length q.length+2)*(max p.length q.length+2)*(max (Kp p) (Kp q)+8)
instance (p q:List Int):Decidable (Zjj p q):=by unfold Zjj;infer_instance
def gA(p q:List Int):List Int:=if p.length<q.length then Zq q else Zq p
def gB(p q:List Int):List Int:=if p.length<q.length then Zq p else Zq q
def eok:Nat->List Int->List Int->Prop
 | 0,_,b=>b=[]
 | f+1,a,b=>b=[]\/(Zet a b=0/\eok f b (Zq (Yn a b)))
def eu:Nat->List Int->List Int->List Int
 | 0,a,_=>a
 | f+1,a,b=>if b=[]then a else eu f b (Zq (Yn a b))
theorem Ac(f:Nat)(a:List Int):eu f a []=a:=by cases f<;>rfl
def Nz(g:List Int):List Int:=if g.length≠0/\cf g (g.length-1)<0 then Ya g (-1)else g
def Qg(f:Nat)(p q:List Int):List Int:=Nz (eu f (gA p q) (gB p q))
end Go.Sky
namespace Go.Sky
open Go.RowKit Below
set_option maxRecDepth 20000
abbrev d9p (v:Value) (x:Nat):Pc:=Ou 1 Zmv v (dg 1000000000 x)
def d9s(a b c:Nat):Nat:=if a<b+c then a+1000000000-(b+c)else a-(b+c)
def cmpI(x y:Nat):Int:=if x<y then -1 else if y<x then 1 else 0
section
variable {P:Program} {N:Nat} {sc:Nat->Prop} {env env':Yd} {H H':Hp} {Q Q':Exit->Act->World->Prop} {M:Nat->Prop}
variable {o:Oper} {t t':TypeId} {x y:Operand} {m n:Nat}
end
end Go.Sky
namespace Go.Sky
section
variable {P:Program} {N:Nat} {sc:Nat->Prop} {env env':Yd} {H H':Hp} {Q Q':Exit->Act->World->Prop} {M:Nat->Prop}
variable {o:Oper} {t t':TypeId} {x y:Operand} {m n:Nat}
end
end Go.Sky
namespace Go.Sky
def Zcu(a b:Int):Prop:=65536<bl a.natAbs\/65536<bl b.natAbs
instance (a b:Int):Decidable (Zcu a b):=by unfold Zcu;infer_instance
def qn(a b:Int):Int:=if Zcu a b then 0 else a
def qd(a b:Int):Int:=if Zcu a b then 0 else b
def qe(a b:Int):Int:=if Zcu a b then 7 else 0
def Zmi{x y:Int}(h:¬y<0):Ol x y=(Int.gcd x y:Int):=aG h
def Znu(x y:Int):bl ((Int.gcd x y:Int)).natAbs<=max (bl x.natAbs) (bl y.natAbs):=bl_gcd
open Go.RowKit Below
variable {P:Program} {N:Nat} {sc:Nat->Prop} {env env':Yd} {H H':Hp} {Q Q':Exit->Act->World->Prop} {M:Nat->Prop}
abbrev encW (w:Bool×ByteArray):Value:= .agg #[.bool w.1,.string w.2]
abbrev encI (z:Int×SL):Value:= .agg #[.bool (decide (z.1<0)),Qu z.2]
abbrev Qe {α:Type} (z:SL×α):Value:=Qu z.1
abbrev qI (z:Int×SL):Pc:=d9p (Qu z.2) z.1.natAbs
abbrev pp (v:Value) (a:List (Int×SL)):Pc:=Nd 2 encI qI v a
abbrev ints (a:List (Int×SL)):List Int:=a.map Prod.fst
abbrev I0:Int×SL:=(0,none,0,0)
theorem Zd1 {o:Oper} {G:Type} {φ:G->Prop} {c:G->Yd} {j:G->Hp} {f:Hp} {d:List Nat} {p:Pc} (i:Nat) (hi:lk H i=some p) (u:p.own=true) (t:d.all (λk=>!Nat.beq k i)=true) (n:Agr f H d)
  (h:(∀b,p.fp b->Off f d b)->T P N sc (Off f d) o env H φ c j):T P N sc (Off f d) o env H φ c j:=λa w hs=>
 h (λb r k l q m s=>by
  rw [<-n.mem k l]at m;have g:i≠k:=λe=>by subst e;have:=dG.1 t i l;simp at this
  exact hs.sep i k p q g hi m u b r s) a w hs
def eaf(v:Value)(i k q:Nat):Addr:=(ead v i k).add q
end Go.Sky
namespace Go.Sky
variable{o:Oper}{r pre:List Pc}{xs:List Operand}{a:Act}{w:World}{c:Operand}{ats:Array TypeId}{M0:Nat->Prop}{b:Nat}{cs:Array Value}{tb:TypeId}
abbrev rq (z:Int×Int):Value:= .agg #[.bool (decide (z.1<0)),.string (Og z.1.natAbs),.bool (decide (z.2<0)),.string (Og z.2.natAbs)]
abbrev encQ (z:(Bool×ByteArray)×(Bool×ByteArray)):Value:= .agg #[.bool z.1.1,.string z.1.2,.bool z.2.1,.string z.2.2]
def Xa (d:Value){P:Program}{N:Nat}{f:Nat->Prop}{env:Yd}{H:Hp}{r:Value}(h:Pv P N f o env H r)(e:r=d):Pv P N f o env H d:=e▸h
open Go.RowKit Below
variable {P:Program} {N:Nat} {sc:Nat->Prop} {env env':Yd} {H H':Hp} {Q Q':Exit->Act->World->Prop} {M:Nat->Prop}
theorem Zf7 (vs:List Value)(d:List Value){f:FuncId}{ys:List Operand}(h:o.op= .makeFunc (.func f) xs.toArray ys.toArray)(j:EvL env xs vs)(i:EvL env ys d):Pv P N sc o env H (.func (.func f) vs.toArray d.toArray):=λa w hs=>by have e:=j.map hs;have g:=i.map hs;simp [execOp,h,Instr.makeFunc,e,g]
theorem Gb   (hs:Sat N sc env H a w)  {f:FuncId}    {e vs g:List Value} (j:o.op= .call { callee:= .value c,args:=xs.toArray,argTypes:=ats })
  (h:ev env c=some (.func (.func f) e.toArray g.toArray)) (d:EvL env xs vs):(execOp a.eval o).run P w=(callFunc f (e ++ vs ++ g).toArray).run P w:=by
 have i:=d.map hs;simp [execOp,j,resolve,invoke,hs.ev h,Deferred.ofValue,i]
theorem Md (n:Nat)(i:List Value)(vs:List Value)(p:List Value)  {f:FuncId}    {d:Nat}   {al:Bool} {G:Type} {φ:G->Prop} {val:G->Value} {m:G->List Pc} {u:World} 
  (B:Cal P f (i ++ vs ++ p).toArray pre al φ val m)
  (F:o.op= .call { callee:= .value c,args:=xs.toArray,argTypes:=ats }) (s:ev env c=some (.func (.func f) i.toArray p.toArray)) (D:o.dst=some d) (z:Nat.blt d N=true)
  (h:EvL env xs vs) (e:∀args w,(callFunc f args).run P w= .ok (.enter f args) w) (k:PreOk H al pre)
  (x:lk H 0=some (keep u M0)) (R:∀b,u.heap.size<=b->sc b) :
  T P N sc M o env H φ (λg=>(d,val g)::env) (λg=>adds n (m g) H):=λa w hs K Q y=>by
 have I:(execOp a.eval o).run P w= .ok (.enter f (i ++ vs ++ p).toArray) w:=by rw [Gb hs F s h,e]
 let o2:Oper:={ o with op:= .call { callee:= .value (.func f),args:=((i ++ vs ++ p).map Operand.const).toArray,argTypes:=ats } };have j:∀l:List Value,EvL env (l.map Operand.const) l:=λl=>by
  induction l with
  | nil=>trivial
  | cons v r S=>exact⟨rfl,S⟩
 have t:(execOp a.eval o2).run P w= .ok (.enter f (i ++ vs ++ p).toArray) w:=by rw [Fc hs (o:=o2) rfl (j _),e]
 have q:o2.wp P a w K Q:=Zhz n (M:=M) B (o:=o2) rfl D z (j _) e k x R a w hs K Q y;unfold Oper.wp at q ⊢;rw [t]at q;rw [I];exact q
theorem Zgw{t:TypeId}(i:Nat)(hi:lk H i=some (box b t cs))(d:Nat.beq i 0=false)(h:PreOk H false r):PreOk H false (Kc b t cs::r):=
 ⟨⟨i,_,λe=>by subst e;simp at d,hi,λw h=>h,λb f=>f,λh=>by cases h⟩,h⟩
theorem Sat.rboxc(hs:Sat N sc env H a w){i:Nat}{t:TypeId}(d:lk H i=some (Kc b t cs))(j:Nat):w.cell? ⟨b,j,none⟩=cs[j]?:=by have h:w.heap[b]? = some (.cells cs t (0,0)):=hs.hold i _ d;simp [World.cell?,h]
theorem d_lra  {x:Operand} {t:TypeId} {i j k:Nat}  {vs:List Value} (h:o.op= .load t x)
  (q:ev env x=some (.pointer (some ⟨b,j,none⟩))) (e:lk H i=some (Kc b tb cs)) (l:∀w,(isAgg t).run P w= .ok true w) (f:∀w,(sizeOf t).run P w= .ok k w)
  (g:vs.length=k) (p:∀n u,vs[n]? = some u->cs[j+n]? = some u):Pv P N sc o env H (.agg vs.toArray):=λa w hs=>by
 have d:=run_loadCells_list (P:=P) w ⟨b,j,none⟩ vs (λn u m=>by rw [Xw,hs.rboxc e];exact p n u m);rw [g]at d;simp [execOp,h,hs.ev q,Instr.loadAt,Instr.sureAddr,loadVar,l,f,d]
theorem d_negi{t:TypeId}{x:Operand}{m:Int}(d:o.op= .unOp .neg t x)(e:ev env x=some (.int .i64 m))(h:Ir (-m)):Pv P N sc o env H (.int .i64 (-m)):=λa w hs=>by simp [execOp,d,hs.ev e,Op.unary,Op.intArith,Cn h]
end Go.Sky
namespace Go.Sky
open Go.RowKit Below
variable{c:Operand}{xs:List Operand}{ats:Array TypeId}{p:Pc}{pre:List Pc}{w0:World}{M0:Nat->Prop}{fn:Func}
variable {P:Program} {N:Nat} {sc:Nat->Prop} {env env':Yd} {H H':Hp} {Q Q':Exit->Act->World->Prop} {M:Nat->Prop}
abbrev iq (z:(Int×Int)×(Int×Int)):Value:= .agg #[.bool (decide (z.1.1<0)),.string (Og z.1.1.natAbs),.bool (decide (z.1.2<0)),.string (Og z.1.2.natAbs),.bool (decide (z.2.1<0)),.string (Og z.2.1.natAbs),.bool (decide (z.2.2<0)),.string (Og z.2.2.natAbs)]
def Zhp(P:Program)(f:FuncId)(args:Array Value)(pre:List Pc)(p:Pc){G:Type}(φ:G->Prop)(val:G->Value)(q:G->Pc):Prop:=
 ∀w,(∀r∈pre,r.holds w/\∀k,p.fp k->¬r.fp k)->p.holds w->Calls P f args w λe a=>∃g,e= .returned (val g)/\φ g/\Chg p.fp w a/\(q g).holds a/\∀k,(q g).fp k->p.fp k\/w.heap.size<=k
theorem Za8 (i:Nat)(x:List Value)(vs:List Value)(I:List Value) {o:Oper} {f:FuncId}    {d:Nat}    {G:Type} {φ:G->Prop} {val:G->Value} {q:G->Pc}  
  (hc:Zhp P f (x ++ vs ++ I).toArray pre p φ val q)
  (ho:o.op= .call { callee:= .value c,args:=xs.toArray,argTypes:=ats }) (z:ev env c=some (.func (.func f) x.toArray I.toArray)) (hd:o.dst=some d) (Y:Nat.blt d N=true)
  (m:EvL env xs vs) (n:∀args w,(callFunc f args).run P w= .ok (.enter f args) w) (y:lk H i=some p) (l:p.own=true) (B:i≠0) (u:PreOk (drp i H) false pre)
  (S:lk H 0=some (keep w0 M0)) (hw:∀b,w0.heap.size<=b->sc b) (W:∀b,p.fp b->M b) :
  T P N sc M o env H φ (λg=>(d,val g)::env) (λg=>(i,q g)::H):=λa w hs K Q V=>by
 have hr:(execOp a.eval o).run P w= .ok (.enter f (x ++ vs ++ I).toArray) w:=by rw [Gb hs ho z m,n]
 unfold Oper.wp;rw [hr];refine(hc w (λr hp=>by obtain⟨j,R,_,v,t,s,_⟩:=u.mem r hp;obtain⟨F,v⟩:=Ny _ _ _ _ v;exact⟨t w (hs.hold j R v),λk D Z=>hs.sep i j _ R (gQ F) y v l k D (s k Z)⟩) (hs.hold i _ y)).mono ?_
 rintro e w' ⟨g,rfl,hg,h,hq,s⟩;show K (a.put o.dst (val g)) w';rw [hd];exact V g _ _ hg (Sat.put (hs.upd y l B h hq s S hw) d _ Y) ⟨h.os,h.tape,h.output,h.size,λk D hn=>h.block k D (λe=>hn (W k e))⟩
def Zk2(P:Program)(fn:Func)(w0:World)(p:Pc){G:Type}(φ:G->Prop)(val:G->Value)(q:G->Pc):Exit->Act->World->Prop:=
 bodyPost P fn λe a=>∃g,e= .returned (val g)/\φ g/\Chg p.fp w0 a/\(q g).holds a/\∀k,(q g).fp k->p.fp k\/w0.heap.size<=k
theorem Zgg {f:FuncId}  {c:Code} {vs:List Value}   {G:Type} {φ:G->Prop} {val:G->Value} {q:G->Pc} {N:Nat}
  (V:P.funcs[f]? = some fn) (S:fn.body=some c) (R:fn.ntmps=N) (n:Nat.ble vs.length N=true) (B:AllRo pre)
  (h:∀w0 (sc:Nat->Prop),(∀k,w0.heap.size<=k->sc k)->(∀k,sc k->w0.heap.size<=k\/p.fp k\/∃q∈pre,q.fp k)->
   E P N sc c (Zk2 P fn w0 p φ val q) (Pu 0 vs) ((0,keep w0 p.fp)::(1,p)::Qi 2 pre)) :
  Zhp P f vs.toArray pre p φ val q:=λw D s=>by
 refine calls_of_wp V S (h w (λk=>w.heap.size<=k\/p.fp k\/∃q∈pre,q.fp k) (λk b=> .inl b) (λk b=>b) _ w ?_);have n:vs.length<=N:=by simpa using n
 have a:∀i r,lk ((0,keep w p.fp)::(1,p)::Qi 2 pre) i=some r->(i=0/\r=keep w p.fp)\/(i=1/\r=p)\/(i≠0/\i≠1/\r∈pre/\r.own=false):=λi r hi=>by
   by_cases l:0=i
   .subst l;rw [Zp]at hi;cases hi;exact .inl ⟨rfl,rfl⟩
   .rw [Zg l]at hi;by_cases g:1=i
    .subst g;rw [Zp]at hi;cases hi;exact .inr (.inl ⟨rfl,rfl⟩)
    .rw [Zg g]at hi;obtain⟨_,d⟩:=Na pre 2 i r hi;exact .inr (.inr ⟨λe=>l e.symm,λe=>g e.symm,d,B.mem r d⟩)
 refine⟨by simp [R];omega,rfl,λt v Y=>?_,λi r hi=>?_,λi j r F y hi W z k b m=>?_,λi r u hi k b=>?_⟩
 .have g:vs.toArray[t]? = some v:=by simpa using(Kz vs 0 t v Y).2
  have x:=(aL.1 g).1;rw [bA,fM x,g];rfl
 .rcases a i r hi with⟨_,rfl⟩|⟨_,rfl⟩|⟨_,_,d,_⟩
  .exact Chg.refl _ w
  .exact s
  .exact(D r d).1
 .rcases a i r hi with⟨_,rfl⟩|⟨g,rfl⟩|⟨_,_,d,o⟩
  .cases z
  .rcases a j F W with⟨_,rfl⟩|⟨I,rfl⟩|⟨_,_,d,_⟩
   .exact m.2 b
   .exact y (g.trans I.symm)
   .exact(D F d).2 k b m
  .rw [o]at z;cases z
 .rcases a i r hi with⟨l,_⟩|⟨_,rfl⟩|⟨_,_,d,_⟩
  .exact absurd l u
  .exact .inr (.inl b)
  .exact .inr (.inr ⟨r,d,b⟩)
theorem Za0    {G:Type} {φ:G->Prop} {val:G->Value} {q:G->Pc}  {e:Exit} (z:e= .ret\/e= .normal) (t:∀k,sc k->w0.heap.size<=k\/p.fp k\/∃q∈pre,q.fp k)
  (g:G) {v:Value} (l:∀a w,Sat N sc env H a w->(results fn a.tmps).run P w= .ok v w) (F:val g=v) (B:φ g) (i:Nat) (hi:lk H i=some (q g)) (y:lk H 0=some (keep w0 p.fp)) (b:Nat.beq i 0=false) (d:(q g).own=true) (f:PreOk (drp i H) false pre) :
  X N sc e (Zk2 P fn w0 p φ val q) env H:=λa w hs=>by
 have b:i≠0:=λe=>by subst e;simp at b
 have u:a.defers=[]/\∃v,(results fn a.tmps).run P w= .ok v w/\(∃g,Ending.returned v= .returned (val g)/\φ g/\Chg p.fp w0 w/\(q g).holds w/\∀k,(q g).fp k->p.fp k\/w0.heap.size<=k):=by
  refine⟨hs.defers,v,l a w hs,g,by rw [F],B,hs.hold 0 _ y,hs.hold i _ hi,λk x=>?_⟩;rcases t k (hs.scope i _ b hi k x)with h|h|⟨r,D,s⟩
  .exact .inr h
  .exact .inl h
  .obtain⟨j,I,_,n,_,m,_⟩:=f.mem r D;obtain⟨o,n⟩:=Ny _ _ _ _ n;exact(hs.sep i j _ I (gQ o) hi n d k x (m k s)).elim
 rcases z with rfl|rfl<;>exact u
def gb{α:Type}(b:Nat)(t:TypeId)(k:Nat)(e:TypeId)(enc:α->Value)(v:Value)(xs:List α):Pc:=
 {own:=true,fp:=λc=>c=b\/v.ownBlock=some c,holds:=λw=>(box b t #[v]).holds w/\(Yu k e enc v xs).holds w/\v.ownBlock≠some b
  lt:=λw c h a=>by
   rcases a with rfl|a
   .exact(box c t #[v]).lt w c h.1 rfl
   .exact(Yu k e enc v xs).lt w c h.2.1 a
  stable:=λw j h a=>⟨(box b t #[v]).stable w j h.1 ⟨a.os,a.tape,a.output,a.size,λk f g=>a.block k f (λd=>g (λi=>d (.inl i)))⟩,
   (Yu k e enc v xs).stable w j h.2.1 ⟨a.os,a.tape,a.output,a.size,λk f g=>a.block k f (λd=>g (λi=>d (.inr i)))⟩,h.2.2⟩ }
end Go.Sky
namespace Go.Sky
open Go.Proofs
def pU:Enc Try.prog 92 1 Zmu:=Enc.flat Try.sizeOf92 Try.isAgg92 (λ_=>rfl)
def pB:Enc Try.prog 5 1 encB:=Enc.flat Try.sizeOf5 Try.isAgg5 (λ_=>rfl)
def pN:Enc Try.prog 3 1 Zmv:=Enc.flat Try.sizeOf3 Try.isAgg3 (λ_=>rfl)
def pZ:Enc Try.prog 3 1 Zo:=Enc.flat Try.sizeOf3 Try.isAgg3 (λ_=>rfl)
end Go.Sky
theorem Go.Proofs.Try.ti3:Go.Proofs.Try.prog.info? 3=some Go.Proofs.Try.t3:=Go.Sky.O4
namespace Go.Sky
open Go.Proofs
def pS{α:Type} : Enc Try.prog 24 1 (Qe (α:=α)):=Enc.flat Try.sizeOf24 Try.isAgg24 (λ_=>rfl)
end Go.Sky
theorem Go.Proofs.Try.ti4:Go.Proofs.Try.prog.info? 4=some Go.Proofs.Try.t4:=Go.Sky.O4
namespace Go.Sky
open Go.Proofs
end Go.Sky
theorem Go.Proofs.Try.ti24:Go.Proofs.Try.prog.info? 24=some Go.Proofs.Try.t24:=Go.Sky.O4
namespace Go.Sky
open Go.Proofs
end Go.Sky
theorem Go.Proofs.Try.ti38:Go.Proofs.Try.prog.info? 38=some Go.Proofs.Try.t38:=Go.Sky.O4
namespace Go.Sky
open Go.Proofs
end Go.Sky
theorem Go.Proofs.Try.ti26:Go.Proofs.Try.prog.info? 26=some Go.Proofs.Try.t26:=Go.Sky.O4
namespace Go.Sky
open Go.Proofs
def b26_:Try.prog.built 26 []=some #[.slice none 0 0,.int .i64 0,.int .i64 0]:=by refine Xq Try.ti26 Try.underlying26 rfl (pl:=[(0,1),(1,1),(2,1)]) (by simp [Try.ti24,Try.ti3];try decide) ?_;simp [Instr.fill,show(Value.agg #[.slice none 0 0,.int .i64 0,.int .i64 0]).cells=#[.slice none 0 0,.int .i64 0,.int .i64 0]from rfl]
def b26_0{a:Value}(b:a.oneCell'=true):Try.prog.built 26 [(0,a)]=some #[a,.int .i64 0,.int .i64 0]:=by refine Xq Try.ti26 Try.underlying26 rfl (pl:=[(0,1),(1,1),(2,1)]) (by simp [Try.ti24,Try.ti3];try decide) ?_;simp [Instr.fill,Ys b,show(Value.agg #[.slice none 0 0,.int .i64 0,.int .i64 0]).cells=#[.slice none 0 0,.int .i64 0,.int .i64 0]from rfl]
end Go.Sky
theorem Go.Proofs.Try.ti28:Go.Proofs.Try.prog.info? 28=some Go.Proofs.Try.t28:=Go.Sky.O4
namespace Go.Sky
open Go.Proofs
end Go.Sky
theorem Go.Proofs.Try.ti30:Go.Proofs.Try.prog.info? 30=some Go.Proofs.Try.t30:=Go.Sky.O4
namespace Go.Sky
open Go.Proofs
variable{v1 v2 v0:Value}
theorem b30_:Try.prog.built 30 []=some #[.slice none 0 0,.slice none 0 0,.slice none 0 0,.slice none 0 0]:=by refine Xq Try.ti30 Try.underlying30 rfl (pl:=[(0,2),(2,1),(3,1)]) (by simp [Try.ti24,Try.ti28];try decide) ?_;simp [Instr.fill,show(Value.agg #[.slice none 0 0,.slice none 0 0,.slice none 0 0,.slice none 0 0]).cells=#[.slice none 0 0,.slice none 0 0,.slice none 0 0,.slice none 0 0]from rfl]
theorem Znw{a b:Value}(c:v1.oneCell'=true)(d:v2.oneCell'=true):Try.prog.built 30 [(0,.agg #[a,b]),(1,v1),(2,v2)]=some #[a,b,v1,v2]:=by refine Xq Try.ti30 Try.underlying30 rfl (pl:=[(0,2),(2,1),(3,1)]) (by simp [Try.ti24,Try.ti28];try decide) ?_;simp [Instr.fill,Ys c,Ys d,show(Value.agg #[a,b]).cells=#[a,b]from rfl,show(Value.agg #[.slice none 0 0,.slice none 0 0,.slice none 0 0,.slice none 0 0]).cells=#[.slice none 0 0,.slice none 0 0,.slice none 0 0,.slice none 0 0]from rfl]
theorem b38_:Try.prog.built 38 []=some #[.int .i64 0,.int .i64 0,.int .i64 0]:=by refine Xq Try.ti38 Try.underlying38 rfl (pl:=[(0,1),(1,1),(2,1)]) (by simp [Try.ti3];try decide) ?_;simp [Instr.fill,show(Value.agg #[.int .i64 0,.int .i64 0,.int .i64 0]).cells=#[.int .i64 0,.int .i64 0,.int .i64 0]from rfl]
theorem Zks(a:v0.oneCell'=true):Try.prog.built 38 [(0,v0)]=some #[v0,.int .i64 0,.int .i64 0]:=by refine Xq Try.ti38 Try.underlying38 rfl (pl:=[(0,1),(1,1),(2,1)]) (by simp [Try.ti3];try decide) ?_;simp [Instr.fill,Ys a,show(Value.agg #[.int .i64 0,.int .i64 0,.int .i64 0]).cells=#[.int .i64 0,.int .i64 0,.int .i64 0]from rfl]
theorem Znv(a:v0.oneCell'=true)(b:v1.oneCell'=true)(c:v2.oneCell'=true):Try.prog.built 38 [(0,v0),(1,v1),(2,v2)]=some #[v0,v1,v2]:=by refine Xq Try.ti38 Try.underlying38 rfl (pl:=[(0,1),(1,1),(2,1)]) (by simp [Try.ti3];try decide) ?_;simp [Instr.fill,Ys a,Ys b,Ys c,show(Value.agg #[.int .i64 0,.int .i64 0,.int .i64 0]).cells=#[.int .i64 0,.int .i64 0,.int .i64 0]from rfl]
end Go.Sky
theorem Go.Proofs.Try.ti55:Go.Proofs.Try.prog.info? 55=some Go.Proofs.Try.t55:=Go.Sky.O4
namespace Go.Sky
open Go.Proofs
end Go.Sky
theorem Go.Proofs.Try.ti34:Go.Proofs.Try.prog.info? 34=some Go.Proofs.Try.t34:=Go.Sky.O4
namespace Go.Sky
open Go.Proofs
def b55_1{a:Value}(b:a.oneCell'=true):Try.prog.built 55 [(1,a)]=some #[.slice none 0 0,a]:=by refine Xq Try.ti55 Try.underlying55 rfl (pl:=[(0,1),(1,1)]) (by simp [Try.ti3,Try.ti34];try decide) ?_;simp [Instr.fill,Ys b,show(Value.agg #[.slice none 0 0,.int .i64 0]).cells=#[.slice none 0 0,.int .i64 0]from rfl]
end Go.Sky
theorem Go.Proofs.Try.ti77:Go.Proofs.Try.prog.info? 77=some Go.Proofs.Try.t77:=Go.Sky.O4
namespace Go.Sky
open Go.Proofs
variable{P:Program}{N:Nat}{sc:Nat->Prop}{o:Oper}{env:Yd}{H:Hp}{r:Value}
theorem Zkr{a b c d e:Value}(f:c.oneCell'=true)(g:d.oneCell'=true)(h:e.oneCell'=true):Try.prog.built 77 [(0,.agg #[a,b]),(1,c),(2,d),(3,e)]=some #[a,b,c,d,e]:=by refine Xq Try.ti77 Try.underlying77 rfl (pl:=[(0,2),(2,1),(3,1),(4,1)]) (by simp [Try.ti24,Try.ti55];try decide) ?_;simp [Instr.fill,Ys f,Ys g,Ys h,show(Value.agg #[a,b]).cells=#[a,b]from rfl,show(Value.agg #[.slice none 0 0,.int .i64 0,.slice none 0 0,.slice none 0 0,.slice none 0 0]).cells=#[.slice none 0 0,.int .i64 0,.slice none 0 0,.slice none 0 0,.slice none 0 0]from rfl]
def J{α:Sort _}{a:α} : a=a:=rfl
abbrev Ow (P:Program) (f:FuncId) (a:Array Value) (p:List Pc) (v:Value):Prop:=Cal P f a p false (G:=Unit) (λ_=>True) (λ_=>v) (λ_=>[])
abbrev rX (x y:Int):Value:= .agg #[.bool (decide (x<0)),.string (Og x.natAbs),.bool (decide (y<0)),.string (Og y.natAbs)]
def vB{a b:Bool}(h:a=b):Value.bool a=Value.bool b:=aU _ h
def dF(h:Pv P N sc o env H r)(e:r= .bool false):Pv P N sc o env H (.bool false):=Xa _ h e
def dT(h:Pv P N sc o env H r)(e:r= .bool true):Pv P N sc o env H (.bool true):=Xa _ h e
def K1{t0:Sort _}{a:t0} : a=a/\True:=⟨rfl,aB⟩
def K2{t0:Sort _}{a:t0}{t1:Sort _}{b:t1} : a=a/\b=b/\True:=⟨rfl,rfl,aB⟩
def K3{t0:Sort _}{a:t0}{t1:Sort _}{b:t1}{t2:Sort _}{c:t2} : a=a/\b=b/\c=c/\True:=⟨rfl,rfl,rfl,aB⟩
def K4{t0:Sort _}{a:t0}{t1:Sort _}{b:t1}{t2:Sort _}{c:t2}{t3:Sort _}{d:t3} : a=a/\b=b/\c=c/\d=d/\True:=⟨rfl,rfl,rfl,rfl,aB⟩
def K5{t0:Sort _}{a:t0}{t1:Sort _}{b:t1}{t2:Sort _}{c:t2}{t3:Sort _}{d:t3}{t4:Sort _}{e:t4} : a=a/\b=b/\c=c/\d=d/\e=e/\True:=⟨rfl,rfl,rfl,rfl,rfl,aB⟩
def K6{t0:Sort _}{a:t0}{t1:Sort _}{b:t1}{t2:Sort _}{c:t2}{t3:Sort _}{d:t3}{t4:Sort _}{e:t4}{t5:Sort _}{f:t5} : a=a/\b=b/\c=c/\d=d/\e=e/\f=f/\True:=⟨rfl,rfl,rfl,rfl,rfl,rfl,aB⟩
def Ge:=@Go.Proofs.Try.sizeOf24
def Qz:=@Go.Proofs.Try.sizeOf3
def Zdy:=@Go.Proofs.Try.underlying22
def Zu:=@Go.Proofs.Try.underlying24
def uT3:=@Go.Proofs.Try.underlying3
def Mp:=@Go.Proofs.Try.underlying34
def Ao:=@Go.Proofs.Try.underlying71
end Go.Sky

