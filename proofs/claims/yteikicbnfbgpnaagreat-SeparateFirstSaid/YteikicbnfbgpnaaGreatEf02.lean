/- Rules, arithmetic and contracts: part 3. No conditions but those that each theorem names. -/
import Derived.Test.YteikicbnfbgpnaaGreatEf01
import Derived.Test.YteikicbnfbgpnaaGreatProg
import Derived.Test.YteikicbnfbgpnaaGreatRows
import Derived.WalkKit
import Derived.ProofKit
import Derived.OpenShut
import Derived.ShutString
import Derived.ChangeOld
import Derived.Deep.Slices
import Derived.Lib.SmallJoins
set_option linter.all false
namespace Go.Sky
variable{k m:Nat}{f:Nat->Int}{xs:List Int}
def fill(n k:Nat)(f:Nat->Int):List Int:=mk n λi=>if i<k then f i else 0
theorem Pz(n k:Nat)(f:Nat->Int):(fill n k f).length=n:=Yt _ _
theorem Zdl{n:Nat}(h:k<n):(fill n k f).set k (f k)=fill n (k+1) f:=Ik (by simp [Pz]) λi hi=>by rw [Znq (by grind [Pz])];unfold fill;rw [Nv,Nv];grind
theorem Ag(n:Nat)(f:Nat->Int):List.replicate n 0=fill n 0 f:=Ik (by simp [Pz]) λi hi=>by unfold fill;simp_all [Nv,aM,aG,Zfj]
def Db(n:Nat)(f:Nat->Int):fill n n f=mk n f:=Ey λi hi=>O
theorem Zrt(xs:List Int)(g:Int->Int):mk xs.length (λi=>g (cf xs i))=xs.map g:=Ik (by simp [Yt]) λi hi=>by rw [Yt]at hi;simp_all [Nv,aM,Zfj]
theorem Bj{n:Nat}(h:∀i,i<n->bl (f i).natAbs<=m):Sz m (mk n f):=λi=>by grind [Nv,Ks]
theorem Np{p:List Int}(h:Tr p):Tr (Xf p):=by
 unfold Xf;rcases aX 1 p.length with a|a
 .right;rw [Yt,Nv];have b:=h.mem O4;grind [Int.mul_eq_zero]
 .left;simp_all [aC,Yt]
theorem Yfg(xs:List Int)(c:Int):tzl (fill xs.length xs.length λi=>cf xs i*c)=Zr xs c:=by rw [Db,Zrt xs (· * c)];rfl
theorem Yqo(h:Tr xs):tzl (fill (xs.length-1) (xs.length-1) λi=>cf xs (i+1)*((i:Int)+1))=Xf xs:=by rw [Db];exact Al (Np h)
theorem Yka{p:List Int}(h:p.length=0):Xf p=[]:=aC (by unfold Xf;grind [Yt])
theorem Zmj(p:List Int)(x:Int):Yw (p ++ [x])=(Int.gcd (Yw p) x:Int):=by unfold Yw;simp
theorem Nr(p:List Int):0<=Yw p:=by
 rcases Zkh p with rfl|⟨a,y,rfl⟩
 .decide
 grind [Zmj]
theorem Ll{p:List Int}(h:k<p.length):Yw (p.take (k+1))=(Int.gcd (Yw (p.take k)) (p.getD k 0):Int):=by grind [Po,Zmj]
theorem Zbp{n:Nat} : ∀(p:List Int),Sz n p->bl (Yw p).natAbs<=n:=λp=>by
 have a:∀k,k<=p.length->Sz n p->bl (Yw (p.take k)).natAbs<=n:=by
  intro k
  induction k with
  | zero=>intro _ _;exact bA _
  | succ k d=>
   intro c hs;rw [Ll c];have e:=d O hs;have b:=hs k;have:=Ztk (Yw (p.take k)).natAbs (p.getD k 0).natAbs;have g:bl (p.getD k 0).natAbs<=n:=b;show bl (Nat.gcd _ _)<=n;omega
 intro hs;have:=a _ (aI _) hs;grind
theorem Kj(p:List Int):∀i,Yw p∣cf p i:=by
 have b:∀k,k<=p.length->∀i,i<k->Yw (p.take k)∣cf p i:=by
  intro k
  induction k with
  | zero=>omega
  | succ k c=>
   intro a i hi;rw [Ll a];rcases aX i k with h|h
   .grind [Int.dvd_trans,Int.gcd_dvd_left]
   .have:i=k:=O;subst this;exact iP ..
 intro i;rcases aX i p.length with h|h
 .grind
 grind [Yn,Int.dvd_zero]
theorem Zdd(p:List Int):Yw p=0↔∀i,cf p i=0:=by
 refine⟨λh i=>by have:=Kj p i;simp_all,λh=>?_⟩;have a:∀k,k<=p.length->Yw (p.take k)=0:=by
  intro k
  induction k with
  | zero=>intro _;rfl
  | succ k c=>
   intro b;rw [Ll b,c O];have:=h k;rw [show p.getD k 0=0 from this];rfl
 have:=a _ (aI _);grind
theorem Ea{p:List Int}{d:Int}(h:∀i,d∣cf p i):d∣Yw p:=by
 have a:∀k,k<=p.length->d∣Yw (p.take k):=by
  intro k
  induction k with
  | zero=>intro _;exact jU _
  | succ k c=>
   intro b;rw [Ll b];exact Int.dvd_coe_gcd (c O) (h k)
 have:=a _ (aI _);grind
theorem Zdv(p:List Int)(i:Nat):cf (Zz p) i=cf p i/Yw p:=by unfold Zz;simp [Zf5]
theorem Zw(p:List Int):(Zz p).length=p.length:=by simp [Zz]
theorem Hc{x y:Int}{n:Nat}(h:y∣x)(b:bl x.natAbs<=n):bl (x/y).natAbs<=n:=by have a:=jA x y;exact aB (Og a) b
theorem Yu{p:List Int}(h:Tr p):Tr (Zz p):=by
 rcases h with rfl|h
 .left;rfl
 .right;rw [Zdv,Zw];have a:=Kj p (p.length-1);have:=kH a;grind
theorem Hz{n:Nat}{p:List Int}(h:Sz n p):Sz n (Zz p):=λi=>by rw [Zdv];exact Hc (Kj p i) (h i)
theorem Lx{p:List Int}(h:Vp p):Vp (Zz p):=⟨Hz h.sz,Yu h.tr,by rw [Zw];exact h.len⟩
def Vp.ne{p:List Int}(h:Vp p)(a:p≠[]):Yw p≠0:=λe=>h.tr.mem a ((Zdd p).1 e _)
def Hf(p:List Int)(n d:Int)(i:Nat):Int:=Yj (λm=>cf p (i+m)*(n^m*d^(p.length-1-(i+m)))) (p.length-i)
theorem Zwf(p:List Int)(n d:Int):Hf p n d 0=pev p n d:=by unfold Hf pev;simp
theorem Yrg{p:List Int}(n d:Int)(h:0<p.length):Hf p n d (p.length-1)=cf p (p.length-1):=by unfold Hf;rw [show p.length-(p.length-1)=0+1 by omega,Ym,Ga];simp
theorem Ylm{p:List Int}(n d:Int){i:Nat}(h:i<p.length):Hf p n d i=Hf p n d (i+1)*n+cf p i*d^(p.length-1-i):=by unfold Hf;rw [show p.length-i=p.length-(i+1)+1 by omega,Mv];rw [<-Zlq];grind
theorem Zzz{K:Nat}{f:Nat->Int} : ∀{n:Nat},(∀i,i<n->bl (f i).natAbs<=K)->(Yj f n).natAbs<=n*(2^K-1)
 | 0,_=>by simp [Yj]
 | n+1,h=>by have a:=Zzz (n:=n) λi hi=>h i O;grind [Qo,Ym,Nat.add_mul,Int.natAbs_add_le]
theorem Zla{K:Nat}{n:Nat}(h:∀i,i<n->bl (f i).natAbs<=K)(a:n<=31):bl (Yj f n).natAbs<=K+5:=by rw [Qo];have b:=Zzz h;have c:n*(2^K-1)<=31*(2^K-1):=aL _ a;grind
theorem Fk(x:Int){m:Nat}(h:bl x.natAbs<=m):∀k,0<k->bl (x^k).natAbs<=k*m
 | 0,a=>O
 | 1,_=>O4
 | k+2,_=>by have b:=Fk x h (k+1) O5;grind [Int.pow_succ,Nat.add_mul,Yr]
theorem Ynt:bl 1=1:=by rfl
theorem Zhz (i:Nat)(j:Nat){a n d:Int}{A:Nat}(l:bl a.natAbs<=A)(h:bl n.natAbs<=m)(g:bl d.natAbs<=m):bl (a*(n^i*d^j)).natAbs<=A+(i+j)*m:=by
 rcases aV i with rfl|hi
 .rcases aV j with rfl|b
  .grind
  .have c:=Fk d g j b;have e:=Yr a (n^0*d^j);grind
 .rcases aV j with rfl|b
  .have c:=Fk n h i hi;have e:=Yr a (n^i*d^0);grind
  .have c:=Fk n h i hi;have e:=Fk d g j b;grind [Yr,Nat.add_mul]
theorem Ynu{p:List Int}{n d:Int}{A:Nat}(c:Sz A p)(b:bl n.natAbs<=m)(a:bl d.natAbs<=m)(h:p.length<=31)(i:Nat):bl (Hf p n d i).natAbs<=A+(p.length-1-i)*m+5:=by refine Zla (λk g=>?_) O;have e:=Zhz k (p.length-1-(i+k)) (c (i+k)) b a;grind
def Kz(p:List Int)(n d:Int):Prop:=p≠[]/\65536<Xz p+(p.length-1)*Xz [n,d]+8
instance (p:List Int) (n d:Int):Decidable (Kz p n d):=by unfold Kz;infer_instance
def evv(p:List Int)(n d:Int):Int:=if Kz p n d then 0 else pev p n d
def eve(p:List Int)(n d:Int):Int:=if Kz p n d then 7 else 0
abbrev wc (x:Int):Array Value:=#[.bool (decide (x<0)),.string (Qq x.natAbs)]
section
variable {p:List Int} {n d:Int} (hF:Xz p+(p.length-1)*Xz [n,d]+8<=65536) (hl:p.length<=25)
include hF
theorem Zjx:bl n.natAbs<=Xz [n,d]/\bl d.natAbs<=Xz [n,d]:=by simp only [Xz];omega
theorem Zsl : bl (d^(p.length-1-k)).natAbs<=65536:=by
 rcases aV (p.length-1-k)with h|h
 .rw [h,dE];decide
 .have a:=Fk d (Zjx hF).2 _ h;have b:(p.length-1-k)*Xz _<=(p.length-1)*Xz [n,d]:=aL _ O5;omega
theorem Zsk : bl (cf p k*d^(p.length-1-k)).natAbs<=65536:=by have a:=Zhz 0 (p.length-1-k) (Pd p k) (Zjx hF).1 (Zjx hF).2;have b:(0+(p.length-1-k))*Xz _<=(p.length-1)*Xz [n,d]:=aL _ O5;grind
include hl
theorem Zsm(k:Nat):bl (Hf p n d k).natAbs<=65536:=by have a:=Ynu (Pd p) (Zjx hF).1 (Zjx hF).2 O k;have b:(p.length-1-k)*Xz _<=(p.length-1)*Xz [n,d]:=aL _ O5;omega
theorem Zy8(a:1<=k)(b:k<=p.length-1):bl (Hf p n d k*n).natAbs<=65536:=by
 have c:=Ynu (Pd p) (Zjx hF).1 (Zjx hF).2 O k;have e:=Yr (Hf p n d k) n;have g:=(Zjx hF).1;have h:(p.length-1-k)*Xz [n,d]+Xz [n,d]<=(p.length-1)*Xz [n,d]:=by rw [<-cY];exact aL _ O
 omega
end
theorem evv_bl{p:List Int}{n d:Int}(hl:p.length<=25):bl (evv p n d).natAbs<=65536:=by
 unfold evv;split
 .decide
 .rename_i h;rcases aV p.length with c|c
  .rw [aC c,show pev [] n d=0 from rfl];decide
  .rw [<-Zwf];have b:p≠[]:=λe=>O4;exact Zsm (Nat.le_of_not_lt λa=>h ⟨b,a⟩) hl 0
theorem Yj0(d:Int){L:Nat}(a:1<=k)(b:k<=L):d^(L-k)*d=d^(L-(k-1)):=by rw [show L-(k-1)=L-k+1 by omega,dG]
theorem Yga{p:List Int}(n d:Int)(a:1<=k)(b:k<=p.length-1):Hf p n d k*n+cf p (k-1)*d^(p.length-1-(k-1))=Hf p n d (k-1):=by grind [Ylm]
end Go.Sky
namespace Go.Sky
variable{k i B t top:Nat}{f:Nat->Int}{q r c R:List Int}{a b:Int}
def acc(p q:List Int)(i t:Nat):Int:=Yj (λk=>if k<=t then cf p k*cf q (t-k)else 0) i
def Zby(p q:List Int)(i j t:Nat):Int:=acc p q i t+if i<=t/\t<i+j then cf p i*cf q (t-i)else 0
theorem Ygw(p q:List Int)(i:Nat):Zby p q i 0=acc p q i:=nS λt=>by unfold Zby;rw [aG O,eZ]
theorem Yn9(p q:List Int)(i:Nat):Zby p q i q.length=acc p q (i+1):=nS λt=>by
 unfold Zby acc;rw [Ym];by_cases h:i<=t
 .rw [aM h];by_cases d:t<i+q.length
  .rw [aM ⟨h,d⟩]
  .rw [aG (λh=>d h.2),Yn (p:=q) O,eG]
 .rw [aG h,aG (λd=>h d.1)]
theorem Zms{L:Nat}{g:Nat->Int}(j:k<L)(h:∀t,t<L->t≠k->f t=g t){x:Int}(l:x=g k):(mk L f).set k x=mk L g:=Ik (by simp [Yt]) λt e=>by
 rw [bM,Yt]at e;rw [Znq (by rw [Yt];exact j),Nv,Nv,aM e];by_cases d:t=k
 .rw [aM d,d,l,aM j]
 .rw [aG d,aM e,h t e d]
theorem Yn8{p:List Int}{L j:Nat}(h:i+j<L):(mk L (Zby p q i j)).set (i+j) (Zby p q i j (i+j)+cf p i*cf q j)=mk L (Zby p q i (j+1)):=by
 refine Zms h (λt g e=>?_) ?_
 .unfold Zby;by_cases d:i<=t/\t<i+j
  .rw [aM d,aM O]
  .rw [aG d,aG O]
 .unfold Zby;rw [aG O,aM O,eZ,show i+j-i=j by omega]
theorem Zxm(p q:List Int)(t:Nat):acc p q p.length t=(ps p*ps q).c t:=by
 rw [PS.mul_c];unfold acc;have d:Yj (λk=>if k<=t then cf p k*cf q (t-k)else 0) (max (t+1) p.length)=Yj (λk=>if k<=t then cf p k*cf q (t-k)else 0) p.length:=
  Zif O λk d _=>by rw [Yn d,cN];split<;>rfl
 have e:Yj (λk=>if k<=t then cf p k*cf q (t-k)else 0) (max (t+1) p.length)=Yj (λk=>if k<=t then cf p k*cf q (t-k)else 0) (t+1):=
  Zif O λk d _=>by rw [aG O]
 rw [<-d,e];exact Xg λk g=>by rw [aM O];rfl
theorem Zq3(L:Nat):List.replicate L 0=mk L λ_=>0:=by rw [Ag L λ_=>0];unfold fill;exact Ey λi _=>by split<;>rfl
theorem Yj5(p q:List Int):tzl (mk (p.length+q.length-1) (acc p q p.length))=Qt p q:=by unfold Qt;congr 1;exact Ey λi _=>Zxm p q i
theorem Ys9{p:List Int}{A j:Nat}(g:Sz A p)(l:Sz B q)(hi:i<31):bl (Zby p q i j t).natAbs<=A+B+5:=by
 have h:Zby p q i j t=Yj (λk=>if k<i then(if k<=t then cf p k*cf q (t-k)else 0)else if i<=t/\t<i+j then cf p i*cf q (t-i)else 0) (i+1):=by rw [Ym];rw [aG (Nat.lt_irrefl i)];unfold Zby acc;congr 1;exact Xg λk d=>by rw [aM d]
 rw [h];have e:∀a b,bl (cf p a*cf q b).natAbs<=A+B:=λa b=>by have:=Yr (cf p a) (cf q b);have:=g a;have:=l b;omega
 refine Zla (λk d=>?_) O;split
 .split
  .exact e _ _
  .simp [Ks]
 .split
  .exact e _ _
  .simp [Ks]
theorem bl_acc{p:List Int}{A:Nat}(d:Sz A p)(e:Sz B q)(hi:i<=31):bl (acc p q i t).natAbs<=A+B+5:=by
 refine Zla (λk g=>?_) hi;split
 .have:=Yr (cf p k) (cf q (t-k));have:=d k;have:=e (t-k);omega
 .simp [Ks]
def Zap(p q:List Int):Prop:=p≠[]/\q≠[]/\(24<p.length+q.length-2\/65536<Xz p+Xz q+5)
instance (p q:List Int):Decidable (Zap p q):=by unfold Zap;infer_instance
theorem Zet{L:Nat}(h:i<L):(mk L f).getD i 0=f i:=by have:=Nv L f i;rw [aM h]at this;exact this
def Yr1(p q:List Int):Bool:=decide (q≠[]) && decide (p.length<q.length)
def Bx(p q:List Int):Int:=if q.length=0 then 3 else if p.length<q.length then 0 else if 65536<Xz p+(p.length-q.length+1)*(Xz q+1)then 7 else 0
def Zfb(q r:List Int)(top:Nat):List Int:=
 mk r.length λt=>cf r t*cf q (q.length-1)-if top-(q.length-1)<=t/\t<top-(q.length-1)+q.length then cf r top*cf q (t-(top-(q.length-1)))else 0
def Pg(p q:List Int):Nat->List Int
 | 0=>p
 | j+1=>Zfb q (Pg p q j) (p.length-1-j)
theorem Zhd(q r:List Int)(top:Nat):(Zfb q r top).length=r.length:=Yt _ _
theorem Py(p q:List Int):∀j,(Pg p q j).length=p.length
 | 0=>rfl
 | j+1=>by unfold Pg;rw [Zhd,Py p q j]
def Qn(p q:List Int):List Int:=if p.length<q.length then p else tzl (Pg p q (p.length-q.length+1))
theorem Zhw(d:t<r.length):cf (Zfb q r top) t=cf r t*cf q (q.length-1)-if top-(q.length-1)<=t/\t<top-(q.length-1)+q.length then cf r top*cf q (t-(top-(q.length-1)))else 0:=by unfold Zfb;rw [Nv,aM d]
theorem Yd4{c d:Int}{A:Nat}(j:bl a.natAbs<=A)(l:bl b.natAbs<=B)(m:bl c.natAbs<=A)(n:bl d.natAbs<=B):bl (a*b-c*d).natAbs<=A+(B+1):=by have e:=Yr a b;have g:=Yr c d;have h:=Aa (a*b) (c*d);omega
theorem Yho{A:Nat}(e:Sz A r)(d:Sz B q):Sz (A+(B+1)) (Zfb q r top):=by
 unfold Zfb;refine Bj λt g=>?_;split
 .exact Yd4 (e t) (d _) (e _) (d _)
 .rw [fT];have:=Yr (cf r t) (cf q (q.length-1));have:=e t;have:=d (q.length-1);omega
theorem Ac(p q:List Int):∀j,Sz (Xz p+j*(Xz q+1)) (Pg p q j)
 | 0=>by rw [gI];exact Pd p
 | j+1=>by unfold Pg;rw [cY,<-jE];exact Yho (Ac p q j) (Pd q)
def dq(q r:List Int)(k:Nat):Int:=cf r (k+q.length-1)/cf q (q.length-1)
def Zfg(q r:List Int)(k:Nat):List Int:=mk r.length λt=>cf r t-if k<=t/\t<k+q.length then dq q r k*cf q (t-k)else 0
def Xr(p q:List Int):Nat->List Int
 | 0=>p
 | j+1=>Zfg q (Xr p q j) (p.length-q.length-j)
theorem Fb(p q:List Int):∀j,(Xr p q j).length=p.length
 | 0=>rfl
 | j+1=>by unfold Xr Zfg;rw [Yt,Fb p q j]
def Zwz(p q:List Int)(k:Nat):Int:=dq q (Xr p q (p.length-q.length-k)) k
def Mi(p q:List Int)(k:Nat):Prop:=cf (Xr p q (p.length-q.length-k)) (k+q.length-1)%cf q (q.length-1)=0
def Yjx(p q:List Int):List Int:=tzl (mk (p.length-q.length+1) (Zwz p q))
def pdivs(p q:List Int):Prop:=p=[]\/(q.length<=p.length/\(∀k,k<=p.length-q.length->Mi p q k)/\∀i,cf (Xr p q (p.length-q.length+1)) i=0)
theorem Yhr{A:Nat}(d:Sz A r)(g:Sz B q)(e:cf r (k+q.length-1)%cf q (q.length-1)=0):Sz (A+(B+1)) (Zfg q r k):=by
 unfold Zfg;refine Bj λt m=>?_;split
 .have h:bl (dq q r k).natAbs<=A:=Hc (fN e) (d _);have j:=Yr (dq q r k) (cf q (t-k));have l:=Aa (cf r t) (dq q r k*cf q (t-k));have:=d t;have:=g (t-k);omega
 .rw [fT];have:=d t;omega
theorem Zbd(p q:List Int):∀j,j<=p.length-q.length+1->(∀k,p.length-q.length<k+j->k<=p.length-q.length->Mi p q k)->Sz (Xz p+j*(Xz q+1)) (Xr p q j)
 | 0,_,_=>by rw [gI];exact Pd p
 | j+1,g,h=>by unfold Xr;rw [cY,<-jE];refine Yhr (Zbd p q j O λk e d=>h k O d) (Pd q) ?_;have:=h (p.length-q.length-j) O O;unfold Mi at this;rw [show p.length-q.length-(p.length-q.length-j)=j by omega]at this;exact this
theorem Ymg{x y:Bool×ByteArray}(h:eqW x.1 x.2 y.1 y.2=true):x=y:=by obtain⟨d,e⟩:=Zsq.1 h;exact Prod.ext d e
def Ymf(a:Bool)(s:ByteArray):eqW a s a s=true:=Zsq.2 ⟨rfl,rfl⟩
theorem Ygx(p q:List Int)(i j:Nat):Zby p q i (j+1) (i+j)=Zby p q i j (i+j)+cf p i*cf q j:=by unfold Zby;rw [aM O,aG O,eZ,show i+j-i=j by omega]
theorem Zbn{p:List Int}(h:p.length=0\/q.length=0):Qt p q=[]:=by
 unfold Qt;refine(Km _).2 λi=>?_;rw [Nv];split
 .rw [PS.mul_c];refine Gi λk _=>?_;rcases h with h|h
  .rw [Nf,Yn O,cN]
  .rw [Nf,Nf,Yn (p:=q) O,eG]
 .rfl
def Zmq(R:List Int)(l:Int)(i:Nat):List Int:=mk R.length λt=>if t<i then cf R t*l else cf R t
def Zqf(q R:List Int)(l c:Int)(s i:Nat):List Int:=mk R.length λt=>cf R t*l-if s<=t/\t<s+i then c*cf q (t-s)else 0
def Zv1(R:List Int)(l:Int)(i:Nat):(Zmq R l i).length=R.length:=Yt _ _
def Zv0(q R:List Int)(l c:Int)(s i:Nat):(Zqf q R l c s i).length=R.length:=Yt _ _
theorem Yft(R:List Int)(l:Int):Zmq R l 0=R:=by unfold Zmq;simp [Eq.trans,Ey,Zeo,aG]
theorem Ykz{l:Int}(h:i<R.length):(Zmq R l i).getD i 0=cf R i:=by unfold Zmq;rw [Zet h,aG O5]
theorem Yky{l:Int}(h:i<R.length):(Zmq R l i).set i (cf R i*l)=Zmq R l (i+1):=by refine Zms h (λt e d=>?_) O;omega
theorem Yev(q R:List Int)(l c:Int)(s:Nat):Zmq R l R.length=Zqf q R l c s 0:=by unfold Zmq Zqf;simp_all [Ey,aM,aG,fT]
theorem Yhv{l c:Int}{s:Nat}(h:s+i<R.length):(Zqf q R l c s i).getD (s+i) 0=cf R (s+i)*l:=by unfold Zqf;rw [Zet h,aG O5,fT]
theorem Yhu{l c:Int}{s:Nat}(h:s+i<R.length):(Zqf q R l c s i).set (s+i) (cf R (s+i)*l-c*cf q i)=Zqf q R l c s (i+1):=by refine Zms h (λt e d=>?_) O5;omega
theorem rest_b{p:List Int}{j:Nat}(g:Xz p+(p.length-q.length+1)*(Xz q+1)<=65536)(h:j<p.length-q.length+1) :
  (∀t,bl (cf (Pg p q j) t).natAbs<=65536)/\(∀t i,bl (cf (Pg p q j) t*cf q i).natAbs<=65536)/\(∀t i t2 i2,bl (cf (Pg p q j) t*cf q i-cf (Pg p q j) t2*cf q i2).natAbs<=65536):=by
 have d:=Ac p q j;have e:j*(Xz q+1)+(Xz q+1)<=(p.length-q.length+1)*(Xz q+1):=by rw [<-cY];exact aL _ O
 refine⟨λt=>by have:=d t;omega,λt i=>?_,λt i t2 i2=>?_⟩
 .have:=d t;have:=Pd q i;grind [Yr]
 .have:=Yd4 (d t) (Pd q i) (d t2) (Pd q i2);omega
def Zub{p:List Int}(d:Xz p+(p.length-q.length+1)*(Xz q+1)<=65536):Sz 65536 (Pg p q (p.length-q.length+1)):=(Ac p q _).mono d
theorem Zco{p:List Int}(h:Bx p q=0):q.length≠0/\(q.length<=p.length->Xz p+(p.length-q.length+1)*(Xz q+1)<=65536):=by unfold Bx at h;omega
theorem Zhp{p:List Int}(h:q.length≠0):Yr1 p q=decide (p.length<q.length):=by unfold Yr1;grind
def Zsu(q R:List Int)(c:Int)(k i:Nat):List Int:=mk R.length λt=>cf R t-if k<=t/\t<k+i then c*cf q (t-k)else 0
def Zv2(q R:List Int)(c:Int)(k i:Nat):(Zsu q R c k i).length=R.length:=Yt _ _
theorem Ygk(q R:List Int)(c:Int)(k:Nat):R=Zsu q R c k 0:=by unfold Zsu;simp [Eq.trans,Zeo,Ey,aG,fT]
theorem Ymk{c:Int}(h:k+i<R.length):(Zsu q R c k i).getD (k+i) 0=cf R (k+i):=by unfold Zsu;rw [Zet h,aG O5,fT]
theorem Ymj{c:Int}(h:k+i<R.length):(Zsu q R c k i).set (k+i) (cf R (k+i)-c*cf q i)=Zsu q R c k (i+1):=by refine Zms h (λt e d=>?_) O5;omega
def Zho(p q:List Int)(j:Nat):List Int:=mk (p.length-q.length+1) λt=>if p.length-q.length<t+j then Zwz p q t else 0
theorem Zaq(p q:List Int)(j:Nat):(Zho p q j).length=p.length-q.length+1:=Yt _ _
theorem Zpu(p q:List Int):List.replicate (p.length-q.length+1) 0=Zho p q 0:=by rw [Zq3];exact Ey λi hi=>O
theorem Zwq{p:List Int}{j:Nat}(e:j<p.length-q.length+1):(Zho p q j).set (p.length-q.length-j) (dq q (Xr p q j) (p.length-q.length-j))=Zho p q (j+1):=by
 refine Zms O (λt g d=>?_) ?_
 .omega
 .unfold Zwz;grind
theorem Zdp(p q:List Int):tzl (Zho p q (p.length-q.length+1))=Yjx p q:=by unfold Zho Yjx;grind
def pdv(p q:List Int):Prop:=p=[]\/(q.length<=p.length/\(∀k,k<=p.length-q.length->Mi p q k)/\tzl (Xr p q (p.length-q.length+1))=[])
instance (p q:List Int) (k:Nat):Decidable (Mi p q k):=by unfold Mi;infer_instance
instance (p q:List Int):Decidable (pdv p q):=by unfold pdv;infer_instance
theorem div_b{p:List Int}{j:Nat}(n:Xz p+(p.length-q.length+1)*(Xz q+1)<=65536)(o:j<p.length-q.length+1)(h:∀k,p.length-q.length<k+j->k<=p.length-q.length->Mi p q k) :
  (∀t,bl (cf (Xr p q j) t).natAbs<=65536)/\(Mi p q (p.length-q.length-j)->bl (dq q (Xr p q j) (p.length-q.length-j)).natAbs<=65536/\(∀i,bl (dq q (Xr p q j) (p.length-q.length-j)*cf q i).natAbs<=65536)/\
   ∀t i,bl (cf (Xr p q j) t-dq q (Xr p q j) (p.length-q.length-j)*cf q i).natAbs<=65536):=by
 have d:=Zbd p q j O h;have l:j*(Xz q+1)+(Xz q+1)<=(p.length-q.length+1)*(Xz q+1):=by rw [<-cY];exact aL _ O
 refine⟨λt=>by have:=d t;omega,λe=>?_⟩;unfold Mi at e;rw [show p.length-q.length-(p.length-q.length-j)=j by omega]at e;have m:bl (dq q _ _).natAbs<=Xz p+j*(Xz q+1):=Hc (fN e) (d _);have g:∀i,bl (dq q (Xr p q j) (p.length-q.length-j)*cf q i).natAbs<=Xz p+j*(Xz q+1)+Xz q:=λi=>by have:=Yr (dq q (Xr p q j) (p.length-q.length-j)) (cf q i);have:=Pd q i;omega
 refine⟨O,λi=>O4,λt i=>?_⟩;have:=Aa (cf (Xr p q j) t) (dq q (Xr p q j) (p.length-q.length-j)*cf q i);have:=g i;have:=d t;omega
theorem Yan{p:List Int}(g:Xz p+(p.length-q.length+1)*(Xz q+1)<=65536)(e:∀k,k<=p.length-q.length->Mi p q k){j:Nat}:Sz 65536 (Zho p q j):=by
 refine Bj λt l=>?_;split
 .have d:=(div_b g (j:=p.length-q.length-t) O (λk _ h=>e k h)).2;rw [show p.length-q.length-(p.length-q.length-t)=t by omega]at d;exact(d (e t O)).1
 decide
def Yhs{p:List Int}(d:Xz p+(p.length-q.length+1)*(Xz q+1)<=65536)(g:∀k,k<=p.length-q.length->Mi p q k):Sz 65536 (Xr p q (p.length-q.length+1)):=
 (Zbd p q _ (aI _) λk _ e=>g k e).mono d
def Kd(p:List Int)(a b d:Int):Nat->List Int
 | 0=>[cf p (p.length-1)]
 | j+1=>mk ((Kd p a b d j).length+1) λt=>cf (Kd p a b d j) t*a+(if t=0 then cf p (p.length-2-j)*d^(j+1)else cf (Kd p a b d j) (t-1)*b)
def Ec(p:List Int)(a b d:Int):Kd p a b d 0=[cf p (p.length-1)]:=rfl
def Zp1(p:List Int)(a b d:Int)(j:Nat):Kd p a b d (j+1)=mk ((Kd p a b d j).length+1) (λt=>cf (Kd p a b d j) t*a+(if t=0 then cf p (p.length-2-j)*d^(j+1)else cf (Kd p a b d j) (t-1)*b)):=rfl
theorem Zdi(p:List Int)(a b d:Int):∀j,(Kd p a b d j).length=j+1
 | 0=>rfl
 | j+1=>by unfold Kd;rw [Yt,Zdi p a b d j]
def Lm(p:List Int)(a b d:Int):List Int:=if p.length=0 then []else tzl (Kd p a b d (p.length-1))
def Znk(p:List Int)(a b d:Int):Prop:=p≠[]/\65536<Xz p+(p.length-1)*(Xz [a,b,d]+1)+8
instance (p:List Int) (a b d:Int):Decidable (Znk p a b d):=by unfold Znk;infer_instance
def Ly(p q:List Int):List Int:=if p=[]then []else Yjx p q
def Zmf{p:List Int}(h:p≠[]):Ly p q=Yjx p q:=aG h
theorem Zhq{p:List Int}{j:Nat}(d:j<=p.length-q.length):Mi p q (p.length-q.length-j)↔cf (Xr p q j) (p.length-q.length-j+q.length-1)%cf q (q.length-1)=0:=by unfold Mi;grind
def Zxd{x y:Int}(e:y≠0)(d:bl y.natAbs<=65536):Zbv (x%y)=x%y:=Hd (aB (Ztj x y e) d)
def cnx(c:List Int)(a b:Int)(i:Nat):List Int:=mk (c.length+1) λt=>if t<i then cf c t*a+(if t=0 then 0 else cf c (t-1)*b)else if t=i/\0<i then cf c (t-1)*b else 0
theorem Fr(c:List Int)(a b:Int)(i:Nat):(cnx c a b i).length=c.length+1:=Yt _ _
theorem Yne(c:List Int)(a b:Int):List.replicate (c.length+1) 0=cnx c a b 0:=by rw [Zq3];unfold cnx;simp
theorem Ydo(h:i<c.length):(cnx c a b i).getD i 0=if i=0 then 0 else cf c (i-1)*b:=by unfold cnx;rw [Zet O];omega
theorem Ysf(h:i<c.length):((cnx c a b i).set i ((cnx c a b i).getD i 0+cf c i*a)).set (i+1) (cf c i*b)=cnx c a b (i+1):=Ik (by simp [Fr]) λt d=>by rw [Znq (by grind [List.length_set,Fr]),Znq (by grind [Fr]),Ydo h];unfold cnx;rw [Nv,Nv];grind
theorem Zxa(h:0<c.length):(cnx c a b c.length).getD 0 0=cf c 0*a:=by unfold cnx;rw [Zet O5,aM h,aM rfl,eZ]
theorem Ysg{w:Int}(h:0<c.length):(cnx c a b c.length).set 0 ((cnx c a b c.length).getD 0 0+w)=mk (c.length+1) λt=>cf c t*a+(if t=0 then w else cf c (t-1)*b):=Ik (by simp [Fr,Yt]) λt e=>by
 rw [bM,Fr]at e;rw [Znq (by grind [Fr]),Zxa h,Nv,if_pos e];unfold cnx;rw [Nv,aM e];by_cases d:t=0
 .grind
 .rw [aG d,aG d,aG d];by_cases g:t<c.length
  .omega
  .rw [aM (show t=c.length/\0<c.length by omega),Yn O];simp
theorem Zkg{p:List Int}{x y z:Int}{A m:Nat}(d:Sz A p)(e:bl x.natAbs<=m)(o:bl y.natAbs<=m)(g:bl z.natAbs<=m):∀j,Sz (A+j*(m+1)) (Kd p x y z j)
 | 0=>Sz.of_mem λw n=>by rw [bI.1 n];have:=d (p.length-1);omega
 | j+1=>by
  have h:=Zkg d e o g j;refine Bj λt D=>?_;have s:=Yr (cf (Kd p x y z j) t) x;have u:=h t;split
  .have l:=Zhz 0 (j+1) (d (p.length-2-j)) e g;grind [He]
  .have l:=Yr (cf (Kd p x y z j) (t-1)) y;have v:=h (t-1);grind [He]
section
variable {p:List Int} {x y z:Int} (hF:Xz p+(p.length-1)*(Xz [x,y,z]+1)+8<=65536) {j:Nat} (hj:j<p.length-1)
include hF hj
theorem cp_all:bl (z^j).natAbs<=65536/\bl (z^(j+1)).natAbs<=65536/\(∀t,bl (cf (Kd p x y z j) t).natAbs<=65536)/\(∀t,bl (cf (Kd p x y z j) t*x).natAbs<=65536)/\(∀t,bl (cf (Kd p x y z j) t*y).natAbs<=65536)/\
  (∀t,bl ((if t=0 then 0 else cf (Kd p x y z j) (t-1)*y)).natAbs<=65536)/\(∀t,bl ((if t=0 then 0 else cf (Kd p x y z j) (t-1)*y)+cf (Kd p x y z j) t*x).natAbs<=65536)/\
  bl (cf p (p.length-2-j)*z^(j+1)).natAbs<=65536/\bl (cf (Kd p x y z j) 0*x+cf p (p.length-2-j)*z^(j+1)).natAbs<=65536:=by
 have o:bl x.natAbs<=Xz [x,y,z]:=by simp only [Xz];omega
 have w:bl y.natAbs<=Xz [x,y,z]:=by simp only [Xz];omega
 have d:bl z.natAbs<=Xz [x,y,z]:=by simp only [Xz];omega
 have g:=Zkg (Pd p) o w d j;generalize Xz [x,y,z]=m at *;have e:j*(m+1)+(m+1)<=(p.length-1)*(m+1):=by rw [<-cY];exact aL _ O
 have v:j*m<=j*(m+1):=aY _ O5;have u:=Zhz 0 (j+1) (Pd p (p.length-2-j)) o d;rw [dE,gW,cE,cY]at u;have n:=Fk z d (j+1) O5;rw [cY]at n;have l:bl (z^j).natAbs<=65536:=by
  rcases aV j with h|h
  .rw [h,dE];decide
  .have:=Fk z d j h;omega
 have D:∀t,bl (cf (Kd p x y z j) t*x).natAbs<=Xz p+j*(m+1)+m:=λt=>by have:=Yr (cf (Kd p x y z j) t) x;have:=g t;omega
 have F:∀t,bl (cf (Kd p x y z j) t*y).natAbs<=Xz p+j*(m+1)+m:=λt=>by have:=Yr (cf (Kd p x y z j) t) y;have:=g t;omega
 have s:∀t,bl ((if t=0 then 0 else cf (Kd p x y z j) (t-1)*y)).natAbs<=Xz p+j*(m+1)+m:=λt=>by grind [Ks]
 refine⟨l,O,λt=>by have:=g t;omega,λt=>O4,λt=>O4,λt=>by have:=s t;omega,λt=>?_,O,?_⟩
 all_goals grind [He]
end
theorem Ysd{p:List Int}{x y z:Int}(hF:Xz p+(p.length-1)*(Xz [x,y,z]+1)+8<=65536):Sz 65536 (Kd p x y z (p.length-1)):=by
 have d:bl x.natAbs<=Xz [x,y,z]:=by simp only [Xz];omega
 have e:bl y.natAbs<=Xz [x,y,z]:=by simp only [Xz];omega
 have g:bl z.natAbs<=Xz [x,y,z]:=by simp only [Xz];omega
 exact(Zkg (Pd p) d e g _).mono O
theorem Zj4(p q:List Int):(Qn p q).length<=p.length:=by
 unfold Qn;split
 .omega
 grind [Mc,Py]
theorem Zba{p:List Int}(d:Vp p)(e:Bx p q=0):Vp (Qn p q):=by
 have g:=Zj4 p q;refine⟨?_,?_,by have:=d.len;omega⟩
 .unfold Qn;split
  .exact d.sz
  .exact(Zub ((Zco e).2 O)).tzl
 .unfold Qn;split
  .exact d.tr
  grind [Qj]
def Zpq(p q:List Int):Prop:=p.length≠0/\q.length≠0/\65536<(max p.length q.length+2)*(max p.length q.length+2)*(max (Xz p) (Xz q)+8)
instance (p q:List Int):Decidable (Zpq p q):=by unfold Zpq;infer_instance
def gA(p q:List Int):List Int:=if p.length<q.length then Zz q else Zz p
def gB(p q:List Int):List Int:=if p.length<q.length then Zz p else Zz q
def eok:Nat->List Int->List Int->Prop
 | 0,_,b=>b=[]
 | f+1,a,b=>b=[]\/(Bx a b=0/\eok f b (Zz (Qn a b)))
def eu:Nat->List Int->List Int->List Int
 | 0,a,_=>a
 | f+1,a,b=>if b=[]then a else eu f b (Zz (Qn a b))
theorem Zwn{f:Nat}{a b:List Int}(h:eok f a b)(d:b≠[]):∃g,f=g+1/\Bx a b=0/\eok g b (Zz (Qn a b))/\eu f a b=eu g b (Zz (Qn a b)):=by
 cases f with
 | zero=>exact absurd h d
 | succ g=>
  rcases h with h|h
  .grind
  .exact⟨g,rfl,h.1,h.2,by show(if b=[]then a else _)=_;grind⟩
theorem Bg(f:Nat)(a:List Int):eu f a []=a:=by cases f<;>rfl
def Lr(g:List Int):List Int:=if g.length≠0/\cf g (g.length-1)<0 then Zr g (-1)else g
def Ng(f:Nat)(p q:List Int):List Int:=Lr (eu f (gA p q) (gB p q))
theorem vp_gA{p:List Int}(d:Vp p)(e:Vp q):Vp (gA p q):=by unfold gA;all_goals grind [Lx]
theorem vp_gB{p:List Int}(d:Vp p)(e:Vp q):Vp (gB p q):=by unfold gB;all_goals grind [Lx]
theorem Zcq{p:List Int}(h:Sz 65536 p)(i:Nat):bl (cf p i * -1).natAbs<=65536:=by rw [mK,gK,dM];exact h i
theorem Pv(z:Int):z.sign<0↔z<0:=by simp
end Go.Sky
namespace Go.Sky
variable{b k c:Nat}{xs ys:List Nat}{p:Nat->Prop}
theorem Zkf{l:List Int}(h:∀x∈l,Nw x):Sz 65536 l:=Sz.of_mem λx a=>by obtain⟨d,e⟩:=h x a;have:bl x.natAbs<=64:=(Qo 64 _).2 O;omega
open Go.RowKit Below
set_option maxRecDepth 20000
def Pr:2<=1000000000:=O
def Hk:0<1000000000:=O
abbrev Oz (v:Value) (x:Nat):Pc:=Yy 1 Im v (dg 1000000000 x)
theorem Hb(x:Nat):(dg 1000000000 x).length<=bl x:=by rw [Xt Pr];grind [Nat.lt_of_lt_of_le,Bz,Nat.pow_le_pow_left]
theorem Yai(a:2<=b){o:List Nat}(e:∀d∈o,d<b){x:Nat}(f:Yq b o=x)(h:o.length=0\/b^(o.length-1)<=x):o=dg b x:=by
 rw [<-f,Ia a o e];have g:o.length<=(tz o).length:=by
  rw [<-Ia a o e,f];rcases h with h|h
  .omega
  .have:=(Ms a _ x).2 h;omega
 grind [Zd6,List.take_of_length_le]
theorem Yfl{o:List Nat}(a:o.length=k)(h:Yq b o+c*b^k=Yq b (xs.take k)+Yq b (ys.take k)) :
  Yq b (o ++ [(c+xs.getD k 0+ys.getD k 0)%b])+(c+xs.getD k 0+ys.getD k 0)/b*b^(k+1)=Yq b (xs.take (k+1))+Yq b (ys.take (k+1)):=by
 rw [Mb,Qs,Qs];have e:=cL (c+xs.getD k 0+ys.getD k 0) b;simp only [Yq,cH];grind
def d9s(a b c:Nat):Nat:=if a<b+c then a+1000000000-(b+c)else a-(b+c)
theorem Ydf{a:Nat}(d:a<1000000000)(e:b<1000000000)(f:c<=1):d9s a b c<1000000000/\d9s a b c+(b+c)=a+brw a b c*1000000000:=by unfold d9s brw;split<;>omega
theorem Zyt{o:List Nat}(a:c<=1)(d:xs.getD k 0<1000000000)(f:ys.getD k 0<1000000000)(g:o.length=k)(h:Yq 1000000000 o+Yq 1000000000 (ys.take k)=Yq 1000000000 (xs.take k)+c*1000000000^k) :
  Yq 1000000000 (o ++ [d9s (xs.getD k 0) (ys.getD k 0) c])+Yq 1000000000 (ys.take (k+1))=Yq 1000000000 (xs.take (k+1))+brw (xs.getD k 0) (ys.getD k 0) c*1000000000^(k+1):=by
 rw [Mb,Qs,Qs];have e:=(Ydf d f a).2;simp only [Yq,cH];grind
theorem Zn7{o:List Nat}(h:∀d∈o,p d){x:Nat}(e:p x):∀d∈o ++ [x],p d:=λd a=>by grind
theorem Zbm{x:Nat}(a:2<=b)(h:k<(dg b x).length):b^k<=x:=(Ms a k x).1 h
theorem Fu{x:Nat}(a:2<=b)(h:(dg b x).length<=k):Yq b ((dg b x).take k)=x:=by grind [Mm,Lj]
theorem Zt8{a o:Nat}(d:a<1000000000)(e:b<1000000000)(g:o<1000000000)(f:c<1000000000):(o+c+a*b)/1000000000<1000000000/\o+c+a*b<=9223372036854775807:=by have h:a*b<=999999999*999999999:=aP O O;omega
theorem Zxt{o:List Nat}{i V:Nat}(h:Yq 1000000000 o+c*1000000000^(i+k)=V+xs.getD i 0*1000000000^i*Yq 1000000000 (ys.take k))(a:i+k<o.length) :
  Yq 1000000000 (o.set (i+k) ((o.getD (i+k) 0+c+xs.getD i 0*ys.getD k 0)%1000000000))+(o.getD (i+k) 0+c+xs.getD i 0*ys.getD k 0)/1000000000*1000000000^(i+(k+1))=V+xs.getD i 0*1000000000^i*Yq 1000000000 (ys.take (k+1)):=by
 have d:=Zkd 1000000000 o _ _ ((o.getD (i+k) 0+c+xs.getD i 0*ys.getD k 0)%1000000000) a a;rw [cI O5]at d;grind [Qs,Nat.div_add_mod,Nat.pow_succ,Nat.pow_add,Nat.add_mul]
def Zkb(x y:Nat):Int:=if x<y then -1 else if y<x then 1 else 0
section
variable {P:Program} {N:Nat} {sc:Nat->Prop} {env env':Pu} {H H':Hp} {Q Q':Exit->Act->World->Prop} {M:Nat->Prop}
variable {o:Oper} {t t':TypeId} {x y:Operand} {m n:Nat}
theorem Zg7(a:o.op= .binOp .add t x y t')(d:ev env x=some (.int .i64 (m:Int)))(e:ev env y=some (.int .i64 (n:Int)))(h:m+n<=9223372036854775807):Li P N sc o env H (.int .i64 ((m+n:Nat):Int)):=by have:=Ym0 (P:=P) (N:=N) (sc:=sc) (H:=H) a d e ;grind
theorem n_mul(a:o.op= .binOp .mul t x y t')(d:ev env x=some (.int .i64 (m:Int)))(e:ev env y=some (.int .i64 (n:Int)))(h:m*n<=9223372036854775807):Li P N sc o env H (.int .i64 ((m*n:Nat):Int)):=by have:=d_mul (P:=P) (N:=N) (sc:=sc) (H:=H) a d e (by exact⟨O,O⟩);grind
theorem Zmo(d:o.op= .binOp .quo t x y t')(e:ev env x=some (.int .i64 (m:Int)))(f:ev env y=some (.int .i64 (n:Int)))(h:m<=9223372036854775807)(a:0<n):Li P N sc o env H (.int .i64 ((m/n:Nat):Int)):=by grind [Zfh,Int.natCast_ediv]
theorem Zvr(d:o.op= .binOp .rem t x y t')(e:ev env x=some (.int .i64 (m:Int)))(f:ev env y=some (.int .i64 (n:Int)))(a:0<n):Li P N sc o env H (.int .i64 ((m%n:Nat):Int)):=by grind [Zni,Int.natCast_emod]
end
end Go.Sky
namespace Go.Sky
variable{b a r k:Nat}{q:List Nat}
def Zdq{l:List Nat}{i:Nat}(h:l.length<=i):l.getD i 0=0:=O4
theorem Zwu{x y:Nat}(d:2<=b)(h:x<=y):(dg b x).length<=(dg b y).length:=by
 rcases aX (dg b y).length (dg b x).length with c|c
 .have:=Zbs d c;omega
 omega
theorem Ymq{n:Nat}(d:2<=b)(h:n<b)(c:n≠0):dg b n=[n]:=by grind [Zcn,Nat.mod_eq_of_lt,Nat.div_eq_of_lt,Gq]
theorem Yoy(c:2<=b)(f:a<b):tz (a::dg b r)=dg b (r*b+a):=by
 have h:∀d∈a::dg b r,d<b:=λd e=>by
  rcases bB.1 e with rfl|e
  .omega
  .exact Nx c r d e
 rw [<-Ia c _ h];simp only [Yq,Lj c];grind
theorem Zxc : Zkb a b<0↔a<b:=by unfold Zkb;split<;>(omega)<;>omega
theorem Ydq : Zkb a b<=0↔a<=b:=by unfold Zkb;split<;>(omega)<;>omega
theorem Ydr : 0<=Zkb a b↔b<=a:=by unfold Zkb;split<;>(omega)<;>omega
theorem Zyn{x:Nat}(c:0<k):x/1000000000^k*1000000000+x/1000000000^(k-1)%1000000000=x/1000000000^(k-1):=by
 have h:x/1000000000^k=x/1000000000^(k-1)/1000000000:=by simp_all [aQ,cH]
 omega
theorem over_Q{y:Nat}(d:r<y)(c:a<1000000000):(r*1000000000+a)/y<1000000000:=by rw [bW O];omega
theorem bl_m30{y m:Nat}(h:bl m<=30):bl (y*m)<=bl y+30:=by grind [Zny]
theorem Ys7{y:Nat}(g:r<y)(f:a<1000000000):bl (r*1000000000+a)<=bl y+30:=by
 have c:r*1000000000+a<y*1000000000:=by omega
 have d:=Og (dO c);have e:=bl_m30 (y:=y) (m:=1000000000) ((Qo 30 _).2 O5);grind
theorem Znw (y:Nat)(n:Nat)(e:n<1000000000):bl (y*n)<=bl y+30:=by have c:=Zny y n;have d:bl n<=30:=(Qo 30 _).2 O;omega
theorem Zhl{d:Nat}(c:0<k)(h:k<=q.length):Yq 1000000000 ((q.set (k-1) d).drop (k-1))=d+1000000000*Yq 1000000000 (q.drop k):=by rw [drop_set O,show k-1+1=k by omega];rfl
theorem Ygl(d:0<k)(h:k<=q.length)(c:q.getD (k-1) 0=0):Yq 1000000000 (q.drop (k-1))=1000000000*Yq 1000000000 (q.drop k):=by rw [Zdo 0 q _ O,c,show k-1+1=k by omega];simp [Yq]
theorem Yhf{n:Nat}(c:2<=b)(h:n<b):tz [n]=dg b n:=by have:=Ia c [n] O4;simpa [Yq]using this.symm
theorem Zt7{m:Nat}(h:m<9223372036854775809):tz [m%1000000000,m/1000000000%1000000000,m/1000000000/1000000000]=dg 1000000000 m:=by rw [<-Ia Pr _ O4];congr 1;simp only [Yq];omega
theorem sign9{x:Int}(h:(((dg 1000000000 x.natAbs).length:Nat):Int)=0):Value.int .i64 x.sign= .int .i64 0:=by have c:=(Ok Pr x.natAbs).1 O;grind
theorem Zm2{x:Nat}(h:¬(((dg 1000000000 x).length:Nat):Int)=0):0<x:=by grind [Nat.eq_zero_or_pos,Gq]
theorem Yk4{s:Bool}{n:Nat}{z:Int}(c:n=z.natAbs)(hs:sg s z):(s && decide (0<n))=decide (z<0):=by
 cases s
 .have:=hs.2 rfl;grind
 .have:=hs.1 rfl;grind
theorem Zv5(n:Nat):decide ((0:Int)<(((dg 1000000000 n).length:Nat):Int))=decide (0<n):=by rw [bF];have:=Ok Pr n;omega
def Yta{a b:Bool}(h:(a == b)=true):a=b:=O4
theorem Yo7{x y:Int}(c:y≠0):(x-x.tdiv y*y=x.tmod y):=by have:=iL x y;grind
def Zlo(x y:Int):x.natAbs/y.natAbs=(x.tdiv y).natAbs:=(mB x y).symm
theorem Ypm(x y:Int):sg (decide (x<0) != decide (y<0)) (x.tdiv y):=by
 have e:∀a b:Int,0<=a->0<=b->0<=a.tdiv b:=λa b i j=>Int.tdiv_nonneg i j;rcases gL x 0 with h|h<;>rcases gL y 0 with d|d
 .have c:=e (-x) (-y) O O;rw [Int.neg_tdiv,Int.tdiv_neg]at c;simp only [sg,h,d,decide_true,bne_self_eq_false];grind
 .have c:=e (-x) y O d;rw [Int.neg_tdiv]at c;have:=O;simp [sg,h,this];omega
 .have c:=e x (-y) h O;rw [Int.tdiv_neg]at c;have:=O;simp [sg,d,this];omega
 .have c:=e x y h d;have f:=O;have g:=O;simp [sg,f,g];omega
theorem Zln(x:Int){y:Int}(c:y≠0):(x.tmod y).natAbs<y.natAbs:=by simp_all [Int.natAbs_tmod,bJ]
theorem Yqd{x y:Int}(f:0<y)(h:x.tmod y<0):x/y=x.tdiv y-1/\x%y=x-(x.tdiv y-1)*y:=by have c:=Zln x (show y≠0 by omega);have d:=iL x y;have e:(x.tdiv y-1)*y=y*x.tdiv y-y:=O4;have:=Zew (x:=x) (y:=y) (q:=x.tdiv y-1) (r:=x-(x.tdiv y-1)*y) O O4 O O;omega
theorem Yqe{x y:Int}(f:y<0)(h:x.tmod y<0):x/y=x.tdiv y+1/\x%y=x-(x.tdiv y+1)*y:=by have c:=Zln x (show y≠0 by omega);have d:=iL x y;have e:(x.tdiv y+1)*y=y*x.tdiv y+y:=O4;have:=Zew (x:=x) (y:=y) (q:=x.tdiv y+1) (r:=x-(x.tdiv y+1)*y) O O4 O O;omega
theorem Yjr{x y:Int}(c:y≠0)(h:¬x.tmod y<0):x/y=x.tdiv y/\x%y=x.tmod y:=by have d:=Zln x c;have e:=iL x y;exact Zew c O O O
theorem Ys6(x y:Int):bl (x.tdiv y).natAbs<=bl x.natAbs:=by rw [mB];exact Og (dX _ _)
theorem Zzy(x y:Int):bl (x.tdiv y*y).natAbs<=bl x.natAbs:=by rw [bX,mB];exact Og (mP _ _)
section
variable {P:Program} {N:Nat} {sc:Nat->Prop} {env env':Pu} {H H':Hp} {Q Q':Exit->Act->World->Prop} {M:Nat->Prop}
variable {o:Oper} {t t':TypeId} {x y:Operand} {m n:Nat}
theorem Zys(e:o.op= .binOp .quo t x y t')(g:ev env x=some (.int .i64 (-(m:Int))))(i:ev env y=some (.int .i64 (n:Int)))(h:m<=9223372036854775808)(d:1<n):Li P N sc o env H (.int .i64 (-((m/n:Nat):Int))):=Eb e g i λw=>by
 have c:(-(m:Int)).tdiv (n)=-((m/n:Nat)):=O5;have j:=by have:=mO (show 2<=n from d) O5 (a:=m);omega
 generalize m/n=q at *;have f:Nw (-(q)):=⟨O,O5⟩;simp [binOp,Op.intDiv,c,Zb1 f];omega
theorem Ykq(d:o.op= .binOp .rem t x y t')(e:ev env x=some (.int .i64 (-(m:Int))))(f:ev env y=some (.int .i64 (n:Int)))(g:0<n):Li P N sc o env H (.int .i64 (-((m%n:Nat):Int))):=Eb d e f λw=>by
 have c:(-(m:Int)).tmod (n)=-((m%n:Nat)):=by rw [Int.neg_tmod,Int.ofNat_tmod]
 simp [binOp,Op.intDiv,c];omega
theorem Yku(c:o.op= .unOp .neg t x)(e:ev env x=some (.int .i64 (-(m:Int))))(h:m<=9223372036854775807):Li P N sc o env H (.int .i64 (m:Int)):=λa w hs=>by have d:Nw (m):=⟨O5,O⟩;simp [execOp,c,hs.ev e,Op.unary,Op.intArith,Zb1 d]
end
end Go.Sky
namespace Go.Sky
variable{i k m:Nat}{p:Pc}{r:List Pc}{bs ts ks:List Nat}{x y:Operand}{v u:Value}{ops:Array Oper}{listed:Array Bool}{zs:List (Int×SL)}{z:Int×SL}{o:Oper}{t:TypeId}{w0:World}{M0:Nat->Prop}
def Ygg(n:Nat):n/256^((dg 256 n).length-0)=0:=cM ((Xt O5 _ n).1 O5)
theorem Zpt{n:Nat}(h:i<(dg 256 n).length):n/256^((dg 256 n).length-i)*256+n/256^((dg 256 n).length-1-i)%256=n/256^((dg 256 n).length-(i+1)):=by
 rw [show(dg 256 n).length-1-i=(dg 256 n).length-(i+1) by omega];have a:n/256^((dg 256 n).length-i)=n/256^((dg 256 n).length-(i+1))/256:=by rw [aQ,<-cH,show((dg 256 n).length-(i+1)).succ=(dg 256 n).length-i by omega]
 omega
theorem Yo3{p xs:List Nat}{r:Nat}(a:0<k)(b:k<=p.length)(d:k<=xs.length)(c:Yq 1000000000 (p.drop k)*256+r=Yq 1000000000 (xs.drop k)) :
  Yq 1000000000 ((p.set (k-1) ((r*1000000000+xs.getD (k-1) 0)/256)).drop (k-1))*256+(r*1000000000+xs.getD (k-1) 0)%256=Yq 1000000000 (xs.drop (k-1)):=by
 rw [Zhl a b,Zdo 0 xs _ O];simp only [Yq];grind
theorem Yhi{r a:Nat}(c:r<256)(b:a<1000000000):(r*1000000000+a)/256<1000000000:=by omega
theorem Yo4{n:Nat}(a:Yq 256 bs+256^bs.length*m=n):Yq 256 (bs ++ [m%256])+256^(bs ++ [m%256]).length*(m/256)=n:=by rw [Mb,bL];simp only [Yq,dP,fQ,cH,cE,gJ,eP,gF,lE];grind [Nat.div_add_mod]
theorem to_ge{n:Nat}(b:Yq 256 bs+256^bs.length*m=n)(a:0<m):256^bs.length<=n:=by have:=cZ (256^bs.length) a;omega
theorem to_len{n:Nat}(h:256^bs.length<=n):bs.length<=bl n:=by grind [Zbm,Ms,Ziz]
theorem Ymm(a:0<k)(h:k<=bs.length):(bs.drop k).reverse ++ [bs.getD (k-1) 0]=(bs.drop (k-1)).reverse:=by grind [Zdo]
theorem Ys1{n:Nat}(h:bs=dg 256 n):(⟨((bs.drop 0).reverse.map UInt8.ofNat).toArray⟩:ByteArray)=Qq n:=by rw [h];rfl
def Zvc(a b:Int):Prop:=65536<bl a.natAbs\/65536<bl b.natAbs
instance (a b:Int):Decidable (Zvc a b):=by unfold Zvc;infer_instance
def qn(a b:Int):Int:=if Zvc a b then 0 else a
def qd(a b:Int):Int:=if Zvc a b then 0 else b
def qe(a b:Int):Int:=if Zvc a b then 7 else 0
def Yq8{x y:Int}(h:¬y<0):Kq x y=(Int.gcd x y:Int):=aG h
def Zlc(x y:Int):bl ((Int.gcd x y:Int)).natAbs<=max (bl x.natAbs) (bl y.natAbs):=Ztk _ _
open Go.RowKit Below
variable {P:Program} {N:Nat} {sc:Nat->Prop} {env env':Pu} {H H':Hp} {Q Q':Exit->Act->World->Prop} {M:Nat->Prop}
abbrev Zzc (w:Bool×ByteArray):Value:= .agg #[.bool w.1,.string w.2]
abbrev Mr (z:Int×SL):Value:= .agg #[.bool (decide (z.1<0)),Xl z.2]
abbrev Nm {α:Type} (z:SL×α):Value:=Xl z.1
abbrev qI (z:Int×SL):Pc:=Oz (Xl z.2) z.1.natAbs
abbrev pp (v:Value) (zs:List (Int×SL)):Pc:=Xv 2 Mr qI v zs
abbrev Zb (zs:List (Int×SL)):List Int:=zs.map Prod.fst
abbrev I0:Int×SL:=(0,none,0,0)
def Zi(zs:List (Int×SL)):(Zb zs).length=zs.length:=O5
theorem Qz(zs:List (Int×SL))(i:Nat):(zs.getD i I0).1=cf (Zb zs) i:=by
 simp only [cf,List.getD,Zb,fC]
 all_goals grind
def Zvd{β:Type}{enc:β->Value}{q:β->Pc}{zs:List β}{al:Bool}{z:β}(i:Nat)(hi:lk H i=some (Xv k enc q v zs))(d:Nat.beq i 0=false)(a:z∈zs)(h:PreOk H al r):PreOk H al (q z::r):=
 ⟨⟨i,_,λe=>O10,hi,λw h=>h.2 z a,λb c=> .inr ⟨z,a,c⟩,λ_=>rfl⟩,h⟩
def Ygd{β:Type}{enc:β->Value}{q:β->Pc}{zs:List β}{z:β}(i:Nat)(hi:lk H i=some (Xv k enc q v zs))(d:Nat.beq i 0=false)(a:z∈zs)(f:(q z).own=false)(h:Give H true r):Give H true (q z::r):=
 ⟨⟨f,.inl ⟨i,_,λe=>O10,hi,λw h=>h.2 z a,λb c=> .inr ⟨z,a,c⟩,λh=>O4⟩⟩,h⟩
theorem Ye7{β:Type}{enc:β->Value}{q:β->Pc}{zs:List β}(i j n:Nat)(hi:lk H i=some (Xv k enc q v zs))(d:Nat.beq i 0=false)(f:n<=zs.length):∀a w,Sat N sc env H a w->Sat N sc env ((j,Xv k enc q (Kw v n) (zs.take n))::H) a w:=
 Zc6 i j hi d rfl (λw h=>⟨⟨Zee n f h.1.1,λb c=>h.1.2 b (Zm9 c)⟩,λz e=>h.2 z (eW e)⟩) (λb c=>by
  rcases c with c|⟨z,e,c⟩
  .exact .inl (Zm9 c)
  .right;grind) rfl
theorem Zol{n:Nat}{α:Type}{p:α->Prop}(b:∀a w,Sat N sc env H a w->∃x,p x)(h:∀x,p x->A P N sc M ops ts Q n listed env H):A P N sc M ops ts Q n listed env H:=λa w hs=>by obtain⟨x,c⟩:=b a w hs;exact h x c a w hs
theorem Fn(i:Nat):∀a w,Sat N sc env H a w->Sat N sc env ((i,pp (.slice none 0 0) [])::H) a w:=λa w hs=>
 hs.add i _ ⟨Cc 2 _ w,λz d=>O4⟩ (λf g _ _ Hf b c e=>by
  rcases c with c|⟨z,d,_⟩
  all_goals grind) (λb c=>by
  rcases c with c|⟨z,d,_⟩
  all_goals grind)
theorem Zwk{β:Type}{enc:β->Value}{q:β->Pc}{zs:List β}(i:Nat)(hi:lk H i=some (Xv k enc q v zs)):∀a w,Sat N sc env H a w->Kw v zs.length=v:=λa w hs=>by obtain⟨b,c,h,_⟩:=(hs.hold i _ hi).1.1;rw [h];rfl
def Zid(zs:List (Int×SL))(k:Nat):Zb (zs.take k)=(Zb zs).take k:=O5
def Xx{al:Bool}(i:Nat)(hi:lk H i=some (pp v zs))(a:Nat.beq i 0=false)(b:z∈zs)(h:PreOk H al r):PreOk H al (Oz (Xl z.2) z.1.natAbs::r):=Zvd (z:=z) i hi a b h
theorem Yri(i:Nat)(hi:lk H i=some (pp v zs))(a:Nat.beq i 0=false)(c:z∈zs)(b:Oz (Xl z.2) z.1.natAbs=p)(h:Give H true r):Give H true (p::r):=by subst b;exact Ygd (z:=z) i hi a c rfl h
theorem t_appM {α:Type}   {e:TypeId} {i2 j h d:Nat}  {enc:α->Value} {xs ys:List α}  {ti:TypeInfo} {z:Value}  
  (ho:o.op= .call { callee:= .builtin .append,args:=#[x,y],argTypes:=#[t,t] }) (hd:o.dst=some d) (hN:Nat.blt d N=true)
  (hx:ev env x=some v) (hy:ev env y=some u) (hH:lk H i=some (Of k e enc v xs)) (Z:i≠0) (hj:lk H j=some p) (hr:Rd p k enc u ys) (a9:ys≠[])
  (ht:P.underlying t=some (.slice e)) (hi:P.info? e=some ti) (hz:ti.zero=some z) (n:Enc P e k enc) (a0:ti.size=k) (W:ti.bytes=h) (a4:z.cells.size=k)
  (l:(xs.length+ys.length)*h<=140737488355328) (s:0<h)
  (h0:lk H 0=some (Yx w0 M0)) (hw:∀b,w0.heap.size<=b->sc b) (hM:∀b,(Of k e enc v xs).fp b->M b) :
  T P N sc M o env H (G:=Value) (λ_=>True) (λv'=>(d,v')::env) (λv'=>(i,Of k e enc v' (xs ++ ys))::H):=λa w hs K Q hK=>by
 have I:=hs.hold i _ hH;obtain⟨ad,c,rfl,h1,h2,h3⟩:=hr w (hs.hold j p hj);rcases h3 with rfl|⟨g,S,rfl,h3⟩
 .grind
 have a3:∀q u,(cellsOf enc ys)[q]? = some u->w.cell? ((⟨g,S,none⟩:Addr).add q)=some u:=λq u hq=>by
  have a7:q<ys.length*k:=by rw [<-Xk n.cells ys];grind
  have a5:=n.pos;have Y:q/k<ys.length:=iQ O4;have D:=aN Y;have a1:q%k<(enc ys[q/k]).cells.toList.length:=by rw [eR,n.cells];simp_all [bJ]
  have hu:=aN a1;have h4:=Gf n.cells ys _ _ D _ _ hu;grind [Nat.mul_comm,Nat.div_add_mod,Nat.add_assoc,Ol]
 have F:∀u∈cellsOf enc ys,u.oneCell'=true:=λu hu=>by obtain⟨y,_,hy⟩:=kC.1 hu;exact n.one y u hy
 have a6:=aB (cZ _ s) l;obtain⟨v',w',R,a8,f,V⟩:=Zfa (P:=P) t o.type e ti z k h ht hi hz a0 W a4 n.pos v xs.length (cellsOf enc xs) I ⟨g,S,none⟩ ys.length c (cellsOf enc ys)
  (Xk n.cells ys) a3 F (by simp only [maxLen];omega) l
 have a2:(execOp a.eval o).run P w= .ok (.value v') w':=by simp only [execOp,ho,resolve,invoke,builtin,Sem.run_bind,Sem.run_pure,Result.andThen_ok,fV,bP,iA,hs.ev hx,hs.ev hy,R]
 unfold Oper.wp;rw [a2];show K (a.put o.dst _) _;rw [hd];have B:Chg _ w w':=⟨f.os,f.tape,f.output,f.size,λb l hn=>f.block b l (λe=>hn e.symm)⟩;refine hK v' _ _ aA ((hs.upd hH rfl Z B ?_ (λb l=>V b l) h0 hw).put d _ hN) ⟨f.os,f.tape,f.output,f.size,λb l hn=>f.block b l (λe=>hn (hM b e.symm))⟩;show w'.ownsRow 0 e k v' (xs ++ ys).length (cellsOf enc (xs ++ ys));grind [Ip,List.length_append]
theorem Bn (i:Nat)(j:Nat)(l:Nat) {α:Type}   {e:TypeId} {d:Nat}  {enc:α->Value} {xs ys:List α}  {ti:TypeInfo} {z:Value}  
  (ho:o.op= .call { callee:= .builtin .append,args:=#[x,y],argTypes:=#[t,t] }) (hd:o.dst=some d) (hN:Nat.blt d N=true)
  (hx:ev env x=some v) (hy:ev env y=some u) (Y:lk H i=some (Of k e enc v xs)) (I:i≠0) (hj:lk H j=some p) (hr:Rd p k enc u ys)
  (ht:P.underlying t=some (.slice e)) (hi:P.info? e=some ti) (hz:ti.zero=some z) (he:Enc P e k enc) (a2:ti.size=k) (a1:ti.bytes=l) (a4:z.cells.size=k)
  (Z:(xs.length+ys.length)*l<=140737488355328) (D:0<l)
  (h0:lk H 0=some (Yx w0 M0)) (hw:∀b,w0.heap.size<=b->sc b) (hM:∀b,(Of k e enc v xs).fp b->M b) :
  T P N sc M o env H (G:=Value) (λ_=>True) (λv'=>(d,v')::env) (λv'=>(i,Of k e enc v' (xs ++ ys))::H):=by
 by_cases V:ys=[]
 .subst V;intro a w hs K Q hK;have f:w.ownsRow 0 e k v xs.length (cellsOf enc xs):=hs.hold i _ Y;obtain⟨W,c,rfl,h1,h2,h3⟩:=hr w (hs.hold j p hj);have R:∃h n s,v= .slice h n s/\n=xs.length/\n<=s:=by
   rcases f.2 with⟨rfl,hn⟩|⟨g,a5,a6,rfl,_,_,B,_⟩
   all_goals grind
  obtain⟨h,n,s,rfl,rfl,B⟩:=R;have S:(Builtin.append_ #[t,t] o.type #[.slice h xs.length s,.slice W ([]:List α).length c]).run P w= .ok (.slice h xs.length s) w:=by
   have F:(Builtin.firstCells ti.size 0 (.slice W 0 c)).run P w= .ok #[] w:=by
    cases W with
    | none=>rfl
    | some q=>simp [Builtin.firstCells,loadCells,loadCellsFrom]
   cases h with
   | none=>simp [Builtin.append_,run_underlying ht,sizeOf,typeInfo,hi,Builtin.lenOf,F,B]
   | some q=>simp [Builtin.append_,run_underlying ht,sizeOf,typeInfo,hi,Builtin.lenOf,F,B,storeCells]
  have a3:(execOp a.eval o).run P w= .ok (.value (.slice h xs.length s)) w:=by simp only [execOp,ho,resolve,invoke,builtin,Sem.run_bind,Sem.run_pure,Result.andThen_ok,fV,bP,iA,hs.ev hx,hs.ev hy,S]
  unfold Oper.wp;rw [a3];show K (a.put o.dst _) _;rw [hd];refine hK _ _ _ aA ((Sat.upd hs Y rfl I (q:=Of k e enc (.slice h xs.length s) (xs ++ [])) (Chg.refl _ w) ?_ (λb Z=> .inl Z) h0 hw).put d _ hN) (Chg.refl _ w);rw [iG];exact f
 .exact t_appM (i2:=0) ho hd hN hx hy Y I hj hr V ht hi hz he a2 a1 a4 Z D h0 hw hM
theorem Zb7  {G:Type} {φ:G->Prop} {c:G->Pu} {g:G->Hp} {d:Hp}   (i:Nat) (hi:lk H i=some p) (F:p.own=true) (D:ks.all (λk=>!Nat.beq k i)=true) (n:Agr d H ks)
  (h:(∀b,p.fp b->Off d ks b)->T P N sc (Off d ks) o env H φ c g):T P N sc (Off d ks) o env H φ c g:=λa w hs=>
 h (λb s k j q l B=>by
  rw [<-n.mem k j]at l;have f:i≠k:=λe=>by subst e;have:=cJ.1 D i j;simp_all
  exact hs.sep i k p q f hi l F b s B) a w hs
def eaf(v:Value)(i k q:Nat):Addr:=(ead v i k).add q
theorem Ml (ii:Nat) {α:Type}    {f:Nat} {d:Array Field} {b:Field} {I q:Nat}   {enc:α->Value} {xs:List α} (s:o.op= .fieldAddr t x f)
  (G:ev env x=some (.pointer (some (ead v i k)))) (h:lk H ii=some p) (D:Rd p k enc v xs) (F:P.underlying t=some (.struct d)) (j:d[f]? = some b) (l:∀w,(sizeOf b.type).run P w= .ok (I+1) w) (B:b.offset=q) (n:i<xs.length:=by omega) :
  Li P N sc o env H (.pointer (some (eaf v i k q))):=λa w hs=>by
 obtain⟨S,c,rfl,V,W,e⟩:=D w (hs.hold ii p h);rcases e with rfl|⟨g,R,rfl,e⟩
 .grind
 .subst B;simp [execOp,s,hs.ev G,Instr.fieldAt,run_underlying F,j,Instr.sureAddr,fieldPlace,l,Ol,eaf,ead]
theorem Lh (ii:Nat) {α:Type}    {q:Nat}   {enc:α->Value} {xs:List α} (d:α) (n:o.op= .load t x)
  (e:ev env x=some (.pointer (some (eaf v i k q)))) (f:lk H ii=some p) (s:Rd p k enc v xs) (j:∀w,(isAgg t).run P w= .ok false w) (B:(enc (xs.getD i d)).cells.toList[q]? = some u) (l:i<xs.length:=by omega):Li P N sc o env H u:=λa w hs=>by
 obtain⟨F,c,rfl,G,I,b⟩:=s w (hs.hold ii p f);rcases b with rfl|⟨g,D,rfl,b⟩
 .grind
 .have hi:xs[i]? = some (xs.getD i d):=O4;have h:=b i _ hi q u B;simp only [eaf,ead,Ol]at e;simp [execOp,n,hs.ev e,Instr.loadAt,Instr.sureAddr,loadVar,j,load,Sem.run,h]
end Go.Sky
namespace Go.Sky
variable{o:Oper}{r pre:List Pc}{f:FuncId}{xs:List Operand}{a:Act}{w:World}{c x:Operand}{ats:Array TypeId}{vs:List Value}{M0:Nat->Prop}{b:Nat}{t:TypeId}{cs:Array Value}
abbrev rq (z:Int×Int):Value:= .agg #[.bool (decide (z.1<0)),.string (Qq z.1.natAbs),.bool (decide (z.2<0)),.string (Qq z.2.natAbs)]
abbrev encQ (z:(Bool×ByteArray)×(Bool×ByteArray)):Value:= .agg #[.bool z.1.1,.string z.1.2,.bool z.2.1,.string z.2.2]
def Xi (d:Value){P:Program}{N:Nat}{sc:Nat->Prop}{env:Pu}{H:Hp}{r:Value}(h:Li P N sc o env H r)(e:r=d):Li P N sc o env H d:=e▸h
open Go.RowKit Below
variable {P:Program} {N:Nat} {sc:Nat->Prop} {env env':Pu} {H H':Hp} {Q Q':Exit->Act->World->Prop} {M:Nat->Prop}
theorem Zw0 (vs:List Value)(d:List Value){ys:List Operand}(h:o.op= .makeFunc (.func f) xs.toArray ys.toArray)(j:EvL env xs vs)(i:EvL env ys d):Li P N sc o env H (.func (.func f) vs.toArray d.toArray):=λa w hs=>by have e:=j.map hs;have g:=i.map hs;simp [execOp,h,Instr.makeFunc,e,g]
theorem Ze9   (hs:Sat N sc env H a w)      {e g:List Value} (j:o.op= .call { callee:= .value c,args:=xs.toArray,argTypes:=ats })
  (h:ev env c=some (.func (.func f) e.toArray g.toArray)) (d:EvL env xs vs):(execOp a.eval o).run P w=(callFunc f (e ++ vs ++ g).toArray).run P w:=by
 have i:=d.map hs;simp [execOp,j,resolve,invoke,hs.ev h,Deferred.ofValue,i]
theorem Yam (n:Nat)(i:List Value)(vs:List Value)(p:List Value)      {d:Nat}   {al:Bool} {G:Type} {φ:G->Prop} {Yq:G->Value} {m:G->List Pc} {w0:World} 
  (D:Cal P f (i ++ vs ++ p).toArray pre al φ Yq m)
  (I:o.op= .call { callee:= .value c,args:=xs.toArray,argTypes:=ats }) (s:ev env c=some (.func (.func f) i.toArray p.toArray)) (F:o.dst=some d) (B:Nat.blt d N=true)
  (h:EvL env xs vs) (e:∀args w,(callFunc f args).run P w= .ok (.enter f args) w) (k:PreOk H al pre)
  (y:lk H 0=some (Yx w0 M0)) (S:∀b,w0.heap.size<=b->sc b) :
  T P N sc M o env H φ (λg=>(d,Yq g)::env) (λg=>adds n (m g) H):=λa w hs K Q z=>by
 have R:(execOp a.eval o).run P w= .ok (.enter f (i ++ vs ++ p).toArray) w:=by rw [Ze9 hs I s h,e]
 let o2:Oper:={ o with op:= .call { callee:= .value (.func f),args:=((i ++ vs ++ p).map Operand.const).toArray,argTypes:=ats } };have j:∀l:List Value,EvL env (l.map Operand.const) l:=λl=>by
  induction l with
  | nil=>trivial
  | cons v r V=>exact⟨rfl,V⟩
 have u:(execOp a.eval o2).run P w= .ok (.enter f (i ++ vs ++ p).toArray) w:=by rw [Ix hs (o:=o2) rfl (j _),e]
 have q:o2.wp P a w K Q:=Xa n (M:=M) D (o:=o2) rfl F B (j _) e k y S a w hs K Q z;unfold Oper.wp at q ⊢;rw [u]at q;rw [R];exact q
theorem Zip(i:Nat)(hi:lk H i=some (box b t cs))(d:Nat.beq i 0=false)(h:PreOk H false r):PreOk H false (Kv b t cs::r):=
 ⟨⟨i,_,λe=>by subst e;simp at d,hi,λw h=>h,λb g=>g,λh=>by cases h⟩,h⟩
theorem Sat.rboxc(hs:Sat N sc env H a w){i:Nat}(d:lk H i=some (Kv b t cs))(j:Nat):w.cell? ⟨b,j,none⟩=cs[j]?:=by have h:w.heap[b]? = some (.cells cs t (0,0)):=hs.hold i _ d;simp [World.cell?,h]
theorem d_lra   {v:TypeId} {i j k:Nat}   (l:o.op= .load t x)
  (s:ev env x=some (.pointer (some ⟨b,j,none⟩))) (e:lk H i=some (Kv b v cs)) (m:∀w,(isAgg t).run P w= .ok true w) (g:∀w,(sizeOf t).run P w= .ok k w)
  (h:vs.length=k) (q:∀n u,vs[n]? = some u->cs[j+n]? = some u):Li P N sc o env H (.agg vs.toArray):=λa w hs=>by
 have d:=run_loadCells_list (P:=P) w ⟨b,j,none⟩ vs (λn u p=>by rw [Ol,hs.rboxc e];exact q n u p);rw [h]at d;simp [execOp,l,hs.ev s,Instr.loadAt,Instr.sureAddr,loadVar,m,g,d]
theorem Ymw{m:Int}(d:o.op= .unOp .neg t x)(e:ev env x=some (.int .i64 m))(h:Nw (-m):=by exact⟨O,O⟩):Li P N sc o env H (.int .i64 (-m)):=λa w hs=>by simp [execOp,d,hs.ev e,Op.unary,Op.intArith,Zb1 h]
theorem fill24{n p q s d e g h j k l m:Value}:Instr.fill (λi=>some (i*4,4)) ((List.range (2*4)).map ((Value.agg #[n,p,q,s]).cells[· % (Value.agg #[n,p,q,s]).cells.size]!)).toArray [(0,.agg #[d,e,g,h]),(1,.agg #[j,k,l,m])]=some #[d,e,g,h,j,k,l,m]:=by
 simp [Instr.fill,Value.cells,List.range,List.range.loop]
 try rfl
end Go.Sky
namespace Go.Sky
open Go.RowKit Below
variable{f:FuncId}{c:Operand}{xs:List Operand}{ats:Array TypeId}{p:Pc}{pre:List Pc}{w0:World}{M0:Nat->Prop}{fn:Func}{vs:List Value}
variable {P:Program} {N:Nat} {sc:Nat->Prop} {env env':Pu} {H H':Hp} {Q Q':Exit->Act->World->Prop} {M:Nat->Prop}
abbrev iq (z:(Int×Int)×(Int×Int)):Value:= .agg #[.bool (decide (z.1.1<0)),.string (Qq z.1.1.natAbs),.bool (decide (z.1.2<0)),.string (Qq z.1.2.natAbs),.bool (decide (z.2.1<0)),.string (Qq z.2.1.natAbs),.bool (decide (z.2.2<0)),.string (Qq z.2.2.natAbs)]
def Ytg(P:Program)(f:FuncId)(args:Array Value)(pre:List Pc)(p:Pc){G:Type}(φ:G->Prop)(Yq:G->Value)(q:G->Pc):Prop:=
 ∀w,(∀r∈pre,r.holds w/\∀k,p.fp k->¬r.fp k)->p.holds w->Calls P f args w λe a=>∃g,e= .returned (Yq g)/\φ g/\Chg p.fp w a/\(q g).holds a/\∀k,(q g).fp k->p.fp k\/w.heap.size<=k
theorem Yal (i:Nat)(u:List Value)(vs:List Value)(F:List Value) {o:Oper}     {d:Nat}    {G:Type} {φ:G->Prop} {Yq:G->Value} {q:G->Pc}  
  (Z:Ytg P f (u ++ vs ++ F).toArray pre p φ Yq q)
  (ho:o.op= .call { callee:= .value c,args:=xs.toArray,argTypes:=ats }) (a0:ev env c=some (.func (.func f) u.toArray F.toArray)) (hd:o.dst=some d) (W:Nat.blt d N=true)
  (x:EvL env xs vs) (y:∀args w,(callFunc f args).run P w= .ok (.enter f args) w) (v:lk H i=some p) (l:p.own=true) (z:i≠0) (s:PreOk (drp i H) false pre)
  (R:lk H 0=some (Yx w0 M0)) (hw:∀b,w0.heap.size<=b->sc b) (V:∀b,p.fp b->M b) :
  T P N sc M o env H φ (λg=>(d,Yq g)::env) (λg=>(i,q g)::H):=λa w hs K Q S=>by
 have hr:(execOp a.eval o).run P w= .ok (.enter f (u ++ vs ++ F).toArray) w:=by grind [Ze9]
 unfold Oper.wp;rw [hr];refine(Z w (λr hp=>by obtain⟨j,I,_,t,n,m,_⟩:=s.mem r hp;obtain⟨D,t⟩:=Cd _ _ _ _ t;exact⟨n w (hs.hold j I t),λk B Y=>hs.sep i j _ I (gX D) v t l k B (m k Y)⟩) (hs.hold i _ v)).mono ?_
 rintro e w' ⟨g,rfl,hg,h,hq,m⟩;rw [hd];exact S g _ _ hg (Sat.put (hs.upd v l z h hq m R hw) d _ W) ⟨h.os,h.tape,h.output,h.size,λk B hn=>h.block k B (λe=>hn (V k e))⟩
def Yog(P:Program)(fn:Func)(w0:World)(p:Pc){G:Type}(φ:G->Prop)(Yq:G->Value)(q:G->Pc):Exit->Act->World->Prop:=
 bodyPost P fn λe a=>∃g,e= .returned (Yq g)/\φ g/\Chg p.fp w0 a/\(q g).holds a/\∀k,(q g).fp k->p.fp k\/w0.heap.size<=k
theorem Yd0   {c:Code}    {G:Type} {φ:G->Prop} {Yq:G->Value} {q:G->Pc} {N:Nat}
  (y:P.funcs[f]? = some fn) (u:fn.body=some c) (W:fn.ntmps=N) (m:Nat.ble vs.length N=true) (n:AllRo pre)
  (h:∀w0 (sc:Nat->Prop),(∀k,w0.heap.size<=k->sc k)->(∀k,sc k->w0.heap.size<=k\/p.fp k\/∃q∈pre,q.fp k)->
   E P N sc c (Yog P fn w0 p φ Yq q) (Qv 0 vs) ((0,Yx w0 p.fp)::(1,p)::Yz 2 pre)) :
  Ytg P f vs.toArray pre p φ Yq q:=λw Y x=>by
 refine calls_of_wp y u (h w _ (λk b=> .inl b) (λk b=>b) _ w ?_);have m:vs.length<=N:=O10;have a:∀i r,lk ((0,Yx w p.fp)::(1,p)::Yz 2 pre) i=some r->(i=0/\r=Yx w p.fp)\/(i=1/\r=p)\/(i≠0/\i≠1/\r∈pre/\r.own=false):=λi r hi=>by
   by_cases o:0=i
   .grind [Yl]
   .rw [Zx _ _ o]at hi;by_cases d:1=i
    .grind [Yl]
    .rw [Zx _ _ d]at hi;obtain⟨_,g⟩:=Nt pre 2 i r hi;exact .inr (.inr ⟨λe=>o e.symm,λe=>d e.symm,g,n.mem r g⟩)
 refine⟨O4,rfl,λt v R=>?_,λi r hi=>?_,λi j r S F hi B I k b l=>?_,λi r z hi k b=>?_⟩
 .have d:vs.toArray[t]? = some v:=by simpa using(Ge vs 0 t v R).2
  have D:=(aS.1 d).1;simp_all [bO,dY]
 .rcases a i r hi with⟨_,rfl⟩|⟨_,rfl⟩|⟨_,_,g,_⟩
  .exact Chg.refl _ w
  all_goals grind
 .rcases a i r hi with⟨_,rfl⟩|⟨d,rfl⟩|⟨_,_,g,s⟩
  .cases I
  .rcases a j S B with⟨_,rfl⟩|⟨V,rfl⟩|⟨_,_,g,_⟩
   .exact l.2 b
   all_goals grind
  grind
 grind
theorem Yg2    {G:Type} {φ:G->Prop} {Yq:G->Value} {q:G->Pc}  {e:Exit} (B:e= .ret\/e= .normal) (u:∀k,sc k->w0.heap.size<=k\/p.fp k\/∃q∈pre,q.fp k)
  (g:G) {v:Value} (m:∀a w,Sat N sc env H a w->(results fn a.tmps).run P w= .ok v w) (R:Yq g=v) (D:φ g) (i:Nat) (hi:lk H i=some (q g)) (z:lk H 0=some (Yx w0 p.fp)) (b:Nat.beq i 0=false) (d:(q g).own=true) (l:PreOk (drp i H) false pre) :
  X N sc e (Yog P fn w0 p φ Yq q) env H:=λa w hs=>by
 have b:i≠0:=λe=>O10;have x:a.defers=[]/\∃v,(results fn a.tmps).run P w= .ok v w/\(∃g,Ending.returned v= .returned (Yq g)/\φ g/\Chg p.fp w0 w/\(q g).holds w/\∀k,(q g).fp k->p.fp k\/w0.heap.size<=k):=by
  refine⟨hs.defers,v,m a w hs,g,O4,D,hs.hold 0 _ z,hs.hold i _ hi,λk y=>?_⟩;rcases u k (hs.scope i _ b hi k y)with h|h|⟨r,F,t⟩
  .omega
  .grind
  .obtain⟨j,I,_,o,_,n,_⟩:=l.mem r F;obtain⟨s,o⟩:=Cd _ _ _ _ o;exact(hs.sep i j _ I (gX s) hi o d k y (n k t)).elim
 rcases B with rfl|rfl<;>exact x
def gb{α:Type}(b:Nat)(t:TypeId)(k:Nat)(e:TypeId)(enc:α->Value)(v:Value)(xs:List α):Pc:=
 {own:=true,fp:=λc=>c=b\/v.ownBlock=some c,holds:=λw=>(box b t #[v]).holds w/\(Of k e enc v xs).holds w/\v.ownBlock≠some b
  lt:=λw c h a=>by
   rcases a with rfl|a
   .exact(box c t #[v]).lt w c h.1 rfl
   .exact(Of k e enc v xs).lt w c h.2.1 a
  stable:=λw l h a=>⟨(box b t #[v]).stable w l h.1 ⟨a.os,a.tape,a.output,a.size,λk g i=>a.block k g (λd=>i (λj=>d (.inl j)))⟩,
   (Of k e enc v xs).stable w l h.2.1 ⟨a.os,a.tape,a.output,a.size,λk g i=>a.block k g (λd=>i (λj=>d (.inr j)))⟩,h.2.2⟩ }
end Go.Sky
namespace Go.Sky
open Go.Proofs
def pU:Enc Tryz.prog 232 1 Lc:=Enc.flat Tryz.sizeOf232 Tryz.isAgg232 (λ_=>rfl)
def pB:Enc Tryz.prog 5 1 Zka:=Enc.flat Tryz.sizeOf5 Tryz.isAgg5 (λ_=>rfl)
def pN:Enc Tryz.prog 3 1 Im:=Enc.flat Tryz.sizeOf3 Tryz.isAgg3 (λ_=>rfl)
def pZ:Enc Tryz.prog 3 1 Yk:=Enc.flat Tryz.sizeOf3 Tryz.isAgg3 (λ_=>rfl)
def Zje(args:Array Value)(w:World):(callFunc 269 args).run Tryz.prog w=((add64Entry args).run Tryz.prog w).andThen λv w'=> .ok (.value v) w':=
 run_callFunc_extern Tryz.func269 O6 O6 O6 O6 args w
def Yeu(args:Array Value)(w:World):(callFunc 270 args).run Tryz.prog w=((Zfp args).run Tryz.prog w).andThen λv w'=> .ok (.value v) w':=
 run_callFunc_extern Tryz.func270 O6 O6 O6 O6 args w
end Go.Sky
theorem Go.Proofs.Tryz.ti232:Go.Proofs.Tryz.prog.info? 232=some Go.Proofs.Tryz.t232:=Go.Sky.O6
namespace Go.Sky
open Go.Proofs
end Go.Sky
theorem Go.Proofs.Tryz.ti5:Go.Proofs.Tryz.prog.info? 5=some Go.Proofs.Tryz.t5:=Go.Sky.O6
namespace Go.Sky
open Go.Proofs
end Go.Sky
theorem Go.Proofs.Tryz.ti3:Go.Proofs.Tryz.prog.info? 3=some Go.Proofs.Tryz.t3:=Go.Sky.O6
namespace Go.Sky
open Go.Proofs
variable{a b:Bool}
def pW:Enc Tryz.prog 80 2 Zzc:=Enc.agg O3 Tryz.sizeOf80 Tryz.isAgg80 (λx=>⟨[.bool x.1,.string x.2],rfl,rfl,O12⟩)
def pV:Enc Tryz.prog 80 2 wv:=Enc.agg O3 Tryz.sizeOf80 Tryz.isAgg80 (λx=>⟨[.bool (decide (x<0)),.string (Qq x.natAbs)],rfl,rfl,O12⟩)
def pI:Enc Tryz.prog 89 2 Mr:=Enc.agg O3 Tryz.sizeOf89 Tryz.isAgg89 (λx=>⟨[.bool (decide (x.1<0)),Xl x.2],rfl,rfl,O12⟩)
def pS{α:Type} : Enc Tryz.prog 40 1 (Nm (α:=α)):=Enc.flat Tryz.sizeOf40 Tryz.isAgg40 (λ_=>rfl)
def pY:Enc Tryz.prog 276 8 iq:=Enc.agg O3 Tryz.sizeOf276 Tryz.isAgg276 (λx=>⟨[.bool (decide (x.1.1<0)),.string (Qq x.1.1.natAbs),.bool (decide (x.1.2<0)),.string (Qq x.1.2.natAbs),.bool (decide (x.2.1<0)),.string (Qq x.2.1.natAbs),.bool (decide (x.2.2<0)),.string (Qq x.2.2.natAbs)],rfl,rfl,O12⟩)
def pQ:Enc Tryz.prog 82 4 rq:=Enc.agg O3 Tryz.sizeOf82 Tryz.isAgg82 (λx=>⟨[.bool (decide (x.1<0)),.string (Qq x.1.natAbs),.bool (decide (x.2<0)),.string (Qq x.2.natAbs)],rfl,rfl,O12⟩)
def pR:Enc Tryz.prog 82 4 encQ:=Enc.agg O3 Tryz.sizeOf82 Tryz.isAgg82 (λx=>⟨[.bool x.1.1,.string x.1.2,.bool x.2.1,.string x.2.2],rfl,rfl,O12⟩)
def sh80:Tryz.prog.stoodInHeld 80=false:=O6
def eg80:Tryz.prog.eqGuardType Tryz.prog.depth 80=false:=O6
theorem in80(d:Nat)(w:World)(a:Bool)(s:ByteArray)(b:Bool)(t:ByteArray):(Op.equalIn (d+2) 80 (.agg #[.bool a,.string s]) (.agg #[.bool b,.string t])).run Tryz.prog w= .ok (eqW a s b t) w:=by
 have c:Tryz.prog.underlying 80=some (.struct (Tryz.prog.fieldsOf 80)):=by unfold Program.fieldsOf;rw [Tryz.underlying80]
 rw [run_equalIn_agg w (d+1) 80 _ _ c sh80];unfold Program.fieldsOf;rw [Tryz.underlying80];simp [Op.eqFields,part,Tryz.isAgg4,Tryz.isAgg9,run_equalIn_bool' _ _ _ _ _ Tryz.underlying4,run_equalIn_string _ _ _ _ _ Tryz.underlying9];unfold eqW;cases hab:(a == b)
 .simp_all
 .by_cases h:s.toList=t.toList<;>simp_all
theorem eql80(w:World){s:ByteArray}{t:ByteArray}:(binOp .eql 80 (.agg #[.bool a,.string s]) (.agg #[.bool b,.string t])).run Tryz.prog w= .ok (.bool (eqW a s b t)) w:=by rw [run_eql_struct,in80];rfl
theorem neq80(w:World){s:ByteArray}{t:ByteArray}:(binOp .neq 80 (.agg #[.bool a,.string s]) (.agg #[.bool b,.string t])).run Tryz.prog w= .ok (.bool (!eqW a s b t)) w:=by rw [run_neq_struct,in80];rfl
end Go.Sky
theorem Go.Proofs.Tryz.ti33:Go.Proofs.Tryz.prog.info? 33=some Go.Proofs.Tryz.t33:=Go.Sky.O6
namespace Go.Sky
open Go.Proofs
end Go.Sky
theorem Go.Proofs.Tryz.ti35:Go.Proofs.Tryz.prog.info? 35=some Go.Proofs.Tryz.t35:=Go.Sky.O6
namespace Go.Sky
open Go.Proofs
end Go.Sky
theorem Go.Proofs.Tryz.ti38:Go.Proofs.Tryz.prog.info? 38=some Go.Proofs.Tryz.t38:=Go.Sky.O6
namespace Go.Sky
open Go.Proofs
end Go.Sky
theorem Go.Proofs.Tryz.ti40:Go.Proofs.Tryz.prog.info? 40=some Go.Proofs.Tryz.t40:=Go.Sky.O6
namespace Go.Sky
open Go.Proofs
end Go.Sky
theorem Go.Proofs.Tryz.ti47:Go.Proofs.Tryz.prog.info? 47=some Go.Proofs.Tryz.t47:=Go.Sky.O6
namespace Go.Sky
open Go.Proofs
end Go.Sky
theorem Go.Proofs.Tryz.ti80:Go.Proofs.Tryz.prog.info? 80=some Go.Proofs.Tryz.t80:=Go.Sky.O6
namespace Go.Sky
open Go.Proofs
end Go.Sky
theorem Go.Proofs.Tryz.ti82:Go.Proofs.Tryz.prog.info? 82=some Go.Proofs.Tryz.t82:=Go.Sky.O6
namespace Go.Sky
open Go.Proofs
end Go.Sky
theorem Go.Proofs.Tryz.ti89:Go.Proofs.Tryz.prog.info? 89=some Go.Proofs.Tryz.t89:=Go.Sky.O6
namespace Go.Sky
open Go.Proofs
end Go.Sky
theorem Go.Proofs.Tryz.ti91:Go.Proofs.Tryz.prog.info? 91=some Go.Proofs.Tryz.t91:=Go.Sky.O6
namespace Go.Sky
open Go.Proofs
end Go.Sky
theorem Go.Proofs.Tryz.ti130:Go.Proofs.Tryz.prog.info? 130=some Go.Proofs.Tryz.t130:=Go.Sky.O6
namespace Go.Sky
open Go.Proofs
end Go.Sky
theorem Go.Proofs.Tryz.ti23:Go.Proofs.Tryz.prog.info? 23=some Go.Proofs.Tryz.t23:=Go.Sky.O6
namespace Go.Sky
open Go.Proofs
variable{v0 v1:Value}
theorem Ytc{a:Value}(b:v0.oneCell'=true)(c:v1.oneCell'=true)(d:a.oneCell'=true):Tryz.prog.built 23 [(0,v0),(1,v1),(2,a)]=some #[v0,v1,a]:=by refine Pf Tryz.ti23 Tryz.underlying23 rfl (pl:=[(0,1),(1,1),(2,1)]) (by simp [Tryz.ti3];try decide) ?_;simp [Instr.fill,Ye b,Ye c,Ye d,show(Value.agg #[.int .i64 0,.int .i64 0,.int .i64 0]).cells=#[.int .i64 0,.int .i64 0,.int .i64 0]from rfl]
theorem b35_:Tryz.prog.built 35 []=some #[.int .i64 0,.int .i64 0,.int .i64 0,.slice none 0 0,.slice none 0 0,.slice none 0 0]:=by refine Pf Tryz.ti35 Tryz.underlying35 rfl (pl:=[(0,1),(1,1),(2,1),(3,1),(4,1),(5,1)]) (by simp [Tryz.ti3,Tryz.ti33];try decide) ?_;simp [Instr.fill,show(Value.agg #[.int .i64 0,.int .i64 0,.int .i64 0,.slice none 0 0,.slice none 0 0,.slice none 0 0]).cells=#[.int .i64 0,.int .i64 0,.int .i64 0,.slice none 0 0,.slice none 0 0,.slice none 0 0]from rfl]
theorem b35_01(a:v0.oneCell'=true)(b:v1.oneCell'=true):Tryz.prog.built 35 [(0,v0),(1,v1)]=some #[v0,v1,.int .i64 0,.slice none 0 0,.slice none 0 0,.slice none 0 0]:=by refine Pf Tryz.ti35 Tryz.underlying35 rfl (pl:=[(0,1),(1,1),(2,1),(3,1),(4,1),(5,1)]) (by simp [Tryz.ti3,Tryz.ti33];try decide) ?_;simp [Instr.fill,Ye a,Ye b,show(Value.agg #[.int .i64 0,.int .i64 0,.int .i64 0,.slice none 0 0,.slice none 0 0,.slice none 0 0]).cells=#[.int .i64 0,.int .i64 0,.int .i64 0,.slice none 0 0,.slice none 0 0,.slice none 0 0]from rfl]
theorem Zn3{a b c d:Value}(e:v0.oneCell'=true)(f:v1.oneCell'=true)(g:a.oneCell'=true)(h:b.oneCell'=true)(i:c.oneCell'=true)(j:d.oneCell'=true):Tryz.prog.built 35 [(0,v0),(1,v1),(2,a),(3,b),(4,c),(5,d)]=some #[v0,v1,a,b,c,d]:=by refine Pf Tryz.ti35 Tryz.underlying35 rfl (pl:=[(0,1),(1,1),(2,1),(3,1),(4,1),(5,1)]) (by simp [Tryz.ti3,Tryz.ti33];try decide) ?_;simp [Instr.fill,Ye e,Ye f,Ye g,Ye h,Ye i,Ye j,show(Value.agg #[.int .i64 0,.int .i64 0,.int .i64 0,.slice none 0 0,.slice none 0 0,.slice none 0 0]).cells=#[.int .i64 0,.int .i64 0,.int .i64 0,.slice none 0 0,.slice none 0 0,.slice none 0 0]from rfl]
end Go.Sky
theorem Go.Proofs.Tryz.ti64:Go.Proofs.Tryz.prog.info? 64=some Go.Proofs.Tryz.t64:=Go.Sky.O6
namespace Go.Sky
open Go.Proofs
def Zn2:Tryz.prog.built 64 []=some #[.int .i64 0,.int .i64 0,.int .i64 0,.int .i64 0]:=by refine Pf Tryz.ti64 Tryz.underlying64 rfl (pl:=[(0,1),(1,1),(2,1),(3,1)]) (by simp [Tryz.ti3];try decide) ?_;simp [Instr.fill,show(Value.agg #[.int .i64 0,.int .i64 0,.int .i64 0,.int .i64 0]).cells=#[.int .i64 0,.int .i64 0,.int .i64 0,.int .i64 0]from rfl]
def Zh1{a b c d:Value}(e:a.oneCell'=true)(f:b.oneCell'=true)(g:c.oneCell'=true)(h:d.oneCell'=true):Tryz.prog.built 64 [(0,a),(1,b),(2,c),(3,d)]=some #[a,b,c,d]:=by refine Pf Tryz.ti64 Tryz.underlying64 rfl (pl:=[(0,1),(1,1),(2,1),(3,1)]) (by simp [Tryz.ti3];try decide) ?_;simp [Instr.fill,Ye e,Ye f,Ye g,Ye h,show(Value.agg #[.int .i64 0,.int .i64 0,.int .i64 0,.int .i64 0]).cells=#[.int .i64 0,.int .i64 0,.int .i64 0,.int .i64 0]from rfl]
end Go.Sky
theorem Go.Proofs.Tryz.ti4:Go.Proofs.Tryz.prog.info? 4=some Go.Proofs.Tryz.t4:=Go.Sky.O6
namespace Go.Sky
open Go.Proofs
end Go.Sky
theorem Go.Proofs.Tryz.ti9:Go.Proofs.Tryz.prog.info? 9=some Go.Proofs.Tryz.t9:=Go.Sky.O6
namespace Go.Sky
open Go.Proofs
variable{v0 v1 c0_0 c0_1 c1_0 c1_1:Value}
theorem b80_:Tryz.prog.built 80 []=some #[.bool false,.string ⟨#[]⟩]:=by refine Pf Tryz.ti80 Tryz.underlying80 rfl (pl:=[(0,1),(1,1)]) (by simp [Tryz.ti4,Tryz.ti9];try decide) ?_;simp [Instr.fill,show(Value.agg #[.bool false,.string ⟨#[]⟩]).cells=#[.bool false,.string ⟨#[]⟩]from rfl]
theorem Zz3(a:v0.oneCell'=true)(b:v1.oneCell'=true):Tryz.prog.built 80 [(0,v0),(1,v1)]=some #[v0,v1]:=by refine Pf Tryz.ti80 Tryz.underlying80 rfl (pl:=[(0,1),(1,1)]) (by simp [Tryz.ti4,Tryz.ti9];try decide) ?_;simp [Instr.fill,Ye a,Ye b,show(Value.agg #[.bool false,.string ⟨#[]⟩]).cells=#[.bool false,.string ⟨#[]⟩]from rfl]
theorem Ygv:Tryz.prog.built 82 []=some #[.bool false,.string ⟨#[]⟩,.bool false,.string ⟨#[]⟩]:=by refine Pf Tryz.ti82 Tryz.underlying82 rfl (pl:=[(0,2),(2,2)]) (by simp [Tryz.ti80];try decide) ?_;simp [Instr.fill,show(Value.agg #[.bool false,.string ⟨#[]⟩,.bool false,.string ⟨#[]⟩]).cells=#[.bool false,.string ⟨#[]⟩,.bool false,.string ⟨#[]⟩]from rfl]
theorem Zn1 : Tryz.prog.built 82 [(0,.agg #[c0_0,c0_1]),(1,.agg #[c1_0,c1_1])]=some #[c0_0,c0_1,c1_0,c1_1]:=by refine Pf Tryz.ti82 Tryz.underlying82 rfl (pl:=[(0,2),(2,2)]) (by simp [Tryz.ti80];try decide) ?_;simp [Instr.fill,show(Value.agg #[c0_0,c0_1]).cells=#[c0_0,c0_1]from rfl,show(Value.agg #[c1_0,c1_1]).cells=#[c1_0,c1_1]from rfl,show(Value.agg #[.bool false,.string ⟨#[]⟩,.bool false,.string ⟨#[]⟩]).cells=#[.bool false,.string ⟨#[]⟩,.bool false,.string ⟨#[]⟩]from rfl]
theorem Zz2:Tryz.prog.built 89 []=some #[.bool false,.slice none 0 0]:=by refine Pf Tryz.ti89 Tryz.underlying89 rfl (pl:=[(0,1),(1,1)]) (by simp [Tryz.ti33,Tryz.ti4];try decide) ?_;simp [Instr.fill,show(Value.agg #[.bool false,.slice none 0 0]).cells=#[.bool false,.slice none 0 0]from rfl]
theorem Ynz(a:v0.oneCell'=true)(b:v1.oneCell'=true):Tryz.prog.built 89 [(0,v0),(1,v1)]=some #[v0,v1]:=by refine Pf Tryz.ti89 Tryz.underlying89 rfl (pl:=[(0,1),(1,1)]) (by simp [Tryz.ti33,Tryz.ti4];try decide) ?_;simp [Instr.fill,Ye a,Ye b,show(Value.agg #[.bool false,.slice none 0 0]).cells=#[.bool false,.slice none 0 0]from rfl]
theorem Yny : Tryz.prog.built 91 [(0,.agg #[c0_0,c0_1]),(1,.agg #[c1_0,c1_1])]=some #[c0_0,c0_1,c1_0,c1_1]:=by refine Pf Tryz.ti91 Tryz.underlying91 rfl (pl:=[(0,2),(2,2)]) (by simp [Tryz.ti89];try decide) ?_;simp [Instr.fill,show(Value.agg #[c0_0,c0_1]).cells=#[c0_0,c0_1]from rfl,show(Value.agg #[c1_0,c1_1]).cells=#[c1_0,c1_1]from rfl,show(Value.agg #[.bool false,.slice none 0 0,.bool false,.slice none 0 0]).cells=#[.bool false,.slice none 0 0,.bool false,.slice none 0 0]from rfl]
theorem Zn4{a:Value}(b:v0.oneCell'=true)(c:v1.oneCell'=true)(d:a.oneCell'=true):Tryz.prog.built 130 [(0,v0),(1,v1),(2,a)]=some #[v0,v1,a]:=by refine Pf Tryz.ti130 Tryz.underlying130 rfl (pl:=[(0,1),(1,1),(2,1)]) (by simp [Tryz.ti3,Tryz.ti40];try decide) ?_;simp [Instr.fill,Ye b,Ye c,Ye d,show(Value.agg #[.int .i64 0,.int .i64 0,.slice none 0 0]).cells=#[.int .i64 0,.int .i64 0,.slice none 0 0]from rfl]
end Go.Sky
theorem Go.Proofs.Tryz.ti162:Go.Proofs.Tryz.prog.info? 162=some Go.Proofs.Tryz.t162:=Go.Sky.O6
namespace Go.Sky
open Go.Proofs
def Zp6{a b c d e f g h:Value} : Tryz.prog.built 162 [(0,.agg #[a,b]),(1,.agg #[c,d]),(2,.agg #[e,f]),(3,.agg #[g,h])]=some #[a,b,c,d,e,f,g,h]:=by refine Pf Tryz.ti162 Tryz.underlying162 rfl (pl:=[(0,2),(2,2),(4,2),(6,2)]) (by simp [Tryz.ti80];try decide) ?_;simp [Instr.fill,show(Value.agg #[a,b]).cells=#[a,b]from rfl,show(Value.agg #[c,d]).cells=#[c,d]from rfl,show(Value.agg #[e,f]).cells=#[e,f]from rfl,show(Value.agg #[g,h]).cells=#[g,h]from rfl,show(Value.agg #[.bool false,.string ⟨#[]⟩,.bool false,.string ⟨#[]⟩,.bool false,.string ⟨#[]⟩,.bool false,.string ⟨#[]⟩]).cells=#[.bool false,.string ⟨#[]⟩,.bool false,.string ⟨#[]⟩,.bool false,.string ⟨#[]⟩,.bool false,.string ⟨#[]⟩]from rfl]
end Go.Sky
theorem Go.Proofs.Tryz.ti219:Go.Proofs.Tryz.prog.info? 219=some Go.Proofs.Tryz.t219:=Go.Sky.O6
namespace Go.Sky
open Go.Proofs
end Go.Sky
theorem Go.Proofs.Tryz.ti217:Go.Proofs.Tryz.prog.info? 217=some Go.Proofs.Tryz.t217:=Go.Sky.O6
namespace Go.Sky
open Go.Proofs
def Ii{a b:Value}(c:a.oneCell'=true)(d:b.oneCell'=true):Tryz.prog.built 219 [(0,a),(1,b)]=some #[a,b]:=by refine Pf Tryz.ti219 Tryz.underlying219 rfl (pl:=[(0,1),(1,1)]) (by simp [Tryz.ti217,Tryz.ti4];try decide) ?_;simp [Instr.fill,Ye c,Ye d,show(Value.agg #[.bool false,.slice none 0 0]).cells=#[.bool false,.slice none 0 0]from rfl]
end Go.Sky
theorem Go.Proofs.Tryz.ti276:Go.Proofs.Tryz.prog.info? 276=some Go.Proofs.Tryz.t276:=Go.Sky.O6
namespace Go.Sky
open Go.Proofs
variable{N:Nat}{sc:Nat->Prop}{o:Oper}{env:Pu}{r:Value}{t:TypeId}
theorem Ytb{a b c d e f g h:Value} : Tryz.prog.built 276 [(0,.agg #[a,b,c,d]),(1,.agg #[e,f,g,h])]=some #[a,b,c,d,e,f,g,h]:=by refine Pf Tryz.ti276 Tryz.underlying276 rfl (pl:=[(0,4),(4,4)]) (by simp [Tryz.ti82];try decide) ?_;simp [Instr.fill,show(Value.agg #[a,b,c,d]).cells=#[a,b,c,d]from rfl,show(Value.agg #[e,f,g,h]).cells=#[e,f,g,h]from rfl,show(Value.agg #[.bool false,.string ⟨#[]⟩,.bool false,.string ⟨#[]⟩,.bool false,.string ⟨#[]⟩,.bool false,.string ⟨#[]⟩]).cells=#[.bool false,.string ⟨#[]⟩,.bool false,.string ⟨#[]⟩,.bool false,.string ⟨#[]⟩,.bool false,.string ⟨#[]⟩]from rfl]
def J{α:Sort _}{a:α} : a=a:=rfl
abbrev Qa (P:Program) (f:FuncId) (a:Array Value) (p:List Pc) (v:Value):Prop:=Cal P f a p false (G:=Unit) (λ_=>True) (λ_=>v) (λ_=>[])
abbrev rX (x y:Int):Value:= .agg #[.bool (decide (x<0)),.string (Qq x.natAbs),.bool (decide (y<0)),.string (Qq y.natAbs)]
def vB{a b:Bool}(h:a=b):Value.bool a=Value.bool b:=aE _ h
def dF{P:Program}{H:Hp}(h:Li P N sc o env H r)(e:r= .bool false):Li P N sc o env H (.bool false):=Xi _ h e
def dT{P:Program}{H:Hp}(h:Li P N sc o env H r)(e:r= .bool true):Li P N sc o env H (.bool true):=Xi _ h e
def K1{t0:Sort _}{a:t0} : a=a/\True:=⟨rfl,aA⟩
def K2{t0:Sort _}{a:t0}{t1:Sort _}{b:t1} : a=a/\b=b/\True:=⟨rfl,rfl,aA⟩
def K3{t0:Sort _}{a:t0}{t1:Sort _}{b:t1}{t2:Sort _}{c:t2} : a=a/\b=b/\c=c/\True:=⟨rfl,rfl,rfl,aA⟩
def K4{t0:Sort _}{a:t0}{t1:Sort _}{b:t1}{t2:Sort _}{c:t2}{t3:Sort _}{d:t3} : a=a/\b=b/\c=c/\d=d/\True:=⟨rfl,rfl,rfl,rfl,aA⟩
def K5{t0:Sort _}{a:t0}{t1:Sort _}{b:t1}{t2:Sort _}{c:t2}{t3:Sort _}{d:t3}{t4:Sort _}{e:t4} : a=a/\b=b/\c=c/\d=d/\e=e/\True:=⟨rfl,rfl,rfl,rfl,rfl,aA⟩
def K6{t0:Sort _}{a:t0}{t1:Sort _}{b:t1}{t2:Sort _}{c:t2}{t3:Sort _}{d:t3}{t4:Sort _}{e:t4}{t5:Sort _}{f:t5} : a=a/\b=b/\c=c/\d=d/\e=e/\f=f/\True:=⟨rfl,rfl,rfl,rfl,rfl,rfl,aA⟩
def K7{t0:Sort _}{a:t0}{t1:Sort _}{b:t1}{t2:Sort _}{c:t2}{t3:Sort _}{d:t3}{t4:Sort _}{e:t4}{t5:Sort _}{f:t5}{t6:Sort _}{g:t6} : a=a/\b=b/\c=c/\d=d/\e=e/\f=f/\g=g/\True:=⟨rfl,rfl,rfl,rfl,rfl,rfl,rfl,aA⟩
def K8{t0:Sort _}{a:t0}{t1:Sort _}{b:t1}{t2:Sort _}{c:t2}{t3:Sort _}{d:t3}{t4:Sort _}{e:t4}{t5:Sort _}{f:t5}{t6:Sort _}{g:t6}{t7:Sort _}{h:t7} : a=a/\b=b/\c=c/\d=d/\e=e/\f=f/\g=g/\h=h/\True:=⟨rfl,rfl,rfl,rfl,rfl,rfl,rfl,rfl,aA⟩
def K10{t0:Sort _}{a:t0}{t1:Sort _}{b:t1}{t2:Sort _}{c:t2}{t3:Sort _}{d:t3}{t4:Sort _}{e:t4}{t5:Sort _}{f:t5}{t6:Sort _}{g:t6}{t7:Sort _}{h:t7}{t8:Sort _}{i:t8}{t9:Sort _}{j:t9} : a=a/\b=b/\c=c/\d=d/\e=e/\f=f/\g=g/\h=h/\i=i/\j=j/\True:=⟨rfl,rfl,rfl,rfl,rfl,rfl,rfl,rfl,rfl,rfl,aA⟩
def K12{t0:Sort _}{c:t0}{t1:Sort _}{d:t1}{t2:Sort _}{e:t2}{t3:Sort _}{f:t3}{t4:Sort _}{g:t4}{t5:Sort _}{h:t5}{t6:Sort _}{i:t6}{t7:Sort _}{j:t7}{t8:Sort _}{k:t8}{t9:Sort _}{l:t9}{t10:Sort _}{a:t10}{t11:Sort _}{b:t11} : c=c/\d=d/\e=e/\f=f/\g=g/\h=h/\i=i/\j=j/\k=k/\l=l/\a=a/\b=b/\True:=⟨rfl,rfl,rfl,rfl,rfl,rfl,rfl,rfl,rfl,rfl,rfl,rfl,aA⟩
def K13{t0:Sort _}{d:t0}{t1:Sort _}{e:t1}{t2:Sort _}{f:t2}{t3:Sort _}{g:t3}{t4:Sort _}{h:t4}{t5:Sort _}{i:t5}{t6:Sort _}{j:t6}{t7:Sort _}{k:t7}{t8:Sort _}{l:t8}{t9:Sort _}{m:t9}{t10:Sort _}{a:t10}{t11:Sort _}{b:t11}{t12:Sort _}{c:t12} : d=d/\e=e/\f=f/\g=g/\h=h/\i=i/\j=j/\k=k/\l=l/\m=m/\a=a/\b=b/\c=c/\True:=⟨rfl,rfl,rfl,rfl,rfl,rfl,rfl,rfl,rfl,rfl,rfl,rfl,rfl,aA⟩
def Ka:=@Go.Proofs.Tryz.call202
def iA3:=@Go.Proofs.Tryz.isAgg3
def Ic:=@Go.Proofs.Tryz.sizeOf232
def Ki:=@Go.Proofs.Tryz.sizeOf3
def Zcy:=@Go.Proofs.Tryz.sizeOf33
def Iq:=@Go.Proofs.Tryz.sizeOf35
def Ztu:=@Go.Proofs.Tryz.sizeOf38
def Kl:=@Go.Proofs.Tryz.sizeOf80
def Za0:=@Go.Proofs.Tryz.sizeOf89
def Zbc:=@Go.Proofs.Tryz.underlying121
def Zgf:=@Go.Proofs.Tryz.underlying130
def Zov:=@Go.Proofs.Tryz.underlying166
def Zag:=@Go.Proofs.Tryz.underlying193
def Zjg:=@Go.Proofs.Tryz.underlying197
def Oh:=@Go.Proofs.Tryz.underlying217
def Yag:=@Go.Proofs.Tryz.underlying230
def Zbb:=@Go.Proofs.Tryz.underlying232
def Zlm:=@Go.Proofs.Tryz.underlying242
def Zou:=@Go.Proofs.Tryz.underlying243
def Zot:=@Go.Proofs.Tryz.underlying268
def uT3:=@Go.Proofs.Tryz.underlying3
def Pn:=@Go.Proofs.Tryz.underlying33
def Du:=@Go.Proofs.Tryz.underlying35
def Ln:=@Go.Proofs.Tryz.underlying38
def Yow:=@Go.Proofs.Tryz.underlying39
def Mu:=@Go.Proofs.Tryz.underlying40
def Zia:=@Go.Proofs.Tryz.underlying46
def Kh:=@Go.Proofs.Tryz.underlying47
def uT5:=@Go.Proofs.Tryz.underlying5
def Zfl:=@Go.Proofs.Tryz.underlying50
def Zge:=@Go.Proofs.Tryz.underlying61
def uT9:=@Go.Proofs.Tryz.underlying9
open Go.ChangeShapes Go.WideShapes Go.ChangeAt Go.RowKit Go.Joins Go.Deep
variable {P:Program} {W:World} {H:Type} {enc:TypeId×Value->H}
theorem Zdu{α:Type}[Inhabited α]{p:Nat->α->Prop} : ∀n,(∀i,i<n->∃x,p i x)->∃xs:List α,xs.length=n/\∀i x,xs[i]? = some x->p i x
 | 0,_=>⟨[],rfl,λi x h=>by simp at h⟩
 | n+1,h=>by
  obtain⟨xs,c,d⟩:=Zdu n λi hi=>h i O;obtain⟨x,e⟩:=h n O;refine⟨xs ++ [x],by simp [c],λi y a=>?_⟩;rcases aX i n with hi|hi
  .rw [fE O]at a;exact d i y a
  .rw [fA O,c]at a;rcases aV (i-n)with b|b
   .rw [b]at a;simp at a;subst a;rw [show i=n by omega];exact e
   .rw [bT O8]at a;cases a
theorem Zml{r:Reach}{i:Nat}{e:TypeId}{a:Addr}{g c:Nat}(hs:P.underlying t=some (.slice e))(b:Value.okWide P W r i t (.slice (some a) g c)):a.spot=none/\a.block<W.heap.size:=by
 unfold Value.okWide at b;rw [hs]at b;simp only at b;unfold Cell.okWide at b;rw [hs]at b;simp only at b;unfold Cell.ok at b;rw [hs]at b;simp only at b;obtain⟨_,_,_,j,k,d,f,_⟩:=b;refine⟨j,?_⟩;unfold World.shape? at f;rcases aX a.block W.heap.size with h|h
 .exact h
 .rw [Array.getElem?_eq_none h]at f;simp at f
end Go.Sky
namespace Go.Sky
variable{P:Program}{f:FuncId}{args:Array Value}{pre:List Pc}{φ:Value×List (Int×SL)->Prop}{x:Int}{R:List Int}
theorem Cal.toS     {al:Bool} 
  (h:Cal P f args pre al (G:=Value×List (Int×SL)) φ (λr=>r.1) (λr=>[pp r.1 r.2])) :
  Cal P f args pre al (G:=SL×List (Int×SL)) (λr=>φ (Xl r.1,r.2)) (λr=>Xl r.1) (λr=>[pp (Xl r.1) r.2]):=λw l=>by
 refine(h w l).mono λe n ⟨g,k,m,j,hi⟩=>?_;obtain⟨v,z⟩:=g;have b:=(hi _ (bK ..)).1;obtain⟨a,c,d,_⟩:=Zc n b;have i:v=Xl (a,z.length,c):=d;subst i;exact⟨((a,z.length,c),z),k,m,j,hi⟩
abbrev qT (z:SL×List (Int×SL)):Pc:=pp (Xl z.1) z.2
abbrev T0:SL×List (Int×SL):=((none,0,0),[])
abbrev Bk (zs:List (SL×List (Int×SL))):List (List Int):=zs.map λz=>Zb z.2
set_option maxRecDepth 20000
theorem Ztg{K:Nat}{f:Nat->Int}{n:Nat}(h:∀i,i<n->bl (f i).natAbs<=K)(a:n<=1023):bl (Yj f n).natAbs<=K+10:=by rw [Qo];have b:=Zzz h;have c:n*(2^K-1)<=1023*(2^K-1):=aL _ a;grind
def Lf(zs:List (Int×SL))(z:Int×SL):Zb (zs ++ [z])=Zb zs ++ [z.1]:=O5
def Yqp(p q:List Int):tzl (mk (max p.length q.length) λt=>cf p t+cf q t)=Ht p q:=rfl
theorem Zyh(p:List Int)(c:Int):tzl (mk p.length λt=>cf p t*c)=Zr p c:=by rw [Zrt p (· * c)];rfl
def Yqk(p q:List Int):tzl (mk (p.length+q.length-1) λt=>Yj (λk=>cf p k*cf q (t-k)) (t+1))=Qt p q:=rfl
theorem Zai{m:Nat}(h:bl x.natAbs<=m)(n:Nat):bl (x^n).natAbs<=n*m+1:=by
 rcases aV n with a|a
 .rw [a,dE];have:bl (1:Int).natAbs=1:=by rfl
  omega
 .have:=Fk x h n a;omega
theorem Oj(p:List Int)(c:Int):(Zr p c).length<=p.length:=by unfold Zr;grind [Mc,List.length_map]
theorem Ykb(p q:List Int):(Ht p q).length<=max p.length q.length:=by unfold Ht;grind [Mc,Yt]
theorem bl_i1{i:Nat}(h:i<=1000):bl ((i:Int)+1).natAbs<=1000000000:=by have a:=Og (show((i:Int)+1).natAbs<=1001 by omega);have b:bl 1001<=10:=O3;omega
theorem ev_tb{p:List Int}{y:Int}(hs:Sz 1000000 p)(a:∀k,bl (x^k).natAbs<=k*1000000+1)(b:∀k,bl (y^k).natAbs<=k*1000000+1)(j:p.length<=30)(t:Nat):bl (cf p t*(x^t*y^(p.length-1-t))).natAbs<=100000000:=by
 rcases aX t p.length with h|h
 .have c:=a t;have d:=b (p.length-1-t);have e:=Yr (x^t) (y^(p.length-1-t));have g:=Yr (cf p t) (x^t*y^(p.length-1-t));have i:=hs t;omega
 .rw [Yn h,cN];decide
theorem Mh{y:Int}(h:y≠0):∀n:Nat,y^n≠0
 | 0=>O5
 | n+1=>by rw [dG];exact bC (Mh h n) h
theorem Zyw(xs ys:List Int):xs.map wr=ys.map wr↔xs=ys:=by refine⟨λh=>?_,λh=>O4⟩;exact List.map_inj_right (λx y h=>Yg4 (aE Prod.fst h) (aE Prod.snd h)) |>.1 h
theorem Cal.imp2{m p q:Pc}{al:Bool}{G:Type}{φ:G->Prop}{Yq:G->Value}{i:G->List Pc}(h:Cal P f args (m::p::pre) al φ Yq i)(y:∀w,q.holds w->p.holds w)(u:∀b,p.fp b->q.fp b) :
  Cal P f args (m::q::pre) al φ Yq i:=λw k=>by
 refine(h w λr a=>?_).mono ?_
 .rcases bB.1 a with rfl|a
  .exact k _ (bK ..)
  .rcases bB.1 a with rfl|a
   .exact y w (k q (bE _ (bK ..)))
   .exact k r (bE _ (bE _ a))
 .rintro e B ⟨g,t,v,j,d⟩;refine⟨g,t,v,j,λz l=>?_⟩;obtain⟨n,o,s⟩:=d z l;refine⟨n,o,λb j=>?_⟩;rcases s b j with h|⟨h,r,a,c⟩
  .exact .inl h
  .refine .inr ⟨h,?_⟩;rcases bB.1 a with rfl|a
   .exact⟨r,bK ..,c⟩
   .rcases bB.1 a with rfl|a
    .exact⟨q,bE _ (bK ..),u b c⟩
    .exact⟨r,bE _ (bE _ a),c⟩
def shm(q:List Int)(c:Int)(s i:Nat):List Int:=mk (s+i) λt=>if t<s then 0 else c*cf q (t-s)
theorem Zgn(q:List Int)(c:Int)(s:Nat):List.replicate s 0=shm q c s 0:=by rw [Zq3];unfold shm;simp_all [Ey,aM]
theorem Zgo(q:List Int)(c:Int)(s i:Nat):shm q c s i ++ [c*cf q i]=shm q c s (i+1):=by unfold shm;rw [show s+(i+1)=s+i+1 by rfl,Fi,aG O5,show s+i-s=i by simp]
theorem Ztb(q:List Int)(c:Int)(s t:Nat):cf (shm q c s q.length) t=if s<=t/\t<s+q.length then c*cf q (t-s)else 0:=by unfold shm;rw [Nv];omega
section
variable {p q:List Int}
theorem Zfs(c:0<q.length)(b:q.length<=p.length):∀j,j<=p.length-q.length+1->∀t,p.length-j<=t->cf (Pg p q j) t=0
 | 0,_,t,d=>Yn ‹_›
 | j+1,e,t,d=>by
  rcases aX t _ with h|h
  .unfold Pg;rw [Zhw (by exact h)];by_cases a:t=p.length-1-j
   .subst a;rw [show p.length-1-j-(p.length-1-j-(q.length-1))=q.length-1 by omega];omega
   .rw [Zfs c b j O t O,cN,aG O];rfl
  grind [Yn,Py]
theorem Zc7(b:0<q.length)(a:q.length<=p.length){j:Nat} : ∀k,j+k<=p.length-q.length+1->(∀t,p.length-(j+k)<=t->cf (Pg p q j) t=0)->∀t,cf (Pg p q (j+k)) t=cf (Pg p q j) t*cf q (q.length-1)^k
 | 0,_,_,t=>O5
 | k+1,e,c,t=>by
  have d:=Zc7 b a k O (λt g=>c t O);rcases aX t p.length with h|h
  .show cf (Zfb q (Pg p q (j+k)) _) t=_;rw [Zhw (by grind [Py]),d _]
   all_goals grind
  simp_all [Yn,Py,cN]
def Cq(p q R:List Int)(j:Nat):Prop:=Tr R/\∀t,cf R t=cf (Pg p q j) t*cf q (q.length-1)^(p.length-q.length+1-j)
theorem Zq1:Cq p q (Zr p (cf q (q.length-1)^(p.length-q.length+1))) 0:=⟨Qk _ _,λt=>by rw [Yi];rfl⟩
theorem Zx9{j:Nat}(l:0<q.length)(i:q.length<=p.length)(a:cf q (q.length-1)≠0)(m:j<=p.length-q.length+1)(h:Cq p q R j)(r:q.length<=R.length):j<=p.length-R.length/\p.length-R.length<=p.length-q.length/\R.length<=p.length/\Cq p q R (p.length-R.length):=by
 have k:=λn=>Mh a n;have b:=h.1.mem (λe=>O4);have c:R.length-1<p.length-j:=by
  rcases aX _ _ with c|c
  .omega
  .rw [h.2,Zfs l i j m _ c]at b;omega
 have g:j<=p.length-R.length:=O;refine⟨g,O,O,h.1,λt=>?_⟩;have o:∀t,p.length-(j+(p.length-R.length-j))<=t->cf (Pg p q j) t=0:=λt s=>by have d:=h.2 t;grind [Yn,Int.mul_eq_zero]
 have d:=Zc7 l i _ O o t;rw [show j+(p.length-R.length-j)=p.length-R.length by omega]at d;rw [d,h.2,eY,<-Int.pow_add];grind
theorem Zjq(a:cf q (q.length-1)≠0)(h:Cq p q R (p.length-R.length))(d:0<q.length)(b:q.length<=R.length)(c:R.length<=p.length):cf R (R.length-1)/cf q (q.length-1)=cf (Pg p q (p.length-R.length)) (R.length-1)*cf q (q.length-1)^(p.length-q.length-(p.length-R.length)):=by rw [h.2,show p.length-q.length+1-(p.length-R.length)=p.length-q.length-(p.length-R.length)+1 by omega,dG,<-eY];simp_all
theorem Zq2(a:cf q (q.length-1)≠0)(h:Cq p q R (p.length-R.length))(d:0<q.length)(b:q.length<=R.length)(c:R.length<=p.length) :
  Cq p q (Ei R (shm q (cf R (R.length-1)/cf q (q.length-1)) (R.length-q.length) q.length)) (p.length-R.length+1):=by
 refine⟨Zah _ _,λt=>?_⟩;rw [Ih,Ztb,Zjq a h d b c,h.2];rcases aX t p.length with e|e
 .show _=cf (Zfb q _ _) t*_;rw [Zhw (by grind [Py])];rw [show p.length-q.length+1-(p.length-R.length)=p.length-q.length-(p.length-R.length)+1 by omega];split<;>grind
 .rw [Yn (by grind [Py]),Yn (p:=Pg p q (p.length-R.length+1)) (by grind [Py]),if_neg O];simp
theorem Zu4{j:Nat}(d:0<q.length)(c:q.length<=p.length)(b:cf q (q.length-1)≠0)(i:j<=p.length-q.length+1)(h:Cq p q R j)(g:R.length<q.length):R=Qn p q:=by
 unfold Qn;rw [aG O];refine h.1.ext (Qj _) λt=>?_;have e:∀t,p.length-(j+(p.length-q.length+1-j))<=t->cf (Pg p q j) t=0:=λt k=>by have a:=h.2 t;grind [Yn,Int.mul_eq_zero,Mh]
 have a:=Zc7 d c _ O e t;rw [show j+(p.length-q.length+1-j)=p.length-q.length+1 by omega]at a;rw [Lb,a,h.2]
theorem Zya{j:Nat}(g:j<=p.length-q.length+1)(h:Cq p q R j):Sz (Xz p+(p.length-q.length+1)*(Xz q+1)+1) R:=λt=>by
 rw [h.2];have a:=Ac p q j t;have b:=Zai (Pd q (q.length-1)) (p.length-q.length+1-j);have c:=Yr (cf (Pg p q j) t) (cf q (q.length-1)^(p.length-q.length+1-j));have d:(p.length-q.length+1-j)*Xz q<=(p.length-q.length+1-j)*(Xz q+1):=aY _ O5;have e:j*(Xz q+1)+(p.length-q.length+1-j)*(Xz q+1)=(p.length-q.length+1)*(Xz q+1):=by rw [<-cK];grind
 omega
theorem Zu3{j:Nat}(h:Cq p q R j):R.length<=p.length:=by
 rcases aX p.length R.length with a|a
 .have b:=h.1.mem (λe=>O4);rw [h.2,Yn (by grind [Py])]at b;omega
 omega
end
end Go.Sky
namespace Go.Sky
variable{c:Int}{p q R:List Int}
section
variable {P:Program} {N:Nat} {sc:Nat->Prop} {env env':Pu} {H H':Hp}
theorem Ap(n k:Nat):∀a w,Sat N sc env H a w->Sat N sc env ((n,Nb qI (List.replicate k I0))::H) a w:=λa w hs=>by
 have e:∀z,z∈List.replicate k I0->z=I0:=λz e=>(List.mem_replicate.1 e).2;refine hs.add n _ (λz h=>by rw [e z h];exact Cc 1 _ w) (λj l _ _ Hf b g i=>?_) (λb g=>?_)
 .obtain⟨z,f,d⟩:=g;rw [e z f]at d;cases d.2
 .obtain⟨z,f,d⟩:=g;rw [e z f]at d;cases d.2
end
theorem Yd6{r l:Int}{n A B:Nat}(h:c=r*l^n)(e:bl r.natAbs<=A)(b:bl l.natAbs<=B):bl c.natAbs<=A+(n*B+1):=by
 rw [h];have d:=Yr r (l^n);rcases aV n with a|a
 .rw [a];grind
 .have:=Fk l b n a;omega
theorem Yp7(e:q.length<=R.length)(b:q.length<=p.length)(d:R.length<=p.length) :
  Xz p+(p.length-R.length)*(Xz q+1)+((p.length-q.length-(p.length-R.length))*Xz q+1)<=Xz p+(p.length-q.length+1)*(Xz q+1):=by
 have a:(p.length-R.length)*(Xz q+1)+(p.length-q.length-(p.length-R.length))*(Xz q+1)=(p.length-q.length)*(Xz q+1):=by rw [<-cK];grind
 grind
theorem Yi6{r:Int}(h:c=r*cf q (q.length-1)^(p.length-q.length-(p.length-R.length)))(a:bl r.natAbs<=Xz p+(p.length-R.length)*(Xz q+1))(hs:Sz (Xz q) q)(j:q.length<=R.length)(g:q.length<=p.length)(i:R.length<=p.length)(t:Nat) :
  bl (c*cf q t).natAbs<=Xz p+(p.length-q.length+1)*(Xz q+1)+1:=by
 have b:=Yd6 h a (hs _);have d:=Yr c (cf q t);have e:=hs t;have f:(p.length-R.length)*(Xz q+1)+(p.length-q.length-(p.length-R.length))*(Xz q+1)=(p.length-q.length)*(Xz q+1):=by rw [<-cK];grind
 grind
theorem Zqj{s i n:Nat}(h:∀t,bl (c*cf q t).natAbs<=n):Sz n (shm q c s i):=by
 refine Bj λt _=>?_;split
 .exact bA _
 grind
end Go.Sky
namespace Go.Sky
variable{q p:List Int}{k M m:Nat}{x:Int}
theorem Ylh(zs:List (Int×SL))(k:Nat)(z:Int×SL):Zb (zs.set k z)=(Zb zs).set k z.1:=by simp [Zb,List.map_set]
theorem Yr3{D:List Int}(h:k+q.length<=D.length):Ei (tzl D) (tzl (shm q (cf D (k+q.length-1)/cf q (q.length-1)) k q.length))=tzl (Zfg q D k):=by
 refine(Zah _ _).ext (Qj _) λt=>?_;rw [Ih,Lb,Lb,Lb,Ztb];unfold Zfg;rw [Nv];by_cases a:t<D.length
 .rw [aM a];rfl
 .rw [aG a,aG O,Yn O];rfl
theorem div_c{A:Nat}(c:cf q (q.length-1)≠0)(b:x%cf q (q.length-1)=0)(a:bl x.natAbs<=A)(t:Nat):bl (x/cf q (q.length-1)*cf q t).natAbs<=A+(Xz q+1):=by have d:=Hc (fN b) a;have e:=Yr (x/cf q (q.length-1)) (cf q t);have f:=Pd q t;omega
def Zwp(p q:List Int)(j:Nat):Xr p q (j+1)=Zfg q (Xr p q j) (p.length-q.length-j):=rfl
theorem Ymo{j:Nat}(h:q.length<=p.length)(a:j<=p.length-q.length):Ei (tzl (Xr p q j)) (tzl (shm q (cf (Xr p q j) (p.length-q.length-j+q.length-1)/cf q (q.length-1)) (p.length-q.length-j) q.length))=tzl (Xr p q (j+1)):=by rw [Zwp];exact Yr3 (by rw [Fb];omega)
def Ygn{j:Nat}(a:j<p.length-q.length+1):(Zho p q j).set (p.length-q.length-j) (cf (Xr p q j) (p.length-q.length-j+q.length-1)/cf q (q.length-1))=Zho p q (j+1):=Zwq a
theorem div_sz{j:Nat}(a:j<=p.length-q.length+1)(b:∀k,p.length-q.length<k+j->k<=p.length-q.length->Mi p q k)(e:Xz p+(p.length-q.length+1)*(Xz q+1)<=M)(t:Nat):bl (cf (Xr p q j) t).natAbs<=M:=by have c:=Zbd p q j a b t;have d:j*(Xz q+1)<=(p.length-q.length+1)*(Xz q+1):=aL _ a;omega
theorem Yr2{j:Nat}(e:j<=p.length-q.length)(b:∀k,p.length-q.length<k+j->k<=p.length-q.length->Mi p q k)(d:Xz p+(p.length-q.length+1)*(Xz q+1)<=M)(t:Nat):bl (cf (Xr p q j) t).natAbs+(Xz q+1)<=M:=by have c:=Zbd p q j O b t;have a:(j+1)*(Xz q+1)<=(p.length-q.length+1)*(Xz q+1):=aL _ O;rw [cY]at a;omega
theorem Yr0(c:Xz p+(p.length-q.length+1)*(Xz q+1)<=M)(a:∀k,k<=p.length-q.length->Mi p q k){j:Nat}:Sz M (Zho p q j):=by
 refine Bj λt e=>?_;split
 .unfold Zwz dq;have b:=div_sz (p:=p) (q:=q) (j:=p.length-q.length-t) O (λk _ d=>a k d) c (t+q.length-1);exact Hc (fN (a t O)) b
 .simp [Ks]
theorem Yqn(c:p≠[])(a:q.length<=p.length)(d:∀k,k<=p.length-q.length->Mi p q k){n:Nat}(b:n=(tzl (Xr p q (p.length-q.length+1))).length):decide (n=0)=decide (pdv p q):=by
 subst b;refine bF.2 ⟨λh=> .inr ⟨a,d,aC h⟩,λh=>?_⟩;rcases h with h|⟨_,_,h⟩
 .exact absurd h c
 .rw [h];rfl
theorem pdv_no(e:p≠[])(d:k<=p.length-q.length)(h:¬Mi p q k):decide (pdv p q)=false:=aF λc=>by
 rcases c with a|⟨_,b,_⟩
 .exact e a
 .exact h (b k d)
theorem Yqm(c:p≠[])(h:p.length<q.length):decide (pdv p q)=false:=aF λb=>by
 rcases b with a|⟨d,_,_⟩
 .exact c a
 .omega
def Yql(a:p=[]):decide (pdv p q)=true:=aJ (.inl a)
def Ho(a b:Int):Nat->List Int
 | 0=>[1]
 | i+1=>Qt (Ho a b i) (tzl [a,b])
def Zqq(p:List Int)(a b d:Int):Nat->List Int
 | 0=>[]
 | i+1=>Ht (Zqq p a b d i) (Zr (Ho a b i) (cf p i*d^(p.length-1-i)))
def hs(f:Nat->PS):Nat->PS
 | 0=>0
 | n+1=>hs f n+f n
theorem Zm5{f g:Nat->PS} : ∀{n:Nat},(∀k,k<n->f k=g k)->hs f n=hs g n
 | 0,_=>rfl
 | n+1,h=>by show hs f n+f n=hs g n+g n;rw [Zm5 λk a=>h k O,h n O]
theorem Zwe(f:Nat->PS):∀n,hs f (n+1)=f 0+hs (λk=>f (k+1)) n
 | 0=>by show(0:PS)+f 0=f 0+0;rw [PS.zero_add',PS.add_zero']
 | n+1=>by show hs f (n+1)+f (n+1)=f 0+(hs (λk=>f (k+1)) n+f (n+1));rw [Zwe f n,PS.add_assoc']
theorem Yll(f:Nat->PS)(c:PS):∀n,hs (λk=>f k*c) n=hs f n*c
 | 0=>by show(0:PS)=0*c;rw [PS.zero_mul']
 | n+1=>by show hs (λk=>f k*c) n+f n*c=(hs f n+f n)*c;rw [Yll f c n,PS.distrib_r]
theorem Zra(p:List Int):ps (tzl p)=ps p:=PS.ext' λi=>Lb p i
theorem Ysx(a b:Int)(i:Nat):cf [a,b] i=if i=0 then a else if i=1 then b else 0:=by
 rcases i with _|_|i
 .rfl
 .rfl
 .rw [Yn O5,aG O,aG O]
theorem Zud{f:Nat->Int} : ∀{n:Nat},(∀k,k<n->f k=0)->Yj f n=0
 | 0,_=>rfl
 | n+1,h=>by rw [Ym,Zud λk a=>h k O,h n O];rfl
theorem Yb8(f:PS)(a b:Int)(t:Nat):(f*ps [a,b]).c t=f.c t*a+if t=0 then 0 else f.c (t-1)*b:=by
 rw [PS.mul_c];simp only [Nf,Ysx];rw [Ym,fI,aM rfl];rcases t with _|t
 .simp [Yj]
 .rw [Ym,show t+1-t=1 by omega,aG (by omega:¬1=0),aM rfl,Zud λk c=>by rw [aG O,aG O,eG],eK,aG (by omega:¬t+1=0)];omega
theorem Yjs:ps [1]=1:=PS.ext' λi=>by
 rw [Nf,PS.one_c];rcases i with _|i
 .rfl
 .rw [Yn O5,aG O]
theorem ps_nil:ps []=0:=PS.ext' λi=>by rw [Nf,PS.zero_c];exact Yn O5
theorem C_c(n:Int)(i:Nat):(PS.C n).c i=if i=0 then n else 0:=by have h:=PS.C_mul_c n 1 i;rw [show PS.C n*1=PS.C n from PS.mul_one' _,PS.one_c]at h;rw [h];split<;>simp
theorem Zfc(a b:Int)(i:Nat):ps (Ho a b (i+1))=ps (Ho a b i)*ps [a,b]:=by show ps (Qt _ _)=_;rw [Zkr,Zra]
theorem Zrb(p:List Int)(a b d:Int)(j:Nat):ps (Kd p a b d (j+1))=ps (Kd p a b d j)*ps [a,b]+PS.C (cf p (p.length-2-j)*d^(j+1)):=PS.ext' λt=>by
 rw [PS.add_c,Yb8,C_c,Nf,Zp1,Nv,Nf,Nf];by_cases h:t<(Kd p a b d j).length+1
 .rw [aM h];by_cases c:t=0
  .rw [aM c,aM c,aM c];omega
  .rw [aG c,aG c,aG c];omega
 .rw [aG h,Yn O,Yn O,aG O,aG O];simp
theorem Ybq(p:List Int)(a b d:Int):∀j,j<=p.length-1->ps (Kd p a b d j)=hs (λk=>PS.C (cf p (p.length-1-j+k)*d^(j-k))*ps (Ho a b k)) (j+1)
 | 0,_=>by
  rw [Ec];show _=(0:PS)+PS.C (cf p (p.length-1)*d^0)*ps [1];rw [Yjs,dE,gK,show(0:PS)+PS.C (cf p (p.length-1))*1=PS.C (cf p (p.length-1)) by rw [PS.mul_one',PS.zero_add']];refine PS.ext' λt=>?_;rw [Nf,C_c];rcases t with _|t
  .rfl
  .rw [Yn O5,aG O]
 | j+1,h=>by
  rw [Zrb,Ybq p a b d j O,<-Yll,Zwe _ (j+1)];have c:hs (λk=>PS.C (cf p (p.length-1-j+k)*d^(j-k))*ps (Ho a b k)*ps [a,b]) (j+1)=hs (λk=>PS.C (cf p (p.length-1-(j+1)+(k+1))*d^(j+1-(k+1)))*ps (Ho a b (k+1))) (j+1):=Zm5 λk e=>by rw [Zfc,show p.length-1-(j+1)+(k+1)=p.length-1-j+k by omega,show j+1-(k+1)=j-k by omega,PS.mul_assoc']
  rw [c];show _+_=PS.C (cf p (p.length-1-(j+1)+0)*d^(j+1))*ps [1]+_;rw [Yjs,show p.length-1-(j+1)+0=p.length-2-j by omega];rw [PS.mul_one',PS.add_comm']
theorem Ybp(p:List Int)(a b d:Int):∀n,ps (Zqq p a b d n)=hs (λk=>PS.C (cf p k*d^(p.length-1-k))*ps (Ho a b k)) n
 | 0=>ps_nil
 | n+1=>by show ps (Ht _ _)=hs _ n+_;rw [Yqg,Ybp p a b d n,Zio]
def Yoz(p:List Int)(a b d:Int):∀n,Tr (Zqq p a b d n)
 | 0=>Tr.nil
 | n+1=>Yaj _
theorem Ypv(p:List Int)(a b d:Int):Zqq p a b d p.length=Lm p a b d:=by
 unfold Lm;split
 .rename_i h;rw [h];rfl
 .rename_i h;refine(Yoz p a b d _).ps_inj (Qj _) ?_;rw [Zra,Ybp,Ybq p a b d _ (aI _),show p.length-1+1=p.length by omega];exact Zm5 λk c=>by rw [fI,cE]
theorem Zij(a b:Int):∀i,(Ho a b i).length<=i+1
 | 0=>aI _
 | i+1=>by have c:=Zij a b i;have d:(tzl [a,b]).length<=2:=Mc _;have e:(Ho a b (i+1)).length<=(Ho a b i).length+(tzl [a,b]).length-1:=aB (Mc _) (by rw [Yt];exact aI _);omega
theorem Zl1{a b:Int}{m:Nat}(d:bl a.natAbs<=m)(e:bl b.natAbs<=m):∀i,Sz (i*(m+1)+1) (Ho a b i)
 | 0=>λt=>by
  rcases t with _|t
  .show bl 1<=_;rw [Ynt];omega
  .show bl (cf [1] (t+1)).natAbs<=_;rw [Yn O5];simp [Ks]
 | i+1=>λt=>by
  have c:=Zl1 d e i;rw [<-Nf,Zfc,Yb8,Nf,Nf,cY];have f:=c t;have g:=c (t-1);have h:=Yr (cf (Ho a b i) t) a;have j:=Yr (cf (Ho a b i) (t-1)) b;have l:=He (cf (Ho a b i) t*a) (if t=0 then 0 else cf (Ho a b i) (t-1)*b);have n:bl (if t=0 then 0 else cf (Ho a b i) (t-1)*b).natAbs<=i*(m+1)+1+m:=by
   split
   .simp [Ks]
   .omega
  omega
theorem Ztl (k:Nat){d:Int}{A:Nat}(c:bl x.natAbs<=A)(e:bl d.natAbs<=m):bl (x*d^k).natAbs<=A+k*m:=by
 have h:=Zhz 0 k (a:=x) (n:=1) (d:=d) (A:=A) (m:=max m 1) c (by show bl 1<=_;rw [Ynt];omega) O;rcases aV k with b|b
 .subst b;simp;exact c
 .have f:=Yr x (d^k);have g:=Fk d e k b;omega
theorem Zo8 (p:List Int){a b d:Int}{i:Nat}(c:bl a.natAbs<=m)(e:bl b.natAbs<=m)(f:bl d.natAbs<=m)(hi:i<p.length)(t:Nat) :
  bl (cf (Zr (Ho a b i) (cf p i*d^(p.length-1-i))) t).natAbs<=Xz p+p.length*(m+1)+1:=by
 rw [Yi];have g:=Yr (cf (Ho a b i) t) (cf p i*d^(p.length-1-i));have h:=Zl1 c e i t;have j:=Ztl (p.length-1-i) (Pd p i) f;have l:i*(m+1)+(p.length-1-i)*(m+1)+(m+1)=p.length*(m+1):=by rw [<-cK,<-cY];congr 1;omega
 have o:i*(m+1)+(p.length-1-i)*(m+1)<=p.length*(m+1):=O;have n:(p.length-1-i)*m<=(p.length-1-i)*(m+1):=aY _ O;omega
theorem Ya5 (p:List Int){a b d:Int}{m:Nat}(c:bl a.natAbs<=m)(e:bl b.natAbs<=m)(f:bl d.natAbs<=m):∀i,i<=p.length->Sz (Xz p+p.length*(m+1)+1+i) (Zqq p a b d i)
 | 0,_=>Sz.nil _
 | i+1,h=>λt=>by have g:=Ya5 p c e f i O t;have j:=Zo8 p c e f (i:=i) O t;show bl (cf (Ht _ _) t).natAbs<=_;rw [Dh];have l:=He (cf (Zqq p a b d i) t) (cf (Zr (Ho a b i) (cf p i*d^(p.length-1-i))) t);omega
theorem Zuu{p:List Int}{a b d:Int} : ∀i,(Zqq p a b d i).length<=i+1
 | 0=>bA _
 | i+1=>by have c:=Ykb (Zqq p a b d i) (Zr (Ho a b i) (cf p i*d^(p.length-1-i)));have e:=Zuu (p:=p) (a:=a) (b:=b) (d:=d) i;have f:=Zij a b i;have g:(Zr (Ho a b i) (cf p i*d^(p.length-1-i))).length<=(Ho a b i).length:=aB (Mc _) O5;show(Ht _ _).length<=_;omega
end Go.Sky

