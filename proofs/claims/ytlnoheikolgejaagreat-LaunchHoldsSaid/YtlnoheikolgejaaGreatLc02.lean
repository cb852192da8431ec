/- Rules, arithmetic and contracts: part 3. No conditions but those that each theorem names. -/
import Derived.Test.YtlnoheikolgejaaGreatLc01
import Derived.Test.YtlnoheikolgejaaGreatProg
import Derived.Test.YtlnoheikolgejaaGreatRows
import Derived.WalkKit
import Derived.ProofKit
import Derived.OpenShut
import Derived.ShutString
import Derived.ChangeOld
import Derived.Deep.Slices
import Derived.Lib.SmallJoins
set_option linter.all false
namespace Go.Sky
variable{f:Nat->Int}{q r c R:List Int}{i B t top:Nat}{a b:Int}
def acc(p q:List Int)(i t:Nat):Int:=Yo (λk=>if k<=t then cf p k*cf q (t-k)else 0) i
def Zbu(p q:List Int)(i j t:Nat):Int:=acc p q i t+if i<=t/\t<i+j then cf p i*cf q (t-i)else 0
theorem Ygo(p q:List Int)(i:Nat):Zbu p q i 0=acc p q i:=mT λt=>by unfold Zbu;omega
theorem Yop(p q:List Int)(i:Nat):Zbu p q i q.length=acc p q (i+1):=mT λt=>by
 unfold Zbu acc;rw [Ys];by_cases h:i<=t
 .rw [aP h];by_cases d:t<i+q.length
  .omega
  .rw [aJ (λh=>d h.2),Yt (p:=q) O,dX]
 omega
theorem Zmy{L k:Nat}{g:Nat->Int}(d:k<L)(h:∀t,t<L->t≠k->f t=g t){x:Int}(j:x=g k):(mk L f).set k x=mk L g:=Ib (by simp [Yy]) λt e=>by simp_all [cT,Yy,Zny,Md,aP,aJ]
theorem Yoo{p:List Int}{L j:Nat}(h:i+j<L):(mk L (Zbu p q i j)).set (i+j) (Zbu p q i j (i+j)+cf p i*cf q j)=mk L (Zbu p q i (j+1)):=by
 refine Zmy h (λt e d=>?_) ?_
 .unfold Zbu;omega
 .unfold Zbu;simp
theorem Zxl(p q:List Int)(t:Nat):acc p q p.length t=(ps p*ps q).c t:=by
 unfold acc;have d:Yo _ (max (t+1) p.length)=Yo (λk=>if k<=t then cf p k*cf q (t-k)else 0) p.length:=
  Zig O λk d _=>by simp_all [Yt,cJ]
 have e:Yo (λk=>if k<=t then cf p k*cf q (t-k)else 0) (max (t+1) p.length)=Yo _ (t+1):=
  Zig O λk d _=>O
 rw [<-d,e];exact Xl λk g=>by rw [aP O];rfl
theorem Zq2(L:Nat):List.replicate L 0=mk L λ_=>0:=by rw [Ai L λ_=>0];rfl
theorem Yka(p q:List Int):tzl (mk (p.length+q.length-1) (acc p q p.length))=Pf p q:=by unfold Pf;grind [Cx,Zxl]
theorem Yt1{p:List Int}{A j:Nat}(d:Sz A p)(e:Sz B q)(hi:i<31):bl (Zbu p q i j t).natAbs<=A+B+5:=by
 have h:Zbu p q i j t=Yo (λk=>if k<i then(if k<=t then cf p k*cf q (t-k)else 0)else if i<=t/\t<i+j then cf p i*cf q (t-i)else 0) (i+1):=by rw [Ys];unfold Zbu acc;simp_all [Xl,aP]
 rw [h];have l:∀a b,bl (cf p a*cf q b).natAbs<=A+B:=λa b=>by have:=Yu (cf p a) (cf q b);have:=d a;have:=e b;omega
 refine Zla (λk g=>?_) O;grind [Ky]
theorem bl_acc{p:List Int}{A:Nat}(d:Sz A p)(e:Sz B q)(hi:i<=31):bl (acc p q i t).natAbs<=A+B+5:=by
 refine Zla (λk g=>?_) hi;split
 .have:=Yu (cf p k) (cf q (t-k));have:=d k;have:=e (t-k);omega
 grind [Ky]
def Zam(p q:List Int):Prop:=p≠[]/\q≠[]/\(24<p.length+q.length-2\/65536<Xx p+Xx q+5)
instance (p q:List Int):Decidable (Zam p q):=by unfold Zam;infer_instance
theorem Zen{L:Nat}(h:i<L):(mk L f).getD i 0=f i:=by have:=Md L f i;rw [aP h]at this;exact this
def Yst(p q:List Int):Bool:=decide (q≠[]) && decide (p.length<q.length)
def Bx(p q:List Int):Int:=if q.length=0 then 3 else if p.length<q.length then 0 else if 65536<Xx p+(p.length-q.length+1)*(Xx q+1)then 7 else 0
def Zgr(q r:List Int)(top:Nat):List Int:=
 mk r.length λt=>cf r t*cf q (q.length-1)-if top-(q.length-1)<=t/\t<top-(q.length-1)+q.length then cf r top*cf q (t-(top-(q.length-1)))else 0
def Pp(p q:List Int):Nat->List Int
 | 0=>p
 | j+1=>Zgr q (Pp p q j) (p.length-1-j)
theorem Zhd(q r:List Int)(top:Nat):(Zgr q r top).length=r.length:=Yy _ _
theorem Ob(p q:List Int):∀j,(Pp p q j).length=p.length
 | 0=>rfl
 | j+1=>by unfold Pp;rw [Zhd,Ob p q j]
def Qq(p q:List Int):List Int:=if p.length<q.length then p else tzl (Pp p q (p.length-q.length+1))
theorem Zhz(d:t<r.length):cf (Zgr q r top) t=cf r t*cf q (q.length-1)-if top-(q.length-1)<=t/\t<top-(q.length-1)+q.length then cf r top*cf q (t-(top-(q.length-1)))else 0:=by unfold Zgr;rw [Md,aP d]
theorem Ydy{c d:Int}{A:Nat}(e:bl a.natAbs<=A)(g:bl b.natAbs<=B)(h:bl c.natAbs<=A)(j:bl d.natAbs<=B):bl (a*b-c*d).natAbs<=A+(B+1):=by grind [Yu,Ad]
theorem Yhg{A:Nat}(e:Sz A r)(d:Sz B q):Sz (A+(B+1)) (Zgr q r top):=by
 refine Bn λt g=>?_;split
 .exact Ydy (e t) (d _) (e _) (d _)
 .rw [eV];have:=Yu (cf r t) (cf q (q.length-1));have:=e t;have:=d (q.length-1);omega
theorem Af(p q:List Int):∀j,Sz (Xx p+j*(Xx q+1)) (Pp p q j)
 | 0=>by rw [fW];exact Pg p
 | j+1=>by rw [dR,<-gM];exact Yhg (Af p q j) (Pg q)
def dq(q r:List Int)(k:Nat):Int:=cf r (k+q.length-1)/cf q (q.length-1)
def Zhn(q r:List Int)(k:Nat):List Int:=mk r.length λt=>cf r t-if k<=t/\t<k+q.length then dq q r k*cf q (t-k)else 0
def Xr(p q:List Int):Nat->List Int
 | 0=>p
 | j+1=>Zhn q (Xr p q j) (p.length-q.length-j)
theorem Fi(p q:List Int):∀j,(Xr p q j).length=p.length
 | 0=>rfl
 | j+1=>by unfold Xr Zhn;rw [Yy,Fi p q j]
def Zwx(p q:List Int)(k:Nat):Int:=dq q (Xr p q (p.length-q.length-k)) k
def Mx(p q:List Int)(k:Nat):Prop:=cf (Xr p q (p.length-q.length-k)) (k+q.length-1)%cf q (q.length-1)=0
def Yj4(p q:List Int):List Int:=tzl (mk (p.length-q.length+1) (Zwx p q))
theorem Yhk{A:Nat}(d:Sz A r)(g:Sz B q){k:Nat}(e:cf r (k+q.length-1)%cf q (q.length-1)=0):Sz (A+(B+1)) (Zhn q r k):=by
 refine Bn λt m=>?_;split
 .have h:bl (dq q r k).natAbs<=A:=Hb (eS e) (d _);have j:=Yu (dq q r k) (cf q (t-k));have l:=Ad (cf r t) (dq q r k*cf q (t-k));have:=d t;have:=g (t-k);omega
 .rw [eV];have:=d t;omega
theorem Zba(p q:List Int):∀j,j<=p.length-q.length+1->(∀k,p.length-q.length<k+j->k<=p.length-q.length->Mx p q k)->Sz (Xx p+j*(Xx q+1)) (Xr p q j)
 | 0,_,_=>by rw [fW];exact Pg p
 | j+1,g,h=>by rw [dR,<-gM];refine Yhk (Zba p q j O λk e d=>h k O d) (Pg q) ?_;have:=h (p.length-q.length-j) O O;unfold Mx at this;rw [show p.length-q.length-(p.length-q.length-j)=j by omega]at this;exact this
theorem Ygp(p q:List Int)(i j:Nat):Zbu p q i (j+1) (i+j)=Zbu p q i j (i+j)+cf p i*cf q j:=by unfold Zbu;simp
theorem Zbh{p:List Int}(h:p.length=0\/q.length=0):Pf p q=[]:=by
 refine(Ik _).2 λi=>?_;rw [Md];split
 .refine Gl λk _=>?_;rcases h with h|h
  all_goals simp_all [Nu,Yt,cJ,dX]
 rfl
def Zmw(R:List Int)(l:Int)(i:Nat):List Int:=mk R.length λt=>if t<i then cf R t*l else cf R t
def Zqn(q R:List Int)(l c:Int)(s i:Nat):List Int:=mk R.length λt=>cf R t*l-if s<=t/\t<s+i then c*cf q (t-s)else 0
def Zvw(R:List Int)(l:Int)(i:Nat):(Zmw R l i).length=R.length:=Yy _ _
def Zvv(q R:List Int)(l c:Int)(s i:Nat):(Zqn q R l c s i).length=R.length:=Yy _ _
theorem Yfn(R:List Int)(l:Int):Zmw R l 0=R:=by unfold Zmw;simp [Eq.trans,Cx,Zej,aJ]
theorem Yk5{l:Int}(h:i<R.length):(Zmw R l i).getD i 0=cf R i:=by unfold Zmw;rw [Zen h,aJ O5]
theorem Yk4{l:Int}(h:i<R.length):(Zmw R l i).set i (cf R i*l)=Zmw R l (i+1):=by refine Zmy h (λt e d=>?_) O;omega
theorem Yep(q R:List Int)(l c:Int)(s:Nat):Zmw R l R.length=Zqn q R l c s 0:=by unfold Zmw Zqn;simp_all [Cx,aP,aJ,eV]
theorem Yho{l c:Int}{s:Nat}(h:s+i<R.length):(Zqn q R l c s i).getD (s+i) 0=cf R (s+i)*l:=by unfold Zqn;rw [Zen h,aJ O5,eV]
theorem Yhn{l c:Int}{s:Nat}(h:s+i<R.length):(Zqn q R l c s i).set (s+i) (cf R (s+i)*l-c*cf q i)=Zqn q R l c s (i+1):=by refine Zmy h (λt e d=>?_) O5;omega
theorem rest_b{p:List Int}{j:Nat}(g:Xx p+(p.length-q.length+1)*(Xx q+1)<=65536)(h:j<p.length-q.length+1) :
  (∀t,bl (cf (Pp p q j) t).natAbs<=65536)/\(∀t i,bl (cf (Pp p q j) t*cf q i).natAbs<=65536)/\(∀t i t2 i2,bl (cf (Pp p q j) t*cf q i-cf (Pp p q j) t2*cf q i2).natAbs<=65536):=by
 have d:=Af p q j;have e:j*(Xx q+1)+(Xx q+1)<=(p.length-q.length+1)*(Xx q+1):=by rw [<-dR];exact aM _ O
 refine⟨λt=>by have:=d t;omega,λt i=>?_,λt i t2 i2=>?_⟩
 .have:=d t;have:=Pg q i;grind [Yu]
 .have:=Ydy (d t) (Pg q i) (d t2) (Pg q i2);omega
def Zt3{p:List Int}(d:Xx p+(p.length-q.length+1)*(Xx q+1)<=65536):Sz 65536 (Pp p q (p.length-q.length+1)):=(Af p q _).mono d
theorem Zck{p:List Int}(h:Bx p q=0):q.length≠0/\(q.length<=p.length->Xx p+(p.length-q.length+1)*(Xx q+1)<=65536):=by unfold Bx at h;omega
theorem Zhs{p:List Int}(h:q.length≠0):Yst p q=decide (p.length<q.length):=by unfold Yst;grind
def Zss(q R:List Int)(c:Int)(k i:Nat):List Int:=mk R.length λt=>cf R t-if k<=t/\t<k+i then c*cf q (t-k)else 0
def Zvx(q R:List Int)(c:Int)(k i:Nat):(Zss q R c k i).length=R.length:=Yy _ _
theorem Yf9(q R:List Int)(c:Int)(k:Nat):R=Zss q R c k 0:=by unfold Zss;simp [Eq.trans,Zej,Cx,aJ,eV]
theorem Ymw{c:Int}{k:Nat}(h:k+i<R.length):(Zss q R c k i).getD (k+i) 0=cf R (k+i):=by unfold Zss;rw [Zen h,aJ O5,eV]
theorem Ymv{c:Int}{k:Nat}(h:k+i<R.length):(Zss q R c k i).set (k+i) (cf R (k+i)-c*cf q i)=Zss q R c k (i+1):=by refine Zmy h (λt e d=>?_) O5;omega
def Zhr(p q:List Int)(j:Nat):List Int:=mk (p.length-q.length+1) λt=>if p.length-q.length<t+j then Zwx p q t else 0
theorem Zao(p q:List Int)(j:Nat):(Zhr p q j).length=p.length-q.length+1:=Yy _ _
theorem Zp1(p q:List Int):List.replicate (p.length-q.length+1) 0=Zhr p q 0:=by rw [Zq2];exact Cx λi hi=>O
theorem Zwo{p:List Int}{j:Nat}(e:j<p.length-q.length+1):(Zhr p q j).set (p.length-q.length-j) (dq q (Xr p q j) (p.length-q.length-j))=Zhr p q (j+1):=by
 refine Zmy O (λt g d=>?_) ?_
 .omega
 .unfold Zwx;grind
theorem Zdk(p q:List Int):tzl (Zhr p q (p.length-q.length+1))=Yj4 p q:=by unfold Zhr Yj4;grind
def pdv(p q:List Int):Prop:=p=[]\/(q.length<=p.length/\(∀k,k<=p.length-q.length->Mx p q k)/\tzl (Xr p q (p.length-q.length+1))=[])
instance (p q:List Int) (k:Nat):Decidable (Mx p q k):=by unfold Mx;infer_instance
instance (p q:List Int):Decidable (pdv p q):=by unfold pdv;infer_instance
theorem div_b{p:List Int}{j:Nat}(n:Xx p+(p.length-q.length+1)*(Xx q+1)<=65536)(o:j<p.length-q.length+1)(h:∀k,p.length-q.length<k+j->k<=p.length-q.length->Mx p q k) :
  (∀t,bl (cf (Xr p q j) t).natAbs<=65536)/\(Mx p q (p.length-q.length-j)->bl (dq q (Xr p q j) (p.length-q.length-j)).natAbs<=65536/\(∀i,bl (dq q (Xr p q j) (p.length-q.length-j)*cf q i).natAbs<=65536)/\
   ∀t i,bl (cf (Xr p q j) t-dq q (Xr p q j) (p.length-q.length-j)*cf q i).natAbs<=65536):=by
 have d:=Zba p q j O h;have l:j*(Xx q+1)+(Xx q+1)<=(p.length-q.length+1)*(Xx q+1):=by rw [<-dR];exact aM _ O
 refine⟨λt=>by have:=d t;omega,λe=>?_⟩;unfold Mx at e;rw [show p.length-q.length-(p.length-q.length-j)=j by omega]at e;have m:bl (dq q _ _).natAbs<=Xx p+j*(Xx q+1):=Hb (eS e) (d _);have g:∀i,bl (dq q (Xr p q j) (p.length-q.length-j)*cf q i).natAbs<=Xx p+j*(Xx q+1)+Xx q:=λi=>by have:=Yu (dq q (Xr p q j) (p.length-q.length-j)) (cf q i);have:=Pg q i;omega
 refine⟨O,λi=>O4,λt i=>?_⟩;have:=Ad (cf (Xr p q j) t) (dq q (Xr p q j) (p.length-q.length-j)*cf q i);have:=g i;have:=d t;omega
theorem Yaf{p:List Int}(g:Xx p+(p.length-q.length+1)*(Xx q+1)<=65536)(e:∀k,k<=p.length-q.length->Mx p q k){j:Nat}:Sz 65536 (Zhr p q j):=by
 refine Bn λt l=>?_;split
 .have d:=(div_b g (j:=p.length-q.length-t) O (λk _ h=>e k h)).2;rw [show p.length-q.length-(p.length-q.length-t)=t by omega]at d;exact(d (e t O)).1
 decide
def Yhl{p:List Int}(d:Xx p+(p.length-q.length+1)*(Xx q+1)<=65536)(g:∀k,k<=p.length-q.length->Mx p q k):Sz 65536 (Xr p q (p.length-q.length+1)):=
 (Zba p q _ (aF _) λk _ e=>g k e).mono d
def Kf(p:List Int)(a b d:Int):Nat->List Int
 | 0=>[cf p (p.length-1)]
 | j+1=>mk ((Kf p a b d j).length+1) λt=>cf (Kf p a b d j) t*a+(if t=0 then cf p (p.length-2-j)*d^(j+1)else cf (Kf p a b d j) (t-1)*b)
def Cc(p:List Int)(a b d:Int):Kf p a b d 0=[cf p (p.length-1)]:=rfl
def Zp8(p:List Int)(a b d:Int)(j:Nat):Kf p a b d (j+1)=mk ((Kf p a b d j).length+1) (λt=>cf (Kf p a b d j) t*a+(if t=0 then cf p (p.length-2-j)*d^(j+1)else cf (Kf p a b d j) (t-1)*b)):=rfl
theorem Zdf(p:List Int)(a b d:Int):∀j,(Kf p a b d j).length=j+1
 | 0=>rfl
 | j+1=>by unfold Kf;rw [Yy,Zdf p a b d j]
def Lh(p:List Int)(a b d:Int):List Int:=if p.length=0 then []else tzl (Kf p a b d (p.length-1))
def Zns(p:List Int)(a b d:Int):Prop:=p≠[]/\65536<Xx p+(p.length-1)*(Xx [a,b,d]+1)+8
instance (p:List Int) (a b d:Int):Decidable (Zns p a b d):=by unfold Zns;infer_instance
def Lv(p q:List Int):List Int:=if p=[]then []else Yj4 p q
def Zmi{p:List Int}(h:p≠[]):Lv p q=Yj4 p q:=aJ h
theorem Zht{p:List Int}{j:Nat}(d:j<=p.length-q.length):Mx p q (p.length-q.length-j)↔cf (Xr p q j) (p.length-q.length-j+q.length-1)%cf q (q.length-1)=0:=by unfold Mx;grind
def Zxb{x y:Int}(e:y≠0)(d:bl y.natAbs<=65536):Zbr (x%y)=x%y:=Ht (aB (Ztb x y e) d)
def cnx(c:List Int)(a b:Int)(i:Nat):List Int:=mk (c.length+1) λt=>if t<i then cf c t*a+(if t=0 then 0 else cf c (t-1)*b)else if t=i/\0<i then cf c (t-1)*b else 0
theorem Fv(c:List Int)(a b:Int)(i:Nat):(cnx c a b i).length=c.length+1:=Yy _ _
theorem Ynq(c:List Int)(a b:Int):List.replicate (c.length+1) 0=cnx c a b 0:=by rw [Zq2];unfold cnx;simp
theorem Ydf(h:i<c.length):(cnx c a b i).getD i 0=if i=0 then 0 else cf c (i-1)*b:=by unfold cnx;rw [Zen O];omega
theorem Ys6(h:i<c.length):((cnx c a b i).set i ((cnx c a b i).getD i 0+cf c i*a)).set (i+1) (cf c i*b)=cnx c a b (i+1):=Ib (by simp [Fv]) λt d=>by rw [Zny _ _ _ _ (by grind [List.length_set,Fv]),Zny _ _ _ _ (by grind [Fv]),Ydf h];unfold cnx;rw [Md,Md];grind
theorem Zw8(h:0<c.length):(cnx c a b c.length).getD 0 0=cf c 0*a:=by unfold cnx;rw [Zen O5,aP h,aP rfl,gC]
theorem Ys7{w:Int}(h:0<c.length):(cnx c a b c.length).set 0 ((cnx c a b c.length).getD 0 0+w)=mk (c.length+1) λt=>cf c t*a+(if t=0 then w else cf c (t-1)*b):=Ib (by simp [Fv,Yy]) λt e=>by
 rw [cT,Fv]at e;rw [Zny _ _ _ _ (by grind [Fv]),Zw8 h,Md,if_pos e];unfold cnx;rw [Md,aP e];by_cases d:t=0
 .grind
 .rw [aJ d,aJ d,aJ d];by_cases g:t<c.length
  .omega
  .rw [aP (show t=c.length/\0<c.length by omega),Yt O];simp
theorem Zkc{p:List Int}{x y z:Int}{A m:Nat}(d:Sz A p)(e:bl x.natAbs<=m)(n:bl y.natAbs<=m)(g:bl z.natAbs<=m):∀j,Sz (A+j*(m+1)) (Kf p x y z j)
 | 0=>Sz.of_mem λw l=>by rw [cF.1 l];have:=d (p.length-1);omega
 | j+1=>by
  have h:=Zkc d e n g j;refine Bn λt v=>?_;have o:=Yu (cf (Kf p x y z j) t) x;have s:=h t;split
  .have k:=Zh2 0 (j+1) (d (p.length-2-j)) e g;grind [He]
  .have k:=Yu (cf (Kf p x y z j) (t-1)) y;have u:=h (t-1);grind [He]
section
variable {p:List Int} {x y z:Int} (hF:Xx p+(p.length-1)*(Xx [x,y,z]+1)+8<=65536) {j:Nat} (hj:j<p.length-1)
include hF hj
theorem cp_all:bl (z^j).natAbs<=65536/\bl (z^(j+1)).natAbs<=65536/\(∀t,bl (cf (Kf p x y z j) t).natAbs<=65536)/\(∀t,bl (cf (Kf p x y z j) t*x).natAbs<=65536)/\(∀t,bl (cf (Kf p x y z j) t*y).natAbs<=65536)/\
  (∀t,bl ((if t=0 then 0 else cf (Kf p x y z j) (t-1)*y)).natAbs<=65536)/\(∀t,bl ((if t=0 then 0 else cf (Kf p x y z j) (t-1)*y)+cf (Kf p x y z j) t*x).natAbs<=65536)/\
  bl (cf p (p.length-2-j)*z^(j+1)).natAbs<=65536/\bl (cf (Kf p x y z j) 0*x+cf p (p.length-2-j)*z^(j+1)).natAbs<=65536:=by
 have n:bl x.natAbs<=Xx [x,y,z]:=by simp only [Xx];omega
 have v:bl y.natAbs<=Xx [x,y,z]:=by simp only [Xx];omega
 have d:bl z.natAbs<=Xx [x,y,z]:=by simp only [Xx];omega
 have g:=Zkc (Pg p) n v d j;generalize Xx [x,y,z]=m at *;have e:j*(m+1)+(m+1)<=(p.length-1)*(m+1):=by rw [<-dR];exact aM _ O
 have u:j*m<=j*(m+1):=aZ _ O5;have s:=Zh2 0 (j+1) (Pg p (p.length-2-j)) n d;rw [dD,fR,cD,dR]at s;have l:=Fp z d (j+1) O5;rw [dR]at l;have k:bl (z^j).natAbs<=65536:=by
  rcases bD j with h|h
  .rw [h,dD];decide
  .have:=Fp z d j h;omega
 have w:∀t,bl (cf (Kf p x y z j) t*x).natAbs<=Xx p+j*(m+1)+m:=λt=>by have:=Yu (cf (Kf p x y z j) t) x;have:=g t;omega
 have D:∀t,bl (cf (Kf p x y z j) t*y).natAbs<=Xx p+j*(m+1)+m:=λt=>by have:=Yu (cf (Kf p x y z j) t) y;have:=g t;omega
 have o:∀t,bl ((if t=0 then 0 else cf (Kf p x y z j) (t-1)*y)).natAbs<=Xx p+j*(m+1)+m:=λt=>by grind [Ky]
 refine⟨k,O,λt=>by have:=g t;omega,λt=>O4,λt=>O4,λt=>by have:=o t;omega,λt=>?_,O,?_⟩
 all_goals grind [He]
end
theorem Ys4{p:List Int}{x y z:Int}(hF:Xx p+(p.length-1)*(Xx [x,y,z]+1)+8<=65536):Sz 65536 (Kf p x y z (p.length-1)):=by
 have d:bl x.natAbs<=Xx [x,y,z]:=by simp only [Xx];omega
 have e:bl y.natAbs<=Xx [x,y,z]:=by simp only [Xx];omega
 have g:bl z.natAbs<=Xx [x,y,z]:=by simp only [Xx];omega
 exact(Zkc (Pg p) d e g _).mono O
theorem Zj4(p q:List Int):(Qq p q).length<=p.length:=by
 unfold Qq;split
 .omega
 grind [Mg,Ob]
theorem Za6{p:List Int}(d:Vp p)(e:Bx p q=0):Vp (Qq p q):=by
 have g:=Zj4 p q;refine⟨?_,?_,by have:=d.len;omega⟩
 .unfold Qq;split
  .exact d.sz
  .exact(Zt3 ((Zck e).2 O)).tzl
 .unfold Qq;split
  .exact d.tr
  grind [Xy]
def Zpw(p q:List Int):Prop:=p.length≠0/\q.length≠0/\65536<(max p.length q.length+2)*(max p.length q.length+2)*(max (Xx p) (Xx q)+8)
instance (p q:List Int):Decidable (Zpw p q):=by unfold Zpw;infer_instance
def gA(p q:List Int):List Int:=if p.length<q.length then Yf q else Yf p
def gB(p q:List Int):List Int:=if p.length<q.length then Yf p else Yf q
def eok:Nat->List Int->List Int->Prop
 | 0,_,b=>b=[]
 | f+1,a,b=>b=[]\/(Bx a b=0/\eok f b (Yf (Qq a b)))
def eu:Nat->List Int->List Int->List Int
 | 0,a,_=>a
 | f+1,a,b=>if b=[]then a else eu f b (Yf (Qq a b))
theorem Zwk{f:Nat}{a b:List Int}(h:eok f a b)(d:b≠[]):∃g,f=g+1/\Bx a b=0/\eok g b (Yf (Qq a b))/\eu f a b=eu g b (Yf (Qq a b)):=by
 cases f with
 | zero=>exact absurd h d
 | succ g=>
  rcases h with h|h
  .grind
  .exact⟨g,rfl,h.1,h.2,by show(if b=[]then a else _)=_;grind⟩
theorem Bj(f:Nat)(a:List Int):eu f a []=a:=by cases f<;>rfl
def Lp(g:List Int):List Int:=if g.length≠0/\cf g (g.length-1)<0 then Zw g (-1)else g
def Nv(f:Nat)(p q:List Int):List Int:=Lp (eu f (gA p q) (gB p q))
theorem vp_gA{p:List Int}(d:Vp p)(e:Vp q):Vp (gA p q):=by unfold gA;all_goals grind [Lu]
theorem vp_gB{p:List Int}(d:Vp p)(e:Vp q):Vp (gB p q):=by unfold gB;all_goals grind [Lu]
theorem Zcm{p:List Int}(h:Sz 65536 p)(i:Nat):bl (cf p i * -1).natAbs<=65536:=by rw [lF,fS,dV];exact h i
theorem Py(z:Int):z.sign<0↔z<0:=by simp
end Go.Sky
namespace Go.Sky
variable{b c:Nat}{xs ys:List Nat}{p:Nat->Prop}
theorem Zqm{l:List Int}(h:∀x∈l,Lo x):Sz 65536 l:=Sz.of_mem λx a=>by obtain⟨d,e⟩:=h x a;have:bl x.natAbs<=64:=(Qo 64 _).2 O;omega
open Go.RowKit Below
set_option maxRecDepth 20000
def Pu:2<=1000000000:=O
def Hi:0<1000000000:=O
abbrev Nc (v:Value) (x:Nat):Pc:=Yl 1 Ig v (dg 1000000000 x)
theorem Iz(x:Nat):(dg 1000000000 x).length<=bl x:=by rw [Xq Pu];grind [Nat.lt_of_lt_of_le,Ac,Nat.pow_le_pow_left]
theorem Yad(a:2<=b){o:List Nat}(e:∀d∈o,d<b){x:Nat}(f:val b o=x)(h:o.length=0\/b^(o.length-1)<=x):o=dg b x:=by
 rw [<-f,Kr a o e];have g:o.length<=(tz o).length:=by
  rw [<-Kr a o e,f];rcases h with h|h
  .omega
  .have:=(Mp a _ x).2 h;omega
 grind [Zd3,List.take_of_length_le]
theorem Yff{o:List Nat}{k:Nat}(a:o.length=k)(h:val b o+c*b^k=val b (xs.take k)+val b (ys.take k)) :
  val b (o ++ [(c+xs.getD k 0+ys.getD k 0)%b])+(c+xs.getD k 0+ys.getD k 0)/b*b^(k+1)=val b (xs.take (k+1))+val b (ys.take (k+1)):=by
 rw [Me,Qt,Qt];have e:=cM (c+xs.getD k 0+ys.getD k 0) b;simp only [val,cH];grind
def d9s(a b c:Nat):Nat:=if a<b+c then a+1000000000-(b+c)else a-(b+c)
theorem Yc7{a:Nat}(d:a<1000000000)(e:b<1000000000)(f:c<=1):d9s a b c<1000000000/\d9s a b c+(b+c)=a+brw a b c*1000000000:=by unfold d9s brw;split<;>omega
theorem Zys{o:List Nat}{k:Nat}(a:c<=1)(d:xs.getD k 0<1000000000)(f:ys.getD k 0<1000000000)(g:o.length=k)(h:val 1000000000 o+val 1000000000 (ys.take k)=val 1000000000 (xs.take k)+c*1000000000^k) :
  val 1000000000 (o ++ [d9s (xs.getD k 0) (ys.getD k 0) c])+val 1000000000 (ys.take (k+1))=val 1000000000 (xs.take (k+1))+brw (xs.getD k 0) (ys.getD k 0) c*1000000000^(k+1):=by
 rw [Me,Qt,Qt];have e:=(Yc7 d f a).2;simp only [val,cH];grind
theorem Zoc{o:List Nat}(h:∀d∈o,p d){x:Nat}(e:p x):∀d∈o ++ [x],p d:=λd a=>by grind
theorem Zbg{x k:Nat}(a:2<=b)(h:k<(dg b x).length):b^k<=x:=(Mp a k x).1 h
theorem Fx{x k:Nat}(a:2<=b)(h:(dg b x).length<=k):val b ((dg b x).take k)=x:=by grind [Mn,Ld]
theorem Zt0{a o:Nat}(d:a<1000000000)(e:b<1000000000)(g:o<1000000000)(f:c<1000000000):(o+c+a*b)/1000000000<1000000000/\o+c+a*b<=9223372036854775807:=by have h:a*b<=999999999*999999999:=aQ O O;omega
theorem Zxs{o:List Nat}{i k V:Nat}(h:val 1000000000 o+c*1000000000^(i+k)=V+xs.getD i 0*1000000000^i*val 1000000000 (ys.take k))(a:i+k<o.length) :
  val 1000000000 (o.set (i+k) ((o.getD (i+k) 0+c+xs.getD i 0*ys.getD k 0)%1000000000))+(o.getD (i+k) 0+c+xs.getD i 0*ys.getD k 0)/1000000000*1000000000^(i+(k+1))=V+xs.getD i 0*1000000000^i*val 1000000000 (ys.take (k+1)):=by
 have d:=Zka 1000000000 o _ _ ((o.getD (i+k) 0+c+xs.getD i 0*ys.getD k 0)%1000000000) a a;rw [bR O5]at d;grind [Qt,Nat.div_add_mod,Nat.pow_succ,Nat.pow_add,Nat.add_mul]
def Zj8(x y:Nat):Int:=if x<y then -1 else if y<x then 1 else 0
section
variable {P:Program} {N:Nat} {sc:Nat->Prop} {env env':Px} {H H':Hp} {Q Q':Exit->Act->World->Prop} {M:Nat->Prop}
variable {o:Oper} {t t':TypeId} {x y:Operand} {m n:Nat}
theorem Zg7(a:o.op= .binOp .add t x y t')(d:ev env x=some (.int .i64 (m:Int)))(e:ev env y=some (.int .i64 (n:Int)))(h:m+n<=9223372036854775807):Mr P N sc o env H (.int .i64 ((m+n:Nat):Int)):=by have:=d_add (P:=P) (N:=N) (sc:=sc) (H:=H) a d e ;grind
theorem n_mul(a:o.op= .binOp .mul t x y t')(d:ev env x=some (.int .i64 (m:Int)))(e:ev env y=some (.int .i64 (n:Int)))(h:m*n<=9223372036854775807):Mr P N sc o env H (.int .i64 ((m*n:Nat):Int)):=by have:=d_mul (P:=P) (N:=N) (sc:=sc) (H:=H) a d e (by exact⟨O,O⟩);grind
theorem Zmu(d:o.op= .binOp .quo t x y t')(e:ev env x=some (.int .i64 (m:Int)))(f:ev env y=some (.int .i64 (n:Int)))(h:m<=9223372036854775807)(a:0<n):Mr P N sc o env H (.int .i64 ((m/n:Nat):Int)):=by grind [Zfb,Int.natCast_ediv]
theorem Zvl(d:o.op= .binOp .rem t x y t')(e:ev env x=some (.int .i64 (m:Int)))(f:ev env y=some (.int .i64 (n:Int)))(a:0<n):Mr P N sc o env H (.int .i64 ((m%n:Nat):Int)):=by grind [Znr,Int.natCast_emod]
end
end Go.Sky
namespace Go.Sky
variable{b a r:Nat}{q:List Nat}
def Zdl{l:List Nat}{i:Nat}(h:l.length<=i):l.getD i 0=0:=O4
theorem Zws{x y:Nat}(d:2<=b)(h:x<=y):(dg b x).length<=(dg b y).length:=by
 rcases bA (dg b y).length (dg b x).length with c|c
 .have:=Zbo d c;omega
 omega
theorem Ym2{n:Nat}(d:2<=b)(h:n<b)(c:n≠0):dg b n=[n]:=by grind [Zcj,Nat.mod_eq_of_lt,Nat.div_eq_of_lt,Gv]
theorem Yph(c:2<=b)(f:a<b):tz (a::dg b r)=dg b (r*b+a):=by
 have h:∀d∈a::dg b r,d<b:=λd e=>by
  rcases bI.1 e with rfl|e
  .omega
  .exact Nx c r d e
 rw [<-Kr c _ h];simp only [val,Ld c];grind
theorem Zxa : Zj8 a b<0↔a<b:=by unfold Zj8;split<;>(omega)<;>omega
theorem Ydh : Zj8 a b<=0↔a<=b:=by unfold Zj8;split<;>(omega)<;>omega
theorem Ydi : 0<=Zj8 a b↔b<=a:=by unfold Zj8;split<;>(omega)<;>omega
theorem Zym{x k:Nat}(c:0<k):x/1000000000^k*1000000000+x/1000000000^(k-1)%1000000000=x/1000000000^(k-1):=by
 have h:x/1000000000^k=x/1000000000^(k-1)/1000000000:=by simp_all [aS,cH]
 omega
theorem over_Q{y:Nat}(d:r<y)(c:a<1000000000):(r*1000000000+a)/y<1000000000:=by rw [bN O];omega
theorem bl_m30{y m:Nat}(h:bl m<=30):bl (y*m)<=bl y+30:=by grind [Zn7]
theorem Ytz{y:Nat}(g:r<y)(f:a<1000000000):bl (r*1000000000+a)<=bl y+30:=by
 have c:r*1000000000+a<y*1000000000:=by omega
 have d:=Oh (dC c);have e:=bl_m30 (y:=y) (m:=1000000000) ((Qo 30 _).2 O5);grind
theorem Zn5 (y:Nat)(n:Nat)(e:n<1000000000):bl (y*n)<=bl y+30:=by have c:=Zn7 y n;have d:bl n<=30:=(Qo 30 _).2 O;omega
theorem Zho{k d:Nat}(c:0<k)(h:k<=q.length):val 1000000000 ((q.set (k-1) d).drop (k-1))=d+1000000000*val 1000000000 (q.drop k):=by rw [drop_set O,show k-1+1=k by omega];rfl
theorem Yga{k:Nat}(d:0<k)(h:k<=q.length)(c:q.getD (k-1) 0=0):val 1000000000 (q.drop (k-1))=1000000000*val 1000000000 (q.drop k):=by rw [Zdj 0 q _ O,c,show k-1+1=k by omega];simp [val]
theorem Yg5{n:Nat}(c:2<=b)(h:n<b):tz [n]=dg b n:=by have:=Kr c [n] O4;simpa [val]using this.symm
theorem Ztz{m:Nat}(h:m<9223372036854775809):tz [m%1000000000,m/1000000000%1000000000,m/1000000000/1000000000]=dg 1000000000 m:=by rw [<-Kr Pu _ O4];congr 1;simp only [val];omega
theorem sign9{x:Int}(h:(((dg 1000000000 x.natAbs).length:Nat):Int)=0):Value.int .i64 x.sign= .int .i64 0:=by have c:=(Ok Pu x.natAbs).1 O;grind
theorem Zm8{x:Nat}(h:¬(((dg 1000000000 x).length:Nat):Int)=0):0<x:=by grind [Nat.eq_zero_or_pos,Gv]
theorem Ylb{s:Bool}{n:Nat}{z:Int}(c:n=z.natAbs)(hs:sg s z):(s && decide (0<n))=decide (z<0):=by
 cases s
 .have:=hs.2 rfl;grind
 .have:=hs.1 rfl;grind
theorem Zv0(n:Nat):decide ((0:Int)<(((dg 1000000000 n).length:Nat):Int))=decide (0<n):=by rw [bB];have:=Ok Pu n;omega
def Yt2{a b:Bool}(h:(a == b)=true):a=b:=O4
theorem Ypo{x y:Int}(c:y≠0):(x-x.tdiv y*y=x.tmod y):=by have:=gO x y;grind
def Zlo(x y:Int):x.natAbs/y.natAbs=(x.tdiv y).natAbs:=(kT x y).symm
theorem Ypx(x y:Int):sg (decide (x<0) != decide (y<0)) (x.tdiv y):=by
 have e:∀a b:Int,0<=a->0<=b->0<=a.tdiv b:=λa b i j=>Int.tdiv_nonneg i j;rcases gD x 0 with h|h<;>rcases gD y 0 with d|d
 .have c:=e (-x) (-y) O O;rw [Int.neg_tdiv,Int.tdiv_neg]at c;simp only [sg,h,d,decide_true,bne_self_eq_false];grind
 .have c:=e (-x) y O d;rw [Int.neg_tdiv]at c;have:=O;simp [sg,h,this];omega
 .have c:=e x (-y) h O;rw [Int.tdiv_neg]at c;have:=O;simp [sg,d,this];omega
 .have c:=e x y h d;have f:=O;have g:=O;simp [sg,f,g];omega
theorem Zln(x:Int){y:Int}(c:y≠0):(x.tmod y).natAbs<y.natAbs:=by simp_all [Int.natAbs_tmod,bG]
theorem Yqu{x y:Int}(f:0<y)(h:x.tmod y<0):x/y=x.tdiv y-1/\x%y=x-(x.tdiv y-1)*y:=by have c:=Zln x (show y≠0 by omega);have d:=gO x y;have e:(x.tdiv y-1)*y=y*x.tdiv y-y:=O4;have:=Zep (x:=x) (y:=y) (q:=x.tdiv y-1) (r:=x-(x.tdiv y-1)*y) O O4 O O;omega
theorem Yqv{x y:Int}(f:y<0)(h:x.tmod y<0):x/y=x.tdiv y+1/\x%y=x-(x.tdiv y+1)*y:=by have c:=Zln x (show y≠0 by omega);have d:=gO x y;have e:(x.tdiv y+1)*y=y*x.tdiv y+y:=O4;have:=Zep (x:=x) (y:=y) (q:=x.tdiv y+1) (r:=x-(x.tdiv y+1)*y) O O4 O O;omega
theorem Yj0{x y:Int}(c:y≠0)(h:¬x.tmod y<0):x/y=x.tdiv y/\x%y=x.tmod y:=by have d:=Zln x c;have e:=gO x y;exact Zep c O O O
theorem Yty(x y:Int):bl (x.tdiv y).natAbs<=bl x.natAbs:=by rw [kT];exact Oh (dL _ _)
theorem Zzv(x y:Int):bl (x.tdiv y*y).natAbs<=bl x.natAbs:=by rw [cE,kT];exact Oh (lM _ _)
section
variable {P:Program} {N:Nat} {sc:Nat->Prop} {env env':Px} {H H':Hp} {Q Q':Exit->Act->World->Prop} {M:Nat->Prop}
variable {o:Oper} {t t':TypeId} {x y:Operand} {m n:Nat}
theorem Zyr(e:o.op= .binOp .quo t x y t')(g:ev env x=some (.int .i64 (-(m:Int))))(i:ev env y=some (.int .i64 (n:Int)))(h:m<=9223372036854775808)(d:1<n):Mr P N sc o env H (.int .i64 (-((m/n:Nat):Int))):=Eh e g i λw=>by
 have c:(-(m:Int)).tdiv (n)=-((m/n:Nat)):=O5;have j:=by have:=lK (show 2<=n from d) O5 (a:=m);omega
 generalize m/n=q at *;have f:Lo (-(q)):=⟨O,O5⟩;simp [binOp,Op.intDiv,c,Zbw f];omega
theorem Ykx(d:o.op= .binOp .rem t x y t')(e:ev env x=some (.int .i64 (-(m:Int))))(f:ev env y=some (.int .i64 (n:Int)))(g:0<n):Mr P N sc o env H (.int .i64 (-((m%n:Nat):Int))):=Eh d e f λw=>by
 have c:(-(m:Int)).tmod (n)=-((m%n:Nat)):=by rw [Int.neg_tmod,Int.ofNat_tmod]
 simp [binOp,Op.intDiv,c];omega
theorem Yk0(c:o.op= .unOp .neg t x)(e:ev env x=some (.int .i64 (-(m:Int))))(h:m<=9223372036854775807):Mr P N sc o env H (.int .i64 (m:Int)):=λa w hs=>by have d:Lo (m):=⟨O5,O⟩;simp [execOp,c,hs.ev e,Op.unary,Op.intArith,Zbw d]
end
end Go.Sky
namespace Go.Sky
variable{i m d:Nat}{p:Pc}{r:List Pc}{bs ts ks:List Nat}{x y:Operand}{v u:Value}{ops:Array Oper}{listed:Array Bool}{zs:List (Int×SL)}{z:Int×SL}{o:Oper}{t:TypeId}{w0:World}{M0:Nat->Prop}
def Yf6(n:Nat):n/256^((dg 256 n).length-0)=0:=cS ((Xq O5 _ n).1 O5)
theorem Zpz{n:Nat}(h:i<(dg 256 n).length):n/256^((dg 256 n).length-i)*256+n/256^((dg 256 n).length-1-i)%256=n/256^((dg 256 n).length-(i+1)):=by
 rw [show(dg 256 n).length-1-i=(dg 256 n).length-(i+1) by omega];have a:n/256^((dg 256 n).length-i)=n/256^((dg 256 n).length-(i+1))/256:=by rw [aS,<-cH,show((dg 256 n).length-(i+1)).succ=(dg 256 n).length-i by omega]
 omega
theorem Ypl{p xs:List Nat}{k r:Nat}(a:0<k)(b:k<=p.length)(e:k<=xs.length)(c:val 1000000000 (p.drop k)*256+r=val 1000000000 (xs.drop k)) :
  val 1000000000 ((p.set (k-1) ((r*1000000000+xs.getD (k-1) 0)/256)).drop (k-1))*256+(r*1000000000+xs.getD (k-1) 0)%256=val 1000000000 (xs.drop (k-1)):=by
 rw [Zho a b,Zdj 0 xs _ O];simp only [val];grind
theorem Yg7{r a:Nat}(c:r<256)(b:a<1000000000):(r*1000000000+a)/256<1000000000:=by omega
theorem Ypm{n:Nat}(a:val 256 bs+256^bs.length*m=n):val 256 (bs ++ [m%256])+256^(bs ++ [m%256]).length*(m/256)=n:=by rw [Me,aO];simp only [val,bX,cK,cH,cD,fX,eJ,fU,jV];grind [Nat.div_add_mod]
theorem to_ge{n:Nat}(b:val 256 bs+256^bs.length*m=n)(a:0<m):256^bs.length<=n:=by have:=dG (256^bs.length) a;omega
theorem to_len{n:Nat}(h:256^bs.length<=n):bs.length<=bl n:=by grind [Zbg,Mp,Zi0]
theorem Ymy{k:Nat}(a:0<k)(h:k<=bs.length):(bs.drop k).reverse ++ [bs.getD (k-1) 0]=(bs.drop (k-1)).reverse:=by grind [Zdj]
theorem Ytt{n:Nat}(h:bs=dg 256 n):(⟨((bs.drop 0).reverse.map UInt8.ofNat).toArray⟩:ByteArray)=Qy n:=by rw [h];rfl
def qfull(a b:Int):Prop:=65536<bl a.natAbs\/65536<bl b.natAbs
instance (a b:Int):Decidable (qfull a b):=by unfold qfull;infer_instance
def Yrp{x y:Int}(h:¬y<0):Kl x y=(Int.gcd x y:Int):=aJ h
def Zlc(x y:Int):bl ((Int.gcd x y:Int)).natAbs<=max (bl x.natAbs) (bl y.natAbs):=Ztc _ _
open Go.RowKit Below
variable {P:Program} {N:Nat} {sc:Nat->Prop} {env env':Px} {H H':Hp} {Q Q':Exit->Act->World->Prop} {M:Nat->Prop}
abbrev Ysh (w:Bool×ByteArray):Value:= .agg #[.bool w.1,.string w.2]
abbrev Mm (z:Int×SL):Value:= .agg #[.bool (decide (z.1<0)),Xd z.2]
abbrev Nm {α:Type} (z:SL×α):Value:=Xd z.1
abbrev qI (z:Int×SL):Pc:=Nc (Xd z.2) z.1.natAbs
abbrev pp (v:Value) (zs:List (Int×SL)):Pc:=Xv 2 Mm qI v zs
abbrev Zb (zs:List (Int×SL)):List Int:=zs.map Prod.fst
abbrev I0:Int×SL:=(0,none,0,0)
def Zh(zs:List (Int×SL)):(Zb zs).length=zs.length:=O5
theorem Qx(zs:List (Int×SL))(i:Nat):(zs.getD i I0).1=cf (Zb zs) i:=by
 simp only [cf,List.getD,Zb,fG]
 all_goals grind
def Zu8{β:Type}{k:Nat}{enc:β->Value}{q:β->Pc}{zs:List β}{al:Bool}{z:β}(i:Nat)(hi:lk H i=some (Xv k enc q v zs))(f:Nat.beq i 0=false)(a:z∈zs)(h:PreOk H al r):PreOk H al (q z::r):=
 ⟨⟨i,_,λe=>O10,hi,λw h=>h.2 z a,λb c=> .inr ⟨z,a,c⟩,λ_=>rfl⟩,h⟩
def Yf5{β:Type}{k:Nat}{enc:β->Value}{q:β->Pc}{zs:List β}{z:β}(i:Nat)(hi:lk H i=some (Xv k enc q v zs))(f:Nat.beq i 0=false)(a:z∈zs)(g:(q z).own=false)(h:Give H true r):Give H true (q z::r):=
 ⟨⟨g,.inl ⟨i,_,λe=>O10,hi,λw h=>h.2 z a,λb c=> .inr ⟨z,a,c⟩,λh=>O4⟩⟩,h⟩
theorem Yey{β:Type}{k:Nat}{enc:β->Value}{q:β->Pc}{zs:List β}(i j n:Nat)(hi:lk H i=some (Xv k enc q v zs))(e:Nat.beq i 0=false)(g:n<=zs.length):∀a w,Sat N sc env H a w->Sat N sc env ((j,Xv k enc q (Kp v n) (zs.take n))::H) a w:=
 Zbd i j hi e rfl (λw h=>⟨⟨Zea n g h.1.1,λb c=>h.1.2 b (Zni c)⟩,λz f=>h.2 z (eR f)⟩) (λb c=>by
  rcases c with c|⟨z,f,c⟩
  .exact .inl (Zni c)
  .right;grind) rfl
theorem Ztk{n:Nat}{α:Type}{p:α->Prop}(b:∀a w,Sat N sc env H a w->∃x,p x)(h:∀x,p x->A P N sc M ops ts Q n listed env H):A P N sc M ops ts Q n listed env H:=λa w hs=>by obtain⟨x,c⟩:=b a w hs;exact h x c a w hs
theorem Fq(i:Nat):∀a w,Sat N sc env H a w->Sat N sc env ((i,pp (.slice none 0 0) [])::H) a w:=λa w hs=>
 hs.add i _ ⟨Gr 2 _ w,λz e=>O4⟩ (λg h _ _ Ej b c f=>by
  rcases c with c|⟨z,e,_⟩
  all_goals grind) (λb c=>by
  rcases c with c|⟨z,e,_⟩
  all_goals grind)
theorem Zwh{β:Type}{k:Nat}{enc:β->Value}{q:β->Pc}{zs:List β}(i:Nat)(hi:lk H i=some (Xv k enc q v zs)):∀a w,Sat N sc env H a w->Kp v zs.length=v:=λa w hs=>by obtain⟨b,c,h,_⟩:=(hs.hold i _ hi).1.1;rw [h];rfl
def Zie(zs:List (Int×SL))(k:Nat):Zb (zs.take k)=(Zb zs).take k:=O5
def Xw{al:Bool}(i:Nat)(hi:lk H i=some (pp v zs))(a:Nat.beq i 0=false)(b:z∈zs)(h:PreOk H al r):PreOk H al (Nc (Xd z.2) z.1.natAbs::r):=Zu8 (z:=z) i hi a b h
theorem Yr7(i:Nat)(hi:lk H i=some (pp v zs))(a:Nat.beq i 0=false)(c:z∈zs)(b:Nc (Xd z.2) z.1.natAbs=p)(h:Give H true r):Give H true (p::r):=by subst b;exact Yf5 (z:=z) i hi a c rfl h
theorem t_appM {α:Type}   {e:TypeId} {i2 j k h:Nat}  {enc:α->Value} {xs ys:List α}  {ti:TypeInfo} {z:Value}  
  (ho:o.op= .call { callee:= .builtin .append,args:=#[x,y],argTypes:=#[t,t] }) (hd:o.dst=some d) (hN:Nat.blt d N=true)
  (hx:ev env x=some v) (hy:ev env y=some u) (hH:lk H i=some (Oe k e enc v xs)) (Z:i≠0) (hj:lk H j=some p) (hr:Rd p k enc u ys) (a9:ys≠[])
  (ht:P.underlying t=some (.slice e)) (hi:P.info? e=some ti) (hz:ti.zero=some z) (n:Enc P e k enc) (a0:ti.size=k) (W:ti.bytes=h) (a4:z.cells.size=k)
  (l:(xs.length+ys.length)*h<=140737488355328) (s:0<h)
  (h0:lk H 0=some (Xu w0 M0)) (hw:∀b,w0.heap.size<=b->sc b) (hM:∀b,(Oe k e enc v xs).fp b->M b) :
  T P N sc M o env H (G:=Value) (λ_=>True) (λv'=>(d,v')::env) (λv'=>(i,Oe k e enc v' (xs ++ ys))::H):=λa w hs K Q hK=>by
 have I:=hs.hold i _ hH;obtain⟨ad,c,rfl,h1,h2,h3⟩:=hr w (hs.hold j p hj);rcases h3 with rfl|⟨g,S,rfl,h3⟩
 .grind
 have a3:∀q u,(cellsOf enc ys)[q]? = some u->w.cell? ((⟨g,S,none⟩:Addr).add q)=some u:=λq u hq=>by
  have a7:q<ys.length*k:=by rw [<-Xo n.cells ys];grind
  have a5:=n.pos;have Y:q/k<ys.length:=gW O4;have D:=aL Y;have a1:q%k<(enc ys[q/k]).cells.toList.length:=by rw [fJ,n.cells];simp_all [bG]
  have hu:=aL a1;have h4:=Gf n.cells ys _ _ D _ _ hu;grind [Nat.mul_comm,Nat.div_add_mod,Nat.add_assoc,Ol]
 have F:∀u∈cellsOf enc ys,u.oneCell'=true:=λu hu=>by obtain⟨y,_,hy⟩:=iX.1 hu;exact n.one y u hy
 have a6:=aB (dG _ s) l;obtain⟨v',w',R,a8,f,V⟩:=Ze3 (P:=P) t o.type e ti z k h ht hi hz a0 W a4 n.pos v xs.length (cellsOf enc xs) I ⟨g,S,none⟩ ys.length c (cellsOf enc ys)
  (Xo n.cells ys) a3 F (by simp only [maxLen];omega) l
 have a2:(execOp a.eval o).run P w= .ok (.value v') w':=by simp only [execOp,ho,resolve,invoke,builtin,Sem.run_bind,Sem.run_pure,Result.andThen_ok,iE,bQ,iF,hs.ev hx,hs.ev hy,R]
 unfold Oper.wp;rw [a2];show K (a.put o.dst _) _;rw [hd];have B:Chg _ w w':=⟨f.os,f.tape,f.output,f.size,λb l hn=>f.block b l (λe=>hn e.symm)⟩;refine hK v' _ _ aA ((hs.upd hH rfl Z B ?_ (λb l=>V b l) h0 hw).put d _ hN) ⟨f.os,f.tape,f.output,f.size,λb l hn=>f.block b l (λe=>hn (hM b e.symm))⟩;show w'.ownsRow 0 e k v' (xs ++ ys).length (cellsOf enc (xs ++ ys));grind [Ii,List.length_append]
theorem Fl (i:Nat)(j:Nat)(l:Nat) {α:Type}   {e:TypeId} {k:Nat}  {enc:α->Value} {xs ys:List α}  {ti:TypeInfo} {z:Value}  
  (ho:o.op= .call { callee:= .builtin .append,args:=#[x,y],argTypes:=#[t,t] }) (hd:o.dst=some d) (hN:Nat.blt d N=true)
  (hx:ev env x=some v) (hy:ev env y=some u) (Y:lk H i=some (Oe k e enc v xs)) (I:i≠0) (hj:lk H j=some p) (hr:Rd p k enc u ys)
  (ht:P.underlying t=some (.slice e)) (hi:P.info? e=some ti) (hz:ti.zero=some z) (he:Enc P e k enc) (a2:ti.size=k) (a1:ti.bytes=l) (a4:z.cells.size=k)
  (Z:(xs.length+ys.length)*l<=140737488355328) (D:0<l)
  (h0:lk H 0=some (Xu w0 M0)) (hw:∀b,w0.heap.size<=b->sc b) (hM:∀b,(Oe k e enc v xs).fp b->M b) :
  T P N sc M o env H (G:=Value) (λ_=>True) (λv'=>(d,v')::env) (λv'=>(i,Oe k e enc v' (xs ++ ys))::H):=by
 by_cases V:ys=[]
 .subst V;intro a w hs K Q hK;have f:w.ownsRow 0 e k v xs.length (cellsOf enc xs):=hs.hold i _ Y;obtain⟨W,c,rfl,h1,h2,h3⟩:=hr w (hs.hold j p hj);have R:∃h n s,v= .slice h n s/\n=xs.length/\n<=s:=by
   rcases f.2 with⟨rfl,hn⟩|⟨g,a5,a6,rfl,_,_,B,_⟩
   all_goals grind
  obtain⟨h,n,s,rfl,rfl,B⟩:=R;have S:(Builtin.append_ #[t,t] o.type #[.slice h xs.length s,.slice W ([]:List α).length c]).run P w= .ok (.slice h xs.length s) w:=by
   have F:(Builtin.firstCells ti.size 0 (.slice W 0 c)).run P w= .ok #[] w:=by
    cases W with
    | none=>rfl
    | some q=>simp [Builtin.firstCells,loadCells,loadCellsFrom]
   cases h with
   | none=>simp [Builtin.append_,run_underlying ht,sizeOf,typeInfo,hi,Builtin.lenOf,F,B]
   | some q=>simp [Builtin.append_,run_underlying ht,sizeOf,typeInfo,hi,Builtin.lenOf,F,B,storeCells]
  have a3:(execOp a.eval o).run P w= .ok (.value (.slice h xs.length s)) w:=by simp only [execOp,ho,resolve,invoke,builtin,Sem.run_bind,Sem.run_pure,Result.andThen_ok,iE,bQ,iF,hs.ev hx,hs.ev hy,S]
  unfold Oper.wp;rw [a3];show K (a.put o.dst _) _;rw [hd];refine hK _ _ _ aA ((Sat.upd hs Y rfl I (q:=Oe k e enc (.slice h xs.length s) (xs ++ [])) (Chg.refl _ w) ?_ (λb Z=> .inl Z) h0 hw).put d _ hN) (Chg.refl _ w);rw [eU];exact f
 .exact t_appM (i2:=0) ho hd hN hx hy Y I hj hr V ht hi hz he a2 a1 a4 Z D h0 hw hM
theorem Be  {G:Type} {φ:G->Prop} {c:G->Px} {j:G->Hp} {f:Hp}   (i:Nat) (hi:lk H i=some p) (I:p.own=true) (F:ks.all (λk=>!Nat.beq k i)=true) (s:Agr f H ks)
  (h:(∀b,p.fp b->Off f ks b)->T P N sc (Off f ks) o env H φ c j):T P N sc (Off f ks) o env H φ c j:=λa w hs=>
 h (λb B k l q n D=>by
  rw [<-s.mem k l]at n;have g:i≠k:=λe=>by subst e;have:=bK.1 F i l;simp_all
  exact hs.sep i k p q g hi n I b B D) a w hs
def eaf(v:Value)(i k q:Nat):Addr:=(ead v i k).add q
theorem Ip (ii:Nat) {α:Type}    {f:Nat} {e:Array Field} {b:Field} {k R q:Nat}   {enc:α->Value} {xs:List α} (B:o.op= .fieldAddr t x f)
  (I:ev env x=some (.pointer (some (ead v i k)))) (j:lk H ii=some p) (F:Rd p k enc v xs) (G:P.underlying t=some (.struct e)) (l:e[f]? = some b) (n:∀w,(sizeOf b.type).run P w= .ok (R+1) w) (D:b.offset=q) (s:i<xs.length:=by omega) :
  Mr P N sc o env H (.pointer (some (eaf v i k q))):=λa w hs=>by
 obtain⟨V,c,rfl,W,Y,h⟩:=F w (hs.hold ii p j);rcases h with rfl|⟨g,S,rfl,h⟩
 .grind
 .subst D;simp [execOp,B,hs.ev I,Instr.fieldAt,run_underlying G,l,Instr.sureAddr,fieldPlace,n,Ol,eaf,ead]
theorem Im (ii:Nat) {α:Type}    {k q:Nat}   {enc:α->Value} {xs:List α} (e:α) (s:o.op= .load t x)
  (f:ev env x=some (.pointer (some (eaf v i k q)))) (j:lk H ii=some p) (B:Rd p k enc v xs) (l:∀w,(isAgg t).run P w= .ok false w) (D:(enc (xs.getD i e)).cells.toList[q]? = some u) (n:i<xs.length:=by omega):Mr P N sc o env H u:=λa w hs=>by
 obtain⟨G,c,rfl,I,R,b⟩:=B w (hs.hold ii p j);rcases b with rfl|⟨g,F,rfl,b⟩
 .grind
 .have hi:xs[i]? = some (xs.getD i e):=O4;have h:=b i _ hi q u D;simp only [eaf,ead,Ol]at f;simp [execOp,s,hs.ev f,Instr.loadAt,Instr.sureAddr,loadVar,l,load,Sem.run,h]
end Go.Sky
namespace Go.Sky
variable{o:Oper}{r pre:List Pc}{f:FuncId}{xs:List Operand}{a:Act}{w:World}{c x:Operand}{ats:Array TypeId}{vs:List Value}{M0:Nat->Prop}{b:Nat}{t:TypeId}{cs:Array Value}
abbrev rq (z:Int×Int):Value:= .agg #[.bool (decide (z.1<0)),.string (Qy z.1.natAbs),.bool (decide (z.2<0)),.string (Qy z.2.natAbs)]
abbrev encQ (z:(Bool×ByteArray)×(Bool×ByteArray)):Value:= .agg #[.bool z.1.1,.string z.1.2,.bool z.2.1,.string z.2.2]
def Xf (d:Value){P:Program}{N:Nat}{sc:Nat->Prop}{env:Px}{H:Hp}{r:Value}(h:Mr P N sc o env H r)(e:r=d):Mr P N sc o env H d:=e▸h
open Go.RowKit Below
variable {P:Program} {N:Nat} {sc:Nat->Prop} {env env':Px} {H H':Hp} {Q Q':Exit->Act->World->Prop} {M:Nat->Prop}
theorem Yc2 (vs:List Value)(d:List Value){ys:List Operand}(h:o.op= .makeFunc (.func f) xs.toArray ys.toArray)(j:EvL env xs vs)(i:EvL env ys d):Mr P N sc o env H (.func (.func f) vs.toArray d.toArray):=λa w hs=>by have e:=j.map hs;have g:=i.map hs;simp [execOp,h,Instr.makeFunc,e,g]
theorem Ze2   (hs:Sat N sc env H a w)      {e g:List Value} (j:o.op= .call { callee:= .value c,args:=xs.toArray,argTypes:=ats })
  (h:ev env c=some (.func (.func f) e.toArray g.toArray)) (d:EvL env xs vs):(execOp a.eval o).run P w=(callFunc f (e ++ vs ++ g).toArray).run P w:=by
 have i:=d.map hs;simp [execOp,j,resolve,invoke,hs.ev h,Deferred.ofValue,i]
theorem Zae (n:Nat)(h:List Value)(vs:List Value)(k:List Value)      {d:Nat}   {al:Bool} {G:Type} {φ:G->Prop} {val:G->Value} {j:G->List Pc} {u:World} 
  (D:Cal P f (h ++ vs ++ k).toArray pre al φ val j)
  (W:o.op= .call { callee:= .value c,args:=xs.toArray,argTypes:=ats }) (F:ev env c=some (.func (.func f) h.toArray k.toArray)) (I:o.dst=some d) (B:Nat.blt d N=true)
  (p:EvL env xs vs) (e:∀args w,(callFunc f args).run P w= .ok (.enter f args) w) (i:PreOk H al pre)
  (y:lk H 0=some (Xu u M0)) (S:∀b,u.heap.size<=b->sc b) :
  T P N sc M o env H φ (λg=>(d,val g)::env) (λg=>adds n (j g) H):=λa w hs K Q z=>by
 have R:(execOp a.eval o).run P w= .ok (.enter f (h ++ vs ++ k).toArray) w:=by grind [Ze2]
 let o2:={ o with op:= .call { callee:= .value (.func f),args:=((h ++ vs ++ k).map Operand.const).toArray,argTypes:=ats } };have q:∀l,EvL env (l.map Operand.const) l:=λl=>by
  induction l with
  | nil=>trivial
  | cons v r V=>exact⟨rfl,V⟩
 have s:(execOp a.eval o2).run P w= .ok (.enter f (h ++ vs ++ k).toArray) w:=by grind [Gm]
 have m:=Xb _ D (o:=o2) rfl I B (q _) e i y S a w hs K Q z;unfold Oper.wp at m ⊢;rw [s]at m;rw [R];exact m
def Ziq(i:Nat)(hi:lk H i=some (box b t cs))(g:Nat.beq i 0=false)(h:PreOk H false r):PreOk H false (Hm b t cs::r):=
 ⟨⟨i,_,λe=>O10,hi,λw h=>h,λb d=>d,λh=>O4⟩,h⟩
theorem Sat.rboxc(hs:Sat N sc env H a w){i:Nat}(d:lk H i=some (Hm b t cs))(j:Nat):w.cell? ⟨b,j,none⟩=cs[j]?:=by have h:w.heap[b]? = some _:=hs.hold i _ d;simp [World.cell?,h]
theorem d_lra   {q:TypeId} {i j k:Nat}   (l:o.op= .load t x)
  (p:ev env x=some (.pointer (some ⟨b,j,none⟩))) (e:lk H i=some (Hm b q cs)) (m:∀w,(isAgg t).run P w= .ok true w) (g:∀w,(sizeOf t).run P w= .ok k w)
  (h:vs.length=k) (v:∀n u,vs[n]? = some u->cs[j+n]? = some u):Mr P N sc o env H (.agg vs.toArray):=λa w hs=>by
 have d:=run_loadCells_list (P:=P) w ⟨b,j,none⟩ vs (λn u s=>by rw [Ol,hs.rboxc e];grind);rw [h]at d;simp [execOp,l,hs.ev p,Instr.loadAt,Instr.sureAddr,loadVar,m,g,d]
theorem Ym6{m:Int}(d:o.op= .unOp .neg t x)(e:ev env x=some (.int .i64 m))(h:Lo (-m):=by exact⟨O,O⟩):Mr P N sc o env H (.int .i64 (-m)):=λa w hs=>by simp [execOp,d,hs.ev e,Op.unary,Op.intArith,Zbw h]
theorem fill24{n p q s d e g h j k l m:Value}:Instr.fill (λi=>some (i*4,4)) ((List.range (2*4)).map ((Value.agg #[n,p,q,s]).cells[· % (Value.agg #[n,p,q,s]).cells.size]!)).toArray [(0,.agg #[d,e,g,h]),(1,.agg #[j,k,l,m])]=some #[d,e,g,h,j,k,l,m]:=by simp [Instr.fill,Value.cells,List.range,List.range.loop]
end Go.Sky
namespace Go.Sky
open Go.RowKit Below
variable{f:FuncId}{c:Operand}{xs:List Operand}{ats:Array TypeId}{p:Pc}{pre:List Pc}{w0:World}{M0:Nat->Prop}{fn:Func}{vs:List Value}
variable {P:Program} {N:Nat} {sc:Nat->Prop} {env env':Px} {H H':Hp} {Q Q':Exit->Act->World->Prop} {M:Nat->Prop}
abbrev iq (z:(Int×Int)×(Int×Int)):Value:= .agg #[.bool (decide (z.1.1<0)),.string (Qy z.1.1.natAbs),.bool (decide (z.1.2<0)),.string (Qy z.1.2.natAbs),.bool (decide (z.2.1<0)),.string (Qy z.2.1.natAbs),.bool (decide (z.2.2<0)),.string (Qy z.2.2.natAbs)]
def Zz4(P:Program)(f:FuncId)(args:Array Value)(pre:List Pc)(p:Pc){G:Type}(φ:G->Prop)(val:G->Value)(q:G->Pc):Prop:=
 ∀w,(∀r∈pre,r.holds w/\∀k,p.fp k->¬r.fp k)->p.holds w->Calls P f args w λe a=>∃g,e= .returned (val g)/\φ g/\Chg p.fp w a/\(q g).holds a/\∀k,(q g).fp k->p.fp k\/w.heap.size<=k
theorem Zgi (i:Nat)(u:List Value)(vs:List Value)(F:List Value) {o:Oper}     {d:Nat}    {G:Type} {φ:G->Prop} {val:G->Value} {q:G->Pc}  
  (Z:Zz4 P f (u ++ vs ++ F).toArray pre p φ val q)
  (ho:o.op= .call { callee:= .value c,args:=xs.toArray,argTypes:=ats }) (a0:ev env c=some (.func (.func f) u.toArray F.toArray)) (hd:o.dst=some d) (W:Nat.blt d N=true)
  (x:EvL env xs vs) (y:∀args w,(callFunc f args).run P w= .ok (.enter f args) w) (v:lk H i=some p) (l:p.own=true) (z:i≠0) (s:PreOk (drp i H) false pre)
  (R:lk H 0=some (Xu w0 M0)) (hw:∀b,w0.heap.size<=b->sc b) (V:∀b,p.fp b->M b) :
  T P N sc M o env H φ (λg=>(d,val g)::env) (λg=>(i,q g)::H):=λa w hs K Q S=>by
 have hr:(execOp a.eval o).run P w= .ok (.enter f (u ++ vs ++ F).toArray) w:=by grind [Ze2]
 unfold Oper.wp;rw [hr];refine(Z w (λr hp=>by obtain⟨j,I,_,t,n,m,_⟩:=s.mem r hp;obtain⟨D,t⟩:=Fu _ _ _ _ t;exact⟨n w (hs.hold j I t),λk B Y=>hs.sep i j _ I (fB D) v t l k B (m k Y)⟩) (hs.hold i _ v)).mono ?_
 rintro e w' ⟨g,rfl,hg,h,hq,m⟩;rw [hd];exact S g _ _ hg (Sat.put (hs.upd v l z h hq m R hw) d _ W) ⟨h.os,h.tape,h.output,h.size,λk B hn=>h.block k B (λe=>hn (V k e))⟩
def Yow(P:Program)(fn:Func)(w0:World)(p:Pc){G:Type}(φ:G->Prop)(val:G->Value)(q:G->Pc):Exit->Act->World->Prop:=
 bodyPost P fn λe a=>∃g,e= .returned (val g)/\φ g/\Chg p.fp w0 a/\(q g).holds a/\∀k,(q g).fp k->p.fp k\/w0.heap.size<=k
theorem Zh1   {c:Code}    {G:Type} {φ:G->Prop} {val:G->Value} {q:G->Pc} {N:Nat}
  (y:P.funcs[f]? = some fn) (u:fn.body=some c) (W:fn.ntmps=N) (m:Nat.ble vs.length N=true) (n:AllRo pre)
  (h:∀w0 (sc:Nat->Prop),(∀k,w0.heap.size<=k->sc k)->(∀k,sc k->w0.heap.size<=k\/p.fp k\/∃q∈pre,q.fp k)->
   E P N sc c (Yow P fn w0 p φ val q) (Pv 0 vs) ((0,Xu w0 p.fp)::(1,p)::Xk 2 pre)) :
  Zz4 P f vs.toArray pre p φ val q:=λw Y x=>by
 refine calls_of_wp y u (h w _ (λk b=> .inl b) (λk b=>b) _ w ?_);have m:vs.length<=N:=O10;have a:∀i r,lk ((0,Xu w p.fp)::(1,p)::Xk 2 pre) i=some r->(i=0/\r=Xu w p.fp)\/(i=1/\r=p)\/(i≠0/\i≠1/\r∈pre/\r.own=false):=λi r hi=>by
   by_cases o:0=i
   .grind [Yv]
   .rw [Yc _ _ o]at hi;by_cases d:1=i
    .grind [Yv]
    .rw [Yc _ _ d]at hi;obtain⟨_,g⟩:=Mk pre 2 i r hi;exact .inr (.inr ⟨λe=>o e.symm,λe=>d e.symm,g,n.mem r g⟩)
 refine⟨O4,rfl,λt v R=>?_,λi r hi=>?_,λi j r S F hi B I k b l=>?_,λi r z hi k b=>?_⟩
 .have d:vs.toArray[t]? = some v:=by simpa using(Ft vs 0 t v R).2
  have D:=(aT.1 d).1;simp_all [bL,eA]
 .rcases a i r hi with⟨_,rfl⟩|⟨_,rfl⟩|⟨_,_,g,_⟩
  .exact Chg.refl _ w
  all_goals grind
 .rcases a i r hi with⟨_,rfl⟩|⟨d,rfl⟩|⟨_,_,g,s⟩
  .cases I
  .rcases a j S B with⟨_,rfl⟩|⟨V,rfl⟩|⟨_,_,g,_⟩
   .exact l.2 b
   all_goals grind
  grind
 grind
theorem Aj    {G:Type} {φ:G->Prop} {val:G->Value} {q:G->Pc}  {e:Exit} (B:e= .ret\/e= .normal) (u:∀k,sc k->w0.heap.size<=k\/p.fp k\/∃q∈pre,q.fp k)
  (g:G) {v:Value} (m:∀a w,Sat N sc env H a w->(results fn a.tmps).run P w= .ok v w) (R:val g=v) (D:φ g) (i:Nat) (hi:lk H i=some (q g)) (z:lk H 0=some (Xu w0 p.fp)) (b:Nat.beq i 0=false) (d:(q g).own=true) (l:PreOk (drp i H) false pre) :
  X N sc e (Yow P fn w0 p φ val q) env H:=λa w hs=>by
 have b:i≠0:=λe=>O10;have x:a.defers=[]/\∃v,(results fn a.tmps).run P w= .ok v w/\(∃g,Ending.returned v= .returned (val g)/\φ g/\Chg p.fp w0 w/\(q g).holds w/\∀k,(q g).fp k->p.fp k\/w0.heap.size<=k):=by
  refine⟨hs.defers,v,m a w hs,g,O4,D,hs.hold 0 _ z,hs.hold i _ hi,λk y=>?_⟩;rcases u k (hs.scope i _ b hi k y)with h|h|⟨r,F,t⟩
  .omega
  .grind
  .obtain⟨j,I,_,o,_,n,_⟩:=l.mem r F;obtain⟨s,o⟩:=Fu _ _ _ _ o;exact(hs.sep i j _ I (fB s) hi o d k y (n k t)).elim
 rcases B with rfl|rfl<;>exact x
end Go.Sky
namespace Go.Sky
open Go.Proofs
def pU:Enc Tryz.prog 222 1 My:=Enc.flat Tryz.sizeOf222 Tryz.isAgg222 (λ_=>rfl)
def pB:Enc Tryz.prog 5 1 Zj7:=Enc.flat Tryz.sizeOf5 Tryz.isAgg5 (λ_=>rfl)
def pN:Enc Tryz.prog 3 1 Ig:=Enc.flat Tryz.sizeOf3 Tryz.isAgg3 (λ_=>rfl)
def pZ:Enc Tryz.prog 3 1 Zz:=Enc.flat Tryz.sizeOf3 Tryz.isAgg3 (λ_=>rfl)
def Zjd(args:Array Value)(w:World):(callFunc 338 args).run Tryz.prog w=((add64Entry args).run Tryz.prog w).andThen λv w'=> .ok (.value v) w':=
 run_callFunc_extern Tryz.func338 O6 O6 O6 O6 args w
def Yeo(args:Array Value)(w:World):(callFunc 339 args).run Tryz.prog w=((Zfl args).run Tryz.prog w).andThen λv w'=> .ok (.value v) w':=
 run_callFunc_extern Tryz.func339 O6 O6 O6 O6 args w
end Go.Sky
theorem Go.Proofs.Tryz.ti222:Go.Proofs.Tryz.prog.info? 222=some Go.Proofs.Tryz.t222:=Go.Sky.O6
theorem Go.Proofs.Tryz.ti5:Go.Proofs.Tryz.prog.info? 5=some Go.Proofs.Tryz.t5:=Go.Sky.O6
theorem Go.Proofs.Tryz.ti3:Go.Proofs.Tryz.prog.info? 3=some Go.Proofs.Tryz.t3:=Go.Sky.O6
namespace Go.Sky
open Go.Proofs
def pW:Enc Tryz.prog 144 2 Ysh:=Enc.agg O3 Tryz.sizeOf144 Tryz.isAgg144 (λx=>⟨[.bool x.1,.string x.2],rfl,rfl,O11⟩)
def pV:Enc Tryz.prog 144 2 wv:=Enc.agg O3 Tryz.sizeOf144 Tryz.isAgg144 (λx=>⟨[.bool (decide (x<0)),.string (Qy x.natAbs)],rfl,rfl,O11⟩)
def pI:Enc Tryz.prog 167 2 Mm:=Enc.agg O3 Tryz.sizeOf167 Tryz.isAgg167 (λx=>⟨[.bool (decide (x.1<0)),Xd x.2],rfl,rfl,O11⟩)
def pS{α:Type} : Enc Tryz.prog 140 1 (Nm (α:=α)):=Enc.flat Tryz.sizeOf140 Tryz.isAgg140 (λ_=>rfl)
def pY:Enc Tryz.prog 342 8 iq:=Enc.agg O3 Tryz.sizeOf342 Tryz.isAgg342 (λx=>⟨[.bool (decide (x.1.1<0)),.string (Qy x.1.1.natAbs),.bool (decide (x.1.2<0)),.string (Qy x.1.2.natAbs),.bool (decide (x.2.1<0)),.string (Qy x.2.1.natAbs),.bool (decide (x.2.2<0)),.string (Qy x.2.2.natAbs)],rfl,rfl,O11⟩)
def pQ:Enc Tryz.prog 259 4 rq:=Enc.agg O3 Tryz.sizeOf259 Tryz.isAgg259 (λx=>⟨[.bool (decide (x.1<0)),.string (Qy x.1.natAbs),.bool (decide (x.2<0)),.string (Qy x.2.natAbs)],rfl,rfl,O11⟩)
def pR:Enc Tryz.prog 259 4 encQ:=Enc.agg O3 Tryz.sizeOf259 Tryz.isAgg259 (λx=>⟨[.bool x.1.1,.string x.1.2,.bool x.2.1,.string x.2.2],rfl,rfl,O11⟩)
def sh144:Tryz.prog.stoodInHeld 144=false:=O6
def eg144:Tryz.prog.eqGuardType Tryz.prog.depth 144=false:=O6
def in144(d:Nat)(w:World)(a:Bool)(s:ByteArray)(b:Bool)(t:ByteArray):(Op.equalIn (d+2) 144 (.agg #[.bool a,.string s]) (.agg #[.bool b,.string t])).run Tryz.prog w= .ok (eqW a s b t) w:=by
 have c:Tryz.prog.underlying 144=some (.struct (Tryz.prog.fieldsOf 144)):=by unfold Program.fieldsOf;rw [Tryz.underlying144]
 rw [run_equalIn_agg w (d+1) 144 _ _ c sh144];unfold Program.fieldsOf;rw [Tryz.underlying144];simp [Op.eqFields,part,Tryz.isAgg4,Tryz.isAgg9,run_equalIn_bool' _ _ _ _ _ Tryz.underlying4,run_equalIn_string _ _ _ _ _ Tryz.underlying9];unfold eqW;cases hab:(a == b)
 .simp_all
 .by_cases h:s.toList=t.toList<;>simp_all
def eql144(w:World){a:Bool}{s:ByteArray}{b:Bool}{t:ByteArray}:(binOp .eql 144 (.agg #[.bool a,.string s]) (.agg #[.bool b,.string t])).run Tryz.prog w= .ok (.bool (eqW a s b t)) w:=by rw [run_eql_struct,in144];rfl
end Go.Sky
theorem Go.Proofs.Tryz.ti4:Go.Proofs.Tryz.prog.info? 4=some Go.Proofs.Tryz.t4:=Go.Sky.O6
theorem Go.Proofs.Tryz.ti25:Go.Proofs.Tryz.prog.info? 25=some Go.Proofs.Tryz.t25:=Go.Sky.O6
theorem Go.Proofs.Tryz.ti27:Go.Proofs.Tryz.prog.info? 27=some Go.Proofs.Tryz.t27:=Go.Sky.O6
theorem Go.Proofs.Tryz.ti36:Go.Proofs.Tryz.prog.info? 36=some Go.Proofs.Tryz.t36:=Go.Sky.O6
theorem Go.Proofs.Tryz.ti61:Go.Proofs.Tryz.prog.info? 61=some Go.Proofs.Tryz.t61:=Go.Sky.O6
theorem Go.Proofs.Tryz.ti116:Go.Proofs.Tryz.prog.info? 116=some Go.Proofs.Tryz.t116:=Go.Sky.O6
theorem Go.Proofs.Tryz.ti140:Go.Proofs.Tryz.prog.info? 140=some Go.Proofs.Tryz.t140:=Go.Sky.O6
theorem Go.Proofs.Tryz.ti144:Go.Proofs.Tryz.prog.info? 144=some Go.Proofs.Tryz.t144:=Go.Sky.O6
theorem Go.Proofs.Tryz.ti167:Go.Proofs.Tryz.prog.info? 167=some Go.Proofs.Tryz.t167:=Go.Sky.O6
theorem Go.Proofs.Tryz.ti178:Go.Proofs.Tryz.prog.info? 178=some Go.Proofs.Tryz.t178:=Go.Sky.O6
theorem Go.Proofs.Tryz.ti240:Go.Proofs.Tryz.prog.info? 240=some Go.Proofs.Tryz.t240:=Go.Sky.O6
theorem Go.Proofs.Tryz.ti259:Go.Proofs.Tryz.prog.info? 259=some Go.Proofs.Tryz.t259:=Go.Sky.O6
theorem Go.Proofs.Tryz.ti24:Go.Proofs.Tryz.prog.info? 24=some Go.Proofs.Tryz.t24:=Go.Sky.O6
namespace Go.Sky
open Go.Proofs
def Yt7{a b c:Value}(d:a.oneCell'=true)(e:b.oneCell'=true)(f:c.oneCell'=true):Tryz.prog.built 24 [(0,a),(1,b),(2,c)]=some #[a,b,c]:=by refine Qd Tryz.ti24 Tryz.underlying24 rfl (pl:=[(0,1),(1,1),(2,1)]) (by simp [Tryz.ti3];try decide) ?_;simp [Instr.fill,Zr d,Zr e,Zr f,show(Value.agg #[.int .i64 0,.int .i64 0,.int .i64 0]).cells=#[.int .i64 0,.int .i64 0,.int .i64 0]from rfl]
end Go.Sky
theorem Go.Proofs.Tryz.ti40:Go.Proofs.Tryz.prog.info? 40=some Go.Proofs.Tryz.t40:=Go.Sky.O6
namespace Go.Sky
open Go.Proofs
variable{v0 v1 v2:Value}
theorem Yt5(a:v0.oneCell'=true)(b:v1.oneCell'=true)(c:v2.oneCell'=true):Tryz.prog.built 40 [(0,v0),(1,v1),(2,v2)]=some #[v0,v1,v2]:=by refine Qd Tryz.ti40 Tryz.underlying40 rfl (pl:=[(0,1),(1,1),(2,1)]) (by simp [Tryz.ti3];try decide) ?_;simp [Instr.fill,Zr a,Zr b,Zr c,show(Value.agg #[.int .i64 0,.int .i64 0,.int .i64 0]).cells=#[.int .i64 0,.int .i64 0,.int .i64 0]from rfl]
theorem Yt4(a:v0.oneCell'=true)(b:v1.oneCell'=true)(c:v2.oneCell'=true):Tryz.prog.built 61 [(0,v0),(1,v1),(2,v2)]=some #[v0,v1,v2]:=by refine Qd Tryz.ti61 Tryz.underlying61 rfl (pl:=[(0,1),(1,1),(2,1)]) (by simp [Tryz.ti3];try decide) ?_;simp [Instr.fill,Zr a,Zr b,Zr c,show(Value.agg #[.int .i64 0,.int .i64 0,.int .i64 0]).cells=#[.int .i64 0,.int .i64 0,.int .i64 0]from rfl]
theorem b116_:Tryz.prog.built 116 []=some #[.int .i64 0,.int .i64 0,.int .i64 0,.slice none 0 0,.slice none 0 0,.slice none 0 0]:=by refine Qd Tryz.ti116 Tryz.underlying116 rfl (pl:=[(0,1),(1,1),(2,1),(3,1),(4,1),(5,1)]) (by simp [Tryz.ti25,Tryz.ti3];try decide) ?_;simp [Instr.fill,show(Value.agg #[.int .i64 0,.int .i64 0,.int .i64 0,.slice none 0 0,.slice none 0 0,.slice none 0 0]).cells=#[.int .i64 0,.int .i64 0,.int .i64 0,.slice none 0 0,.slice none 0 0,.slice none 0 0]from rfl]
theorem Yt8(a:v0.oneCell'=true)(b:v1.oneCell'=true):Tryz.prog.built 116 [(0,v0),(1,v1)]=some #[v0,v1,.int .i64 0,.slice none 0 0,.slice none 0 0,.slice none 0 0]:=by refine Qd Tryz.ti116 Tryz.underlying116 rfl (pl:=[(0,1),(1,1),(2,1),(3,1),(4,1),(5,1)]) (by simp [Tryz.ti25,Tryz.ti3];try decide) ?_;simp [Instr.fill,Zr a,Zr b,show(Value.agg #[.int .i64 0,.int .i64 0,.int .i64 0,.slice none 0 0,.slice none 0 0,.slice none 0 0]).cells=#[.int .i64 0,.int .i64 0,.int .i64 0,.slice none 0 0,.slice none 0 0,.slice none 0 0]from rfl]
theorem Zdx{a b c:Value}(d:v0.oneCell'=true)(e:v1.oneCell'=true)(f:v2.oneCell'=true)(g:a.oneCell'=true)(h:b.oneCell'=true)(i:c.oneCell'=true):Tryz.prog.built 116 [(0,v0),(1,v1),(2,v2),(3,a),(4,b),(5,c)]=some #[v0,v1,v2,a,b,c]:=by refine Qd Tryz.ti116 Tryz.underlying116 rfl (pl:=[(0,1),(1,1),(2,1),(3,1),(4,1),(5,1)]) (by simp [Tryz.ti25,Tryz.ti3];try decide) ?_;simp [Instr.fill,Zr d,Zr e,Zr f,Zr g,Zr h,Zr i,show(Value.agg #[.int .i64 0,.int .i64 0,.int .i64 0,.slice none 0 0,.slice none 0 0,.slice none 0 0]).cells=#[.int .i64 0,.int .i64 0,.int .i64 0,.slice none 0 0,.slice none 0 0,.slice none 0 0]from rfl]
end Go.Sky
theorem Go.Proofs.Tryz.ti130:Go.Proofs.Tryz.prog.info? 130=some Go.Proofs.Tryz.t130:=Go.Sky.O6
theorem Go.Proofs.Tryz.ti38:Go.Proofs.Tryz.prog.info? 38=some Go.Proofs.Tryz.t38:=Go.Sky.O6
theorem Go.Proofs.Tryz.ti128:Go.Proofs.Tryz.prog.info? 128=some Go.Proofs.Tryz.t128:=Go.Sky.O6
namespace Go.Sky
open Go.Proofs
def Ygm{d e a b c f:Value}(g:d.oneCell'=true)(h:e.oneCell'=true)(i:f.oneCell'=true):Tryz.prog.built 130 [(0,d),(1,e),(2,.agg #[a,b,c]),(3,f)]=some #[d,e,a,b,c,f]:=by refine Qd Tryz.ti130 Tryz.underlying130 rfl (pl:=[(0,1),(1,1),(2,3),(5,1)]) (by simp [Tryz.ti128,Tryz.ti3,Tryz.ti38,Tryz.ti40];try decide) ?_;simp [Instr.fill,Zr g,Zr h,Zr i,show(Value.agg #[a,b,c]).cells=#[a,b,c]from rfl,show(Value.agg #[.slice none 0 0,.int .i64 0,.int .i64 0,.int .i64 0,.int .i64 0,.map none]).cells=#[.slice none 0 0,.int .i64 0,.int .i64 0,.int .i64 0,.int .i64 0,.map none]from rfl]
end Go.Sky
theorem Go.Proofs.Tryz.ti9:Go.Proofs.Tryz.prog.info? 9=some Go.Proofs.Tryz.t9:=Go.Sky.O6
namespace Go.Sky
open Go.Proofs
def Yog:Tryz.prog.built 144 []=some #[.bool false,.string ⟨#[]⟩]:=by refine Qd Tryz.ti144 Tryz.underlying144 rfl (pl:=[(0,1),(1,1)]) (by simp [Tryz.ti4,Tryz.ti9];try decide) ?_;simp [Instr.fill,show(Value.agg #[.bool false,.string ⟨#[]⟩]).cells=#[.bool false,.string ⟨#[]⟩]from rfl]
def Ztg{a b:Value}(c:a.oneCell'=true)(d:b.oneCell'=true):Tryz.prog.built 144 [(0,a),(1,b)]=some #[a,b]:=by refine Qd Tryz.ti144 Tryz.underlying144 rfl (pl:=[(0,1),(1,1)]) (by simp [Tryz.ti4,Tryz.ti9];try decide) ?_;simp [Instr.fill,Zr c,Zr d,show(Value.agg #[.bool false,.string ⟨#[]⟩]).cells=#[.bool false,.string ⟨#[]⟩]from rfl]
end Go.Sky
theorem Go.Proofs.Tryz.ti147:Go.Proofs.Tryz.prog.info? 147=some Go.Proofs.Tryz.t147:=Go.Sky.O6
namespace Go.Sky
open Go.Proofs
def Zqd{a b c d e f g h:Value} : Tryz.prog.built 147 [(0,.agg #[a,b]),(1,.agg #[c,d]),(2,.agg #[e,f]),(3,.agg #[g,h])]=some #[a,b,c,d,e,f,g,h]:=by refine Qd Tryz.ti147 Tryz.underlying147 rfl (pl:=[(0,2),(2,2),(4,2),(6,2)]) (by simp [Tryz.ti144];try decide) ?_;simp [Instr.fill,show(Value.agg #[a,b]).cells=#[a,b]from rfl,show(Value.agg #[c,d]).cells=#[c,d]from rfl,show(Value.agg #[e,f]).cells=#[e,f]from rfl,show(Value.agg #[g,h]).cells=#[g,h]from rfl,show(Value.agg #[.bool false,.string ⟨#[]⟩,.bool false,.string ⟨#[]⟩,.bool false,.string ⟨#[]⟩,.bool false,.string ⟨#[]⟩]).cells=#[.bool false,.string ⟨#[]⟩,.bool false,.string ⟨#[]⟩,.bool false,.string ⟨#[]⟩,.bool false,.string ⟨#[]⟩]from rfl]
def Zoa:Tryz.prog.built 167 []=some #[.bool false,.slice none 0 0]:=by refine Qd Tryz.ti167 Tryz.underlying167 rfl (pl:=[(0,1),(1,1)]) (by simp [Tryz.ti25,Tryz.ti4];try decide) ?_;simp [Instr.fill,show(Value.agg #[.bool false,.slice none 0 0]).cells=#[.bool false,.slice none 0 0]from rfl]
def Yd5{a b:Value}(c:a.oneCell'=true)(d:b.oneCell'=true):Tryz.prog.built 167 [(0,a),(1,b)]=some #[a,b]:=by refine Qd Tryz.ti167 Tryz.underlying167 rfl (pl:=[(0,1),(1,1)]) (by simp [Tryz.ti25,Tryz.ti4];try decide) ?_;simp [Instr.fill,Zr c,Zr d,show(Value.agg #[.bool false,.slice none 0 0]).cells=#[.bool false,.slice none 0 0]from rfl]
def Zh5{a b c:Value}(d:a.oneCell'=true)(e:b.oneCell'=true)(f:c.oneCell'=true):Tryz.prog.built 178 [(0,a),(1,b),(2,c)]=some #[a,b,c]:=by refine Qd Tryz.ti178 Tryz.underlying178 rfl (pl:=[(0,1),(1,1),(2,1)]) (by simp [Tryz.ti140,Tryz.ti3];try decide) ?_;simp [Instr.fill,Zr d,Zr e,Zr f,show(Value.agg #[.int .i64 0,.int .i64 0,.slice none 0 0]).cells=#[.int .i64 0,.int .i64 0,.slice none 0 0]from rfl]
end Go.Sky
theorem Go.Proofs.Tryz.ti196:Go.Proofs.Tryz.prog.info? 196=some Go.Proofs.Tryz.t196:=Go.Sky.O6
theorem Go.Proofs.Tryz.ti195:Go.Proofs.Tryz.prog.info? 195=some Go.Proofs.Tryz.t195:=Go.Sky.O6
namespace Go.Sky
open Go.Proofs
def Zf4{g a b c d e f h i:Value}(j:g.oneCell'=true)(k:h.oneCell'=true)(l:i.oneCell'=true):Tryz.prog.built 196 [(0,g),(1,.agg #[a,b,c]),(2,.agg #[d,e,f]),(3,h),(4,i)]=some #[g,a,b,c,d,e,f,h,i]:=by refine Qd Tryz.ti196 Tryz.underlying196 rfl (pl:=[(0,1),(1,3),(4,3),(7,1),(8,1)]) (by simp [Tryz.ti195,Tryz.ti3,Tryz.ti61];try decide) ?_;simp [Instr.fill,Zr j,Zr k,Zr l,show(Value.agg #[a,b,c]).cells=#[a,b,c]from rfl,show(Value.agg #[d,e,f]).cells=#[d,e,f]from rfl,show(Value.agg #[.nilFunc,.int .i64 0,.int .i64 0,.int .i64 0,.int .i64 0,.int .i64 0,.int .i64 0,.int .i64 0,.int .i64 0]).cells=#[.nilFunc,.int .i64 0,.int .i64 0,.int .i64 0,.int .i64 0,.int .i64 0,.int .i64 0,.int .i64 0,.int .i64 0]from rfl]
end Go.Sky
theorem Go.Proofs.Tryz.ti228:Go.Proofs.Tryz.prog.info? 228=some Go.Proofs.Tryz.t228:=Go.Sky.O6
theorem Go.Proofs.Tryz.ti225:Go.Proofs.Tryz.prog.info? 225=some Go.Proofs.Tryz.t225:=Go.Sky.O6
namespace Go.Sky
open Go.Proofs
def Kz{a b:Value}(c:a.oneCell'=true)(d:b.oneCell'=true):Tryz.prog.built 228 [(0,a),(1,b)]=some #[a,b]:=by refine Qd Tryz.ti228 Tryz.underlying228 rfl (pl:=[(0,1),(1,1)]) (by simp [Tryz.ti225,Tryz.ti4];try decide) ?_;simp [Instr.fill,Zr c,Zr d,show(Value.agg #[.bool false,.slice none 0 0]).cells=#[.bool false,.slice none 0 0]from rfl]
def Zxh:Tryz.prog.built 259 []=some #[.bool false,.string ⟨#[]⟩,.bool false,.string ⟨#[]⟩]:=by refine Qd Tryz.ti259 Tryz.underlying259 rfl (pl:=[(0,2),(2,2)]) (by simp [Tryz.ti144];try decide) ?_;simp [Instr.fill,show(Value.agg #[.bool false,.string ⟨#[]⟩,.bool false,.string ⟨#[]⟩]).cells=#[.bool false,.string ⟨#[]⟩,.bool false,.string ⟨#[]⟩]from rfl]
def Zh4{a b c d:Value} : Tryz.prog.built 259 [(0,.agg #[a,b]),(1,.agg #[c,d])]=some #[a,b,c,d]:=by refine Qd Tryz.ti259 Tryz.underlying259 rfl (pl:=[(0,2),(2,2)]) (by simp [Tryz.ti144];try decide) ?_;simp [Instr.fill,show(Value.agg #[a,b]).cells=#[a,b]from rfl,show(Value.agg #[c,d]).cells=#[c,d]from rfl,show(Value.agg #[.bool false,.string ⟨#[]⟩,.bool false,.string ⟨#[]⟩]).cells=#[.bool false,.string ⟨#[]⟩,.bool false,.string ⟨#[]⟩]from rfl]
end Go.Sky
theorem Go.Proofs.Tryz.ti291:Go.Proofs.Tryz.prog.info? 291=some Go.Proofs.Tryz.t291:=Go.Sky.O6
namespace Go.Sky
open Go.Proofs
def Ygl{a b c d:Value}(e:a.oneCell'=true)(f:b.oneCell'=true)(g:c.oneCell'=true)(h:d.oneCell'=true):Tryz.prog.built 291 [(0,a),(1,b),(2,c),(3,d)]=some #[a,b,c,d]:=by refine Qd Tryz.ti291 Tryz.underlying291 rfl (pl:=[(0,1),(1,1),(2,1),(3,1)]) (by simp [Tryz.ti3];try decide) ?_;simp [Instr.fill,Zr e,Zr f,Zr g,Zr h,show(Value.agg #[.int .i64 0,.int .i64 0,.int .i64 0,.int .i64 0]).cells=#[.int .i64 0,.int .i64 0,.int .i64 0,.int .i64 0]from rfl]
end Go.Sky
theorem Go.Proofs.Tryz.ti320:Go.Proofs.Tryz.prog.info? 320=some Go.Proofs.Tryz.t320:=Go.Sky.O6
namespace Go.Sky
open Go.Proofs
def Yd4{a b c d:Value} : Tryz.prog.built 320 [(0,.agg #[a,b]),(1,.agg #[c,d])]=some #[a,b,c,d]:=by refine Qd Tryz.ti320 Tryz.underlying320 rfl (pl:=[(0,2),(2,2)]) (by simp [Tryz.ti167];try decide) ?_;simp [Instr.fill,show(Value.agg #[a,b]).cells=#[a,b]from rfl,show(Value.agg #[c,d]).cells=#[c,d]from rfl,show(Value.agg #[.bool false,.slice none 0 0,.bool false,.slice none 0 0]).cells=#[.bool false,.slice none 0 0,.bool false,.slice none 0 0]from rfl]
end Go.Sky
theorem Go.Proofs.Tryz.ti342:Go.Proofs.Tryz.prog.info? 342=some Go.Proofs.Tryz.t342:=Go.Sky.O6
namespace Go.Sky
open Go.Proofs
def Yt6{a b c d e f g h:Value} : Tryz.prog.built 342 [(0,.agg #[a,b,c,d]),(1,.agg #[e,f,g,h])]=some #[a,b,c,d,e,f,g,h]:=by refine Qd Tryz.ti342 Tryz.underlying342 rfl (pl:=[(0,4),(4,4)]) (by simp [Tryz.ti259];try decide) ?_;simp [Instr.fill,show(Value.agg #[a,b,c,d]).cells=#[a,b,c,d]from rfl,show(Value.agg #[e,f,g,h]).cells=#[e,f,g,h]from rfl,show(Value.agg #[.bool false,.string ⟨#[]⟩,.bool false,.string ⟨#[]⟩,.bool false,.string ⟨#[]⟩,.bool false,.string ⟨#[]⟩]).cells=#[.bool false,.string ⟨#[]⟩,.bool false,.string ⟨#[]⟩,.bool false,.string ⟨#[]⟩,.bool false,.string ⟨#[]⟩]from rfl]
end Go.Sky
theorem Go.Proofs.Tryz.ti372:Go.Proofs.Tryz.prog.info? 372=some Go.Proofs.Tryz.t372:=Go.Sky.O6
theorem Go.Proofs.Tryz.ti28:Go.Proofs.Tryz.prog.info? 28=some Go.Proofs.Tryz.t28:=Go.Sky.O6
namespace Go.Sky
open Go.Proofs
def Yd3{a b:Value}(c:a.oneCell'=true)(d:b.oneCell'=true):Tryz.prog.built 372 [(0,a),(1,b)]=some #[a,b]:=by refine Qd Tryz.ti372 Tryz.underlying372 rfl (pl:=[(0,1),(1,1)]) (by simp [Tryz.ti28,Tryz.ti4];try decide) ?_;simp [Instr.fill,Zr c,Zr d,show(Value.agg #[.bool false,.int .i64 0]).cells=#[.bool false,.int .i64 0]from rfl]
end Go.Sky
theorem Go.Proofs.Tryz.ti408:Go.Proofs.Tryz.prog.info? 408=some Go.Proofs.Tryz.t408:=Go.Sky.O6
namespace Go.Sky
open Go.Proofs
variable{N:Nat}{sc:Nat->Prop}{o:Oper}{env:Px}{r:Value}{t:TypeId}
theorem Zn9{a b c:Value}(d:a.oneCell'=true)(e:b.oneCell'=true)(f:c.oneCell'=true):Tryz.prog.built 408 [(0,a),(1,b),(2,c)]=some #[a,b,c]:=by refine Qd Tryz.ti408 Tryz.underlying408 rfl (pl:=[(0,1),(1,1),(2,1)]) (by simp [Tryz.ti25,Tryz.ti3];try decide) ?_;simp [Instr.fill,Zr d,Zr e,Zr f,show(Value.agg #[.slice none 0 0,.slice none 0 0,.int .i64 0]).cells=#[.slice none 0 0,.slice none 0 0,.int .i64 0]from rfl]
def J{α:Sort _}{a:α} : a=a:=rfl
abbrev Xp (P:Program) (f:FuncId) (a:Array Value) (p:List Pc) (v:Value):Prop:=Cal P f a p false (G:=Unit) (λ_=>True) (λ_=>v) (λ_=>[])
abbrev rX (x y:Int):Value:= .agg #[.bool (decide (x<0)),.string (Qy x.natAbs),.bool (decide (y<0)),.string (Qy y.natAbs)]
def vB{a b:Bool}(h:a=b):Value.bool a=Value.bool b:=aD _ h
def dF{P:Program}{H:Hp}(h:Mr P N sc o env H r)(e:r= .bool false):Mr P N sc o env H (.bool false):=Xf _ h e
def dT{P:Program}{H:Hp}(h:Mr P N sc o env H r)(e:r= .bool true):Mr P N sc o env H (.bool true):=Xf _ h e
def K1{t0:Sort _}{a:t0} : a=a/\True:=⟨rfl,aA⟩
def K2{t0:Sort _}{a:t0}{t1:Sort _}{b:t1} : a=a/\b=b/\True:=⟨rfl,rfl,aA⟩
def K3{t0:Sort _}{a:t0}{t1:Sort _}{b:t1}{t2:Sort _}{c:t2} : a=a/\b=b/\c=c/\True:=⟨rfl,rfl,rfl,aA⟩
def K4{t0:Sort _}{a:t0}{t1:Sort _}{b:t1}{t2:Sort _}{c:t2}{t3:Sort _}{d:t3} : a=a/\b=b/\c=c/\d=d/\True:=⟨rfl,rfl,rfl,rfl,aA⟩
def K6{t0:Sort _}{a:t0}{t1:Sort _}{b:t1}{t2:Sort _}{c:t2}{t3:Sort _}{d:t3}{t4:Sort _}{e:t4}{t5:Sort _}{f:t5} : a=a/\b=b/\c=c/\d=d/\e=e/\f=f/\True:=⟨rfl,rfl,rfl,rfl,rfl,rfl,aA⟩
def K8{t0:Sort _}{a:t0}{t1:Sort _}{b:t1}{t2:Sort _}{c:t2}{t3:Sort _}{d:t3}{t4:Sort _}{e:t4}{t5:Sort _}{f:t5}{t6:Sort _}{g:t6}{t7:Sort _}{h:t7} : a=a/\b=b/\c=c/\d=d/\e=e/\f=f/\g=g/\h=h/\True:=⟨rfl,rfl,rfl,rfl,rfl,rfl,rfl,rfl,aA⟩
def K10{t0:Sort _}{a:t0}{t1:Sort _}{b:t1}{t2:Sort _}{c:t2}{t3:Sort _}{d:t3}{t4:Sort _}{e:t4}{t5:Sort _}{f:t5}{t6:Sort _}{g:t6}{t7:Sort _}{h:t7}{t8:Sort _}{i:t8}{t9:Sort _}{j:t9} : a=a/\b=b/\c=c/\d=d/\e=e/\f=f/\g=g/\h=h/\i=i/\j=j/\True:=⟨rfl,rfl,rfl,rfl,rfl,rfl,rfl,rfl,rfl,rfl,aA⟩
def K12{t0:Sort _}{c:t0}{t1:Sort _}{d:t1}{t2:Sort _}{e:t2}{t3:Sort _}{f:t3}{t4:Sort _}{g:t4}{t5:Sort _}{h:t5}{t6:Sort _}{i:t6}{t7:Sort _}{j:t7}{t8:Sort _}{k:t8}{t9:Sort _}{l:t9}{t10:Sort _}{a:t10}{t11:Sort _}{b:t11} : c=c/\d=d/\e=e/\f=f/\g=g/\h=h/\i=i/\j=j/\k=k/\l=l/\a=a/\b=b/\True:=⟨rfl,rfl,rfl,rfl,rfl,rfl,rfl,rfl,rfl,rfl,rfl,rfl,aA⟩
def Lz:=@Go.Proofs.Tryz.call169
def iA3:=@Go.Proofs.Tryz.isAgg3
def Ow:=@Go.Proofs.Tryz.sizeOf116
def Ov:=@Go.Proofs.Tryz.sizeOf144
def Fb:=@Go.Proofs.Tryz.sizeOf167
def Kt:=@Go.Proofs.Tryz.sizeOf222
def Zcx:=@Go.Proofs.Tryz.sizeOf25
def Zof:=@Go.Proofs.Tryz.sizeOf27
def Lm:=@Go.Proofs.Tryz.sizeOf3
def Ztm:=@Go.Proofs.Tryz.sizeOf36
def zT61:=@Go.Proofs.Tryz.sizeOf61
def Zac:=@Go.Proofs.Tryz.underlying106
def Hf:=@Go.Proofs.Tryz.underlying116
def Yab:=@Go.Proofs.Tryz.underlying139
def Pw:=@Go.Proofs.Tryz.underlying140
def Zoz:=@Go.Proofs.Tryz.underlying151
def Zez:=@Go.Proofs.Tryz.underlying155
def Za9:=@Go.Proofs.Tryz.underlying165
def Yg4:=@Go.Proofs.Tryz.underlying22
def Za8:=@Go.Proofs.Tryz.underlying222
def Oi:=@Go.Proofs.Tryz.underlying225
def On:=@Go.Proofs.Tryz.underlying240
def Qi:=@Go.Proofs.Tryz.underlying25
def Zgc:=@Go.Proofs.Tryz.underlying27
def uT3:=@Go.Proofs.Tryz.underlying3
def Za7:=@Go.Proofs.Tryz.underlying313
def Zoy:=@Go.Proofs.Tryz.underlying334
def Ny:=@Go.Proofs.Tryz.underlying36
def Zlm:=@Go.Proofs.Tryz.underlying368
def Zox:=@Go.Proofs.Tryz.underlying369
def Zll:=@Go.Proofs.Tryz.underlying38
def Zjf:=@Go.Proofs.Tryz.underlying380
def uT5:=@Go.Proofs.Tryz.underlying5
def uT9:=@Go.Proofs.Tryz.underlying9
open Go.ChangeShapes Go.WideShapes Go.ChangeAt Go.RowKit Go.Joins Go.Deep
variable {P:Program} {W:World} {H:Type} {enc:TypeId×Value->H}
theorem Zav{α:Type}[Inhabited α]{p:Nat->α->Prop} : ∀n,(∀i,i<n->∃x,p i x)->∃xs:List α,xs.length=n/\∀i x,xs[i]? = some x->p i x
 | 0,_=>⟨[],rfl,λi x h=>by simp at h⟩
 | n+1,h=>by
  obtain⟨xs,c,d⟩:=Zav n λi hi=>h i O;obtain⟨x,e⟩:=h n O;refine⟨xs ++ [x],by simp [c],λi y a=>?_⟩;rcases bA i n with hi|hi
  .rw [eD O]at a;exact d i y a
  .rw [jK O,c]at a;rcases bD (i-n)with b|b
   .rw [b]at a;simp at a;subst a;rw [show i=n by omega];exact e
   .rw [bJ O8]at a;cases a
theorem Zmp{r:Reach}{i:Nat}{e:TypeId}{a:Addr}{g c:Nat}(hs:P.underlying t=some (.slice e))(b:Value.okWide P W r i t (.slice (some a) g c)):a.spot=none/\a.block<W.heap.size:=by
 unfold Value.okWide at b;rw [hs]at b;simp only at b;unfold Cell.okWide at b;rw [hs]at b;simp only at b;unfold Cell.ok at b;rw [hs]at b;simp only at b;obtain⟨_,_,_,j,k,d,f,_⟩:=b;refine⟨j,?_⟩;unfold World.shape? at f;rcases bA a.block W.heap.size with h|h
 .exact h
 .rw [Array.getElem?_eq_none h]at f;simp at f
end Go.Sky
namespace Go.Sky
variable{P:Program}{f:Nat->Int}{args:Array Value}{pre:List Pc}{φ:Value×List (Int×SL)->Prop}{x:Int}{R:List Int}
theorem Cal.toS  {f:FuncId}   {al:Bool} 
  (h:Cal P f args pre al (G:=Value×List (Int×SL)) φ (λr=>r.1) (λr=>[pp r.1 r.2])) :
  Cal P f args pre al (G:=SL×List (Int×SL)) (λr=>φ (Xd r.1,r.2)) (λr=>Xd r.1) (λr=>[pp (Xd r.1) r.2]):=λw l=>by
 refine(h w l).mono λe n ⟨g,k,m,j,hi⟩=>?_;obtain⟨v,z⟩:=g;have b:=(hi _ (cC ..)).1;obtain⟨a,c,d,_⟩:=Zc n b;have i:v=Xd (a,z.length,c):=d;subst i;exact⟨((a,z.length,c),z),k,m,j,hi⟩
abbrev qT (z:SL×List (Int×SL)):Pc:=pp (Xd z.1) z.2
abbrev T0:SL×List (Int×SL):=((none,0,0),[])
abbrev Bo (zs:List (SL×List (Int×SL))):List (List Int):=zs.map λz=>Zb z.2
set_option maxRecDepth 20000
theorem Zs8{K:Nat}{n:Nat}(h:∀i,i<n->bl (f i).natAbs<=K)(a:n<=1023):bl (Yo f n).natAbs<=K+10:=by rw [Qo];have b:=Zzw h;have c:n*(2^K-1)<=1023*(2^K-1):=aM _ a;grind
def Lb(zs:List (Int×SL))(z:Int×SL):Zb (zs ++ [z])=Zb zs ++ [z.1]:=O5
def Yq3(p q:List Int):tzl (mk (max p.length q.length) λt=>cf p t+cf q t)=Gy p q:=rfl
theorem Zyh(p:List Int)(c:Int):tzl (mk p.length λt=>cf p t*c)=Zw p c:=by rw [Zrs p (· * c)];rfl
def Yqy(p q:List Int):tzl (mk (p.length+q.length-1) λt=>Yo (λk=>cf p k*cf q (t-k)) (t+1))=Pf p q:=rfl
theorem Zaf{m:Nat}(h:bl x.natAbs<=m)(n:Nat):bl (x^n).natAbs<=n*m+1:=by
 rcases bD n with a|a
 .rw [a,dD];have:bl (1:Int).natAbs=1:=by rfl
  omega
 .have:=Fp x h n a;omega
theorem Pz(p:List Int)(c:Int):(Zw p c).length<=p.length:=by unfold Zw;grind [Mg,List.length_map]
theorem Ykg(p q:List Int):(Gy p q).length<=max p.length q.length:=by unfold Gy;grind [Mg,Yy]
theorem bl_i1{i:Nat}(h:i<=1000):bl ((i:Int)+1).natAbs<=1000000000:=by have a:=Oh (show((i:Int)+1).natAbs<=1001 by omega);have b:bl 1001<=10:=O3;omega
theorem ev_tb{p:List Int}{y:Int}(hs:Sz 1000000 p)(a:∀k,bl (x^k).natAbs<=k*1000000+1)(b:∀k,bl (y^k).natAbs<=k*1000000+1)(j:p.length<=30)(t:Nat):bl (cf p t*(x^t*y^(p.length-1-t))).natAbs<=100000000:=by
 rcases bA t p.length with h|h
 .have c:=a t;have d:=b (p.length-1-t);have e:=Yu (x^t) (y^(p.length-1-t));have g:=Yu (cf p t) (x^t*y^(p.length-1-t));have i:=hs t;omega
 .rw [Yt h,cJ];decide
theorem Ml{y:Int}(h:y≠0):∀n:Nat,y^n≠0
 | 0=>O5
 | n+1=>by rw [dE];exact bE (Ml h n) h
def shm(q:List Int)(c:Int)(s i:Nat):List Int:=mk (s+i) λt=>if t<s then 0 else c*cf q (t-s)
theorem Zgn(q:List Int)(c:Int)(s:Nat):List.replicate s 0=shm q c s 0:=by rw [Zq2];unfold shm;simp_all [Cx,aP]
theorem Zgo(q:List Int)(c:Int)(s i:Nat):shm q c s i ++ [c*cf q i]=shm q c s (i+1):=by unfold shm;rw [show s+(i+1)=s+i+1 by rfl,Fo,aJ O5,show s+i-s=i by simp]
theorem Zs5(q:List Int)(c:Int)(s t:Nat):cf (shm q c s q.length) t=if s<=t/\t<s+q.length then c*cf q (t-s)else 0:=by unfold shm;rw [Md];omega
section
variable {p q:List Int}
theorem Zfn(c:0<q.length)(b:q.length<=p.length):∀j,j<=p.length-q.length+1->∀t,p.length-j<=t->cf (Pp p q j) t=0
 | 0,_,t,d=>Yt ‹_›
 | j+1,e,t,d=>by
  rcases bA t _ with h|h
  .unfold Pp;rw [Zhz (by exact h)];by_cases a:t=p.length-1-j
   .subst a;rw [show p.length-1-j-(p.length-1-j-(q.length-1))=q.length-1 by omega];omega
   .rw [Zfn c b j O t O,cJ,aJ O];rfl
  grind [Yt,Ob]
theorem Zc6(b:0<q.length)(a:q.length<=p.length){j:Nat} : ∀k,j+k<=p.length-q.length+1->(∀t,p.length-(j+k)<=t->cf (Pp p q j) t=0)->∀t,cf (Pp p q (j+k)) t=cf (Pp p q j) t*cf q (q.length-1)^k
 | 0,_,_,t=>O5
 | k+1,e,c,t=>by
  have d:=Zc6 b a k O (λt g=>c t O);rcases bA t p.length with h|h
  .show cf (Zgr q (Pp p q (j+k)) _) t=_;rw [Zhz (by grind [Ob]),d _]
   all_goals grind
  simp_all [Yt,Ob,cJ]
def Cm(p q R:List Int)(j:Nat):Prop:=Tr R/\∀t,cf R t=cf (Pp p q j) t*cf q (q.length-1)^(p.length-q.length+1-j)
theorem Zq0:Cm p q (Zw p (cf q (q.length-1)^(p.length-q.length+1))) 0:=⟨Ql _ _,λt=>by rw [Ym];rfl⟩
theorem Zya{j:Nat}(l:0<q.length)(i:q.length<=p.length)(a:cf q (q.length-1)≠0)(m:j<=p.length-q.length+1)(h:Cm p q R j)(r:q.length<=R.length):j<=p.length-R.length/\p.length-R.length<=p.length-q.length/\R.length<=p.length/\Cm p q R (p.length-R.length):=by
 have k:=λn=>Ml a n;have b:=h.1.mem (λe=>O4);have c:R.length-1<p.length-j:=by
  rcases bA _ _ with c|c
  .omega
  .rw [h.2,Zfn l i j m _ c]at b;omega
 have g:j<=p.length-R.length:=O;refine⟨g,O,O,h.1,λt=>?_⟩;have o:∀t,p.length-(j+(p.length-R.length-j))<=t->cf (Pp p q j) t=0:=λt s=>by have d:=h.2 t;grind [Yt,Int.mul_eq_zero]
 have d:=Zc6 l i _ O o t;rw [show j+(p.length-R.length-j)=p.length-R.length by omega]at d;rw [d,h.2,eP,<-Int.pow_add];grind
theorem Zjo(a:cf q (q.length-1)≠0)(h:Cm p q R (p.length-R.length))(d:0<q.length)(b:q.length<=R.length)(c:R.length<=p.length):cf R (R.length-1)/cf q (q.length-1)=cf (Pp p q (p.length-R.length)) (R.length-1)*cf q (q.length-1)^(p.length-q.length-(p.length-R.length)):=by rw [h.2,show p.length-q.length+1-(p.length-R.length)=p.length-q.length-(p.length-R.length)+1 by omega,dE,<-eP];simp_all
theorem Zq1(a:cf q (q.length-1)≠0)(h:Cm p q R (p.length-R.length))(d:0<q.length)(b:q.length<=R.length)(c:R.length<=p.length) :
  Cm p q (Bf R (shm q (cf R (R.length-1)/cf q (q.length-1)) (R.length-q.length) q.length)) (p.length-R.length+1):=by
 refine⟨Zad _ _,λt=>?_⟩;rw [Hd,Zs5,Zjo a h d b c,h.2];rcases bA t p.length with e|e
 .show _=cf (Zgr q _ _) t*_;rw [Zhz (by grind [Ob])];rw [show p.length-q.length+1-(p.length-R.length)=p.length-q.length-(p.length-R.length)+1 by omega];split<;>grind
 .rw [Yt (by grind [Ob]),Yt (p:=Pp p q (p.length-R.length+1)) (by grind [Ob]),if_neg O];simp
theorem Zux{j:Nat}(d:0<q.length)(c:q.length<=p.length)(b:cf q (q.length-1)≠0)(i:j<=p.length-q.length+1)(h:Cm p q R j)(g:R.length<q.length):R=Qq p q:=by
 unfold Qq;rw [aJ O];refine h.1.ext (Xy _) λt=>?_;have e:∀t,p.length-(j+(p.length-q.length+1-j))<=t->cf (Pp p q j) t=0:=λt k=>by have a:=h.2 t;grind [Yt,Int.mul_eq_zero,Ml]
 have a:=Zc6 d c _ O e t;rw [show j+(p.length-q.length+1-j)=p.length-q.length+1 by omega]at a;rw [Lg,a,h.2]
theorem Zyb{j:Nat}(g:j<=p.length-q.length+1)(h:Cm p q R j):Sz (Xx p+(p.length-q.length+1)*(Xx q+1)+1) R:=λt=>by
 rw [h.2];have a:=Af p q j t;have b:=Zaf (Pg q (q.length-1)) (p.length-q.length+1-j);have c:=Yu (cf (Pp p q j) t) (cf q (q.length-1)^(p.length-q.length+1-j));have d:(p.length-q.length+1-j)*Xx q<=(p.length-q.length+1-j)*(Xx q+1):=aZ _ O5;have e:j*(Xx q+1)+(p.length-q.length+1-j)*(Xx q+1)=(p.length-q.length+1)*(Xx q+1):=by rw [<-cL];grind
 omega
theorem Zuw{j:Nat}(h:Cm p q R j):R.length<=p.length:=by
 rcases bA p.length R.length with a|a
 .have b:=h.1.mem (λe=>O4);rw [h.2,Yt (by grind [Ob])]at b;omega
 omega
end
end Go.Sky
namespace Go.Sky
variable{c:Int}{p q R:List Int}
section
variable {P:Program} {N:Nat} {sc:Nat->Prop} {env env':Px} {H H':Hp}
theorem Aq(n k:Nat):∀a w,Sat N sc env H a w->Sat N sc env ((n,Nw qI (List.replicate k I0))::H) a w:=λa w hs=>by
 have e:∀z,z∈List.replicate k I0->z=I0:=λz e=>(List.mem_replicate.1 e).2;refine hs.add n _ (λz h=>by rw [e z h];exact Gr 1 _ w) (λj l _ _ Ej b g i=>?_) (λb g=>?_)
 .obtain⟨z,f,d⟩:=g;rw [e z f]at d;cases d.2
 .obtain⟨z,f,d⟩:=g;rw [e z f]at d;cases d.2
end
theorem Yd0{r l:Int}{n A B:Nat}(h:c=r*l^n)(e:bl r.natAbs<=A)(b:bl l.natAbs<=B):bl c.natAbs<=A+(n*B+1):=by
 rw [h];have d:=Yu r (l^n);rcases bD n with a|a
 .rw [a];grind
 .have:=Fp l b n a;omega
theorem Yqp(e:q.length<=R.length)(b:q.length<=p.length)(d:R.length<=p.length) :
  Xx p+(p.length-R.length)*(Xx q+1)+((p.length-q.length-(p.length-R.length))*Xx q+1)<=Xx p+(p.length-q.length+1)*(Xx q+1):=by
 have a:(p.length-R.length)*(Xx q+1)+(p.length-q.length-(p.length-R.length))*(Xx q+1)=(p.length-q.length)*(Xx q+1):=by rw [<-cL];grind
 grind
theorem Yi8{r:Int}(h:c=r*cf q (q.length-1)^(p.length-q.length-(p.length-R.length)))(a:bl r.natAbs<=Xx p+(p.length-R.length)*(Xx q+1))(hs:Sz (Xx q) q)(j:q.length<=R.length)(g:q.length<=p.length)(i:R.length<=p.length)(t:Nat) :
  bl (c*cf q t).natAbs<=Xx p+(p.length-q.length+1)*(Xx q+1)+1:=by
 have b:=Yd0 h a (hs _);have d:=Yu c (cf q t);have e:=hs t;have f:(p.length-R.length)*(Xx q+1)+(p.length-q.length-(p.length-R.length))*(Xx q+1)=(p.length-q.length)*(Xx q+1):=by rw [<-cL];grind
 grind
theorem Zqr{s i n:Nat}(h:∀t,bl (c*cf q t).natAbs<=n):Sz n (shm q c s i):=by
 refine Bn λt _=>?_;split
 .exact aX _
 grind
end Go.Sky
namespace Go.Sky
variable{q p:List Int}{x:Int}{M m i:Nat}{P:Program}{sc:Nat->Prop}{ops:Array Oper}{rest:List (Nat×Nat)}
theorem Ylt(zs:List (Int×SL))(k:Nat)(z:Int×SL):Zb (zs.set k z)=(Zb zs).set k z.1:=by simp [Zb,List.map_set]
theorem Ysv{D:List Int}{k:Nat}(h:k+q.length<=D.length):Bf (tzl D) (tzl (shm q (cf D (k+q.length-1)/cf q (q.length-1)) k q.length))=tzl (Zhn q D k):=by
 refine(Zad _ _).ext (Xy _) λt=>?_;rw [Hd,Lg,Lg,Lg,Zs5];unfold Zhn;rw [Md];by_cases a:t<D.length
 .rw [aP a];rfl
 .rw [aJ a,aJ O,Yt O];rfl
theorem div_c{A:Nat}(c:cf q (q.length-1)≠0)(b:x%cf q (q.length-1)=0)(a:bl x.natAbs<=A)(t:Nat):bl (x/cf q (q.length-1)*cf q t).natAbs<=A+(Xx q+1):=by have d:=Hb (eS b) a;have e:=Yu (x/cf q (q.length-1)) (cf q t);have f:=Pg q t;omega
def Zwn(p q:List Int)(j:Nat):Xr p q (j+1)=Zhn q (Xr p q j) (p.length-q.length-j):=rfl
theorem Ym0{j:Nat}(h:q.length<=p.length)(a:j<=p.length-q.length):Bf (tzl (Xr p q j)) (tzl (shm q (cf (Xr p q j) (p.length-q.length-j+q.length-1)/cf q (q.length-1)) (p.length-q.length-j) q.length))=tzl (Xr p q (j+1)):=by rw [Zwn];exact Ysv (by rw [Fi];omega)
def Ygc{j:Nat}(a:j<p.length-q.length+1):(Zhr p q j).set (p.length-q.length-j) (cf (Xr p q j) (p.length-q.length-j+q.length-1)/cf q (q.length-1))=Zhr p q (j+1):=Zwo a
theorem div_sz{j:Nat}(a:j<=p.length-q.length+1)(b:∀k,p.length-q.length<k+j->k<=p.length-q.length->Mx p q k)(e:Xx p+(p.length-q.length+1)*(Xx q+1)<=M)(t:Nat):bl (cf (Xr p q j) t).natAbs<=M:=by have c:=Zba p q j a b t;have d:j*(Xx q+1)<=(p.length-q.length+1)*(Xx q+1):=aM _ a;omega
theorem Ysu{j:Nat}(e:j<=p.length-q.length)(b:∀k,p.length-q.length<k+j->k<=p.length-q.length->Mx p q k)(d:Xx p+(p.length-q.length+1)*(Xx q+1)<=M)(t:Nat):bl (cf (Xr p q j) t).natAbs+(Xx q+1)<=M:=by have c:=Zba p q j O b t;have a:(j+1)*(Xx q+1)<=(p.length-q.length+1)*(Xx q+1):=aM _ O;rw [dR]at a;omega
theorem Yss(c:Xx p+(p.length-q.length+1)*(Xx q+1)<=M)(a:∀k,k<=p.length-q.length->Mx p q k)(j:Nat):Sz M (Zhr p q j):=by
 refine Bn λt e=>?_;split
 .unfold Zwx dq;have b:=div_sz (p:=p) (q:=q) (j:=p.length-q.length-t) O (λk _ d=>a k d) c (t+q.length-1);exact Hb (eS (a t O)) b
 .simp [Ky]
theorem Yq1(c:p≠[])(a:q.length<=p.length)(d:∀k,k<=p.length-q.length->Mx p q k){n:Nat}(b:n=(tzl (Xr p q (p.length-q.length+1))).length):decide (n=0)=decide (pdv p q):=by
 subst b;refine bB.2 ⟨λh=> .inr ⟨a,d,aC h⟩,λh=>?_⟩;rcases h with h|⟨_,_,h⟩
 .exact absurd h c
 .rw [h];rfl
theorem pdv_no(e:p≠[]){k:Nat}(d:k<=p.length-q.length)(h:¬Mx p q k):decide (pdv p q)=false:=aE λc=>by
 rcases c with a|⟨_,b,_⟩
 .exact e a
 .exact h (b k d)
theorem Yq0(c:p≠[])(h:p.length<q.length):decide (pdv p q)=false:=aE λb=>by
 rcases b with a|⟨d,_,_⟩
 .exact c a
 .omega
def Yqz(a:p=[]):decide (pdv p q)=true:=aH (.inl a)
def Dm(a b:Int):Nat->List Int
 | 0=>[1]
 | i+1=>Pf (Dm a b i) (tzl [a,b])
def Zum(p:List Int)(a b d:Int):Nat->List Int
 | 0=>[]
 | i+1=>Gy (Zum p a b d i) (Zw (Dm a b i) (cf p i*d^(p.length-1-i)))
def hs(f:Nat->PS):Nat->PS
 | 0=>0
 | n+1=>hs f n+f n
theorem Zv7{f g:Nat->PS} : ∀{n:Nat},(∀k,k<n->f k=g k)->hs f n=hs g n
 | 0,_=>rfl
 | n+1,h=>by show hs f n+f n=hs g n+g n;rw [Zv7 λk a=>h k O,h n O]
theorem Zv6(f:Nat->PS):∀n,hs f (n+1)=f 0+hs (λk=>f (k+1)) n
 | 0=>by show(0)+f 0=f 0+0;grind
 | n+1=>by show hs f _+f _=f 0+(hs _ n+f _);rw [Zv6 f n,PS.add_assoc']
theorem Yly(f:Nat->PS)(c:PS):∀n,hs (λk=>f k*c) n=hs f n*c
 | 0=>by show(0)=0*c;rw [PS.zero_mul']
 | n+1=>by show hs _ n+f n*c=(hs f n+f n)*c;rw [Yly f c n,PS.distrib_r]
theorem Zq8(p:List Int):ps (tzl p)=ps p:=PS.ext' λi=>Lg p i
theorem Ytq(a b:Int)(i:Nat):cf [a,b] i=if i=0 then a else if i=1 then b else 0:=by
 rcases i with _|_|i
 all_goals rfl
theorem Zt5{f:Nat->Int} : ∀{n:Nat},(∀k,k<n->f k=0)->Yo f n=0
 | 0,_=>rfl
 | n+1,h=>by rw [Ys,Zt5 λk a=>h k O,h n O];rfl
theorem Ybx(f:PS)(a b:Int)(t:Nat):(f*ps [a,b]).c t=f.c t*a+if t=0 then 0 else f.c (t-1)*b:=by
 rw [PS.mul_c];simp only [Nu,Ytq];rw [Ys,fZ,aP rfl];rcases t with _|t
 .simp [Yo]
 .rw [Ys,show t+1-t=1 by simp,aJ O5,aP rfl,Zt5 λk c=>O4,jM];omega
theorem Yj1:ps [1]=1:=PS.ext' λi=>by
 rcases i with _|i
 all_goals rfl
theorem ps_nil:ps []=0:=PS.ext' λi=>by grind [Nu,PS.zero_c,Yt]
theorem C_c(n:Int)(i:Nat):(PS.C n).c i=if i=0 then n else 0:=by rfl
theorem Ze4(a b:Int)(i:Nat):ps (Dm a b (i+1))=ps (Dm a b i)*ps [a,b]:=by show ps (Pf _ _)=_;rw [Zks,Zq8]
theorem Zq9(p:List Int)(a b d:Int)(j:Nat):ps (Kf p a b d (j+1))=ps (Kf p a b d j)*ps [a,b]+PS.C (cf p (p.length-2-j)*d^(j+1)):=PS.ext' λt=>by
 rw [PS.add_c,Ybx,C_c,Nu,Zp8,Md,Nu,Nu];by_cases h:t<(Kf p a b d j).length+1
 .omega
 .rw [aJ h,Yt O,Yt O,aJ O,aJ O];simp
theorem Ybh(p:List Int)(a b d:Int):∀j,j<=p.length-1->ps (Kf p a b d j)=hs (λk=>PS.C (cf p (p.length-1-j+k)*d^(j-k))*ps (Dm a b k)) (j+1)
 | 0,_=>by
  show _=(0)+PS.C _*ps [1];rw [Yj1,dD,fS,show(0)+PS.C _*1=PS.C _ by rw [PS.mul_one',PS.zero_add']];refine PS.ext' λt=>?_;rcases t with _|t
  all_goals rfl
 | j+1,h=>by
  rw [Zq9,Ybh p a b d j O,<-Yly,Zv6 _ (j+1)];have c:hs (λk=>PS.C (cf p (p.length-1-j+k)*d^(j-k))*ps (Dm a b k)*ps [a,b]) (j+1)=hs (λk=>PS.C (cf p (p.length-1-(j+1)+(k+1))*d^(j+1-(k+1)))*ps (Dm a b (k+1))) _:=Zv7 λk e=>by grind [Ze4,PS.mul_assoc']
  show _+_=PS.C _*ps [1]+_;grind [Yj1,PS.mul_one',PS.add_comm']
theorem Ybg(p:List Int)(a b d:Int):∀n,ps (Zum p a b d n)=hs (λk=>PS.C (cf p k*d^(p.length-1-k))*ps (Dm a b k)) n
 | 0=>ps_nil
 | n+1=>by show ps (Gy _ _)=hs _ n+_;rw [Yqx,Ybg p a b d n,Zip]
def Ypi(p:List Int)(a b d:Int):∀n,Tr (Zum p a b d n)
 | 0=>Tr.nil
 | n+1=>Yae _
theorem Yp9(p:List Int)(a b d:Int):Zum p a b d p.length=Lh p a b d:=by
 unfold Lh;split
 .rename_i h;rw [h];rfl
 .refine(Ypi p a b d _).ps_inj (Xy _) ?_;rw [Zq8,Ybg,Ybh p a b d _ (aF _),show p.length-1+1=p.length by omega];simp
theorem Zik(a b:Int):∀i,(Dm a b i).length<=i+1
 | 0=>aF _
 | i+1=>by have c:=Zik a b i;have d:(tzl [a,b]).length<=2:=Mg _;have e:(Dm a b (i+1)).length<=(Dm a b i).length+(tzl _).length-1:=aB (Mg _) (by rw [Yy];exact aF _);omega
theorem Zl2{a b:Int}{m:Nat}(d:bl a.natAbs<=m)(e:bl b.natAbs<=m):∀i,Sz (i*(m+1)+1) (Dm a b i)
 | 0=>λt=>by
  rcases t with _|t
  .show bl 1<=_;grind [Yn5]
  .show bl (cf [1] _).natAbs<=_;grind [Yt,Ky]
 | i+1=>λt=>by have c:=Zl2 d e i;rw [<-Nu,Ze4,Ybx,Nu,Nu];have f:=c t;have g:=c (t-1);grind [Yu,He,Ky]
theorem Ztd (k:Nat){d:Int}{A:Nat}(c:bl x.natAbs<=A)(b:bl d.natAbs<=m):bl (x*d^k).natAbs<=A+k*m:=by
 have h:=Zh2 0 k (n:=1) (d:=d) (m:=max m 1) c (by grind [Yn5]) O;rcases bD k with a|a
 .grind
 .have e:=Yu x (d^k);have f:=Fp d b k a;omega
theorem Zpd (p:List Int){a b d:Int}(c:bl a.natAbs<=m)(e:bl b.natAbs<=m)(f:bl d.natAbs<=m)(hi:i<p.length)(t:Nat) :
  bl (cf (Zw (Dm a b i) (cf p i*d^(p.length-1-i))) t).natAbs<=Xx p+p.length*(m+1)+1:=by
 rw [Ym];have g:=Yu (cf (Dm a b i) t) (cf p i*d^(p.length-1-i));have h:=Zl2 c e i t;have j:=Ztd (p.length-1-i) (Pg p i) f;have k:i*(m+1)+(p.length-1-i)*(m+1)+(m+1)=p.length*(m+1):=by rw [<-cL,<-dR];grind
 grind
theorem Yau (p:List Int){a b d:Int}{m:Nat}(c:bl a.natAbs<=m)(e:bl b.natAbs<=m)(f:bl d.natAbs<=m):∀i,i<=p.length->Sz (Xx p+p.length*(m+1)+1+i) (Zum p a b d i)
 | 0,_=>Sz.nil _
 | i+1,h=>λt=>by have g:=Yau p c e f i O t;have j:=Zpd p c e f (i:=i) O t;show bl (cf (Gy _ _) t).natAbs<=_;rw [Ck];grind [He]
theorem Zul{p:List Int}{a b d:Int} : ∀i,(Zum p a b d i).length<=i+1
 | 0=>aX _
 | i+1=>by have c:=Ykg (Zum p a b d i) (Zw (Dm a b i) (cf p i*d^(p.length-1-i)));have e:=Zul (p:=p) (a:=a) (b:=b) (d:=d) i;have f:=Zik a b i;have g:(Zw (Dm a b i) (cf p i*d^(p.length-1-i))).length<=(Dm a b i).length:=aB (Mg _) O5;show(Gy _ _).length<=_;omega
abbrev qZ (z:SL×List Int):Pc:=Yl 2 wv (Xd z.1) z.2
def Zmd  {N:Nat}  {M:Nat->Prop} {env:Px} {H:Hp}  {F:Px->Hp->Prop}   {o:Oper} {G:Type} {φ:G->Prop} {a:G->Px} {d:G->Hp} {j e:Nat} {b:Bool} (n:ops[i]? = some o) (k:o.guard=some (j,b)) (l:(ops[j]?).bind (·.dst)=some e) (f:lk env e=some (.bool b)) (c:Nat.blt e N=true) (r:T P N sc M o env H φ a d)
  (h:∀g,φ g->LD P N sc M ops F rest (a g) (d g)) :
  LD P N sc M ops F ((i,1)::rest) env H:=r1g r n k l f c h
end Go.Sky

