/- Rules, arithmetic and contracts: part 3. No conditions but those that each theorem names. -/
import Derived.Test.YthennaflbbajkaaGreatAk01
import Derived.Test.YthennaflbbajkaaGreatProg
import Derived.Test.YthennaflbbajkaaGreatRows
import Derived.WalkKit
import Derived.ProofKit
import Derived.OpenShut
import Derived.ShutString
import Derived.ChangeOld
import Derived.Deep.Slices
import Derived.Lib.SmallJoins
set_option linter.all false
namespace Go.Sky
variable{k i B t top:Nat}{f:Nat->Int}{q r c R:List Int}{a b:Int}
def acc(p q:List Int)(i t:Nat):Int:=Ye (λk=>if k<=t then cf p k*cf q (t-k)else 0) i
def Zbp(p q:List Int)(i j t:Nat):Int:=acc p q i t+if i<=t/\t<i+j then cf p i*cf q (t-i)else 0
theorem Yel(p q:List Int)(i:Nat):Zbp p q i 0=acc p q i:=nM λt=>by unfold Zbp;omega
theorem Yl2(p q:List Int)(i:Nat):Zbp p q i q.length=acc p q (i+1):=nM λt=>by
 unfold Zbp acc;rw [Yi];by_cases h:i<=t
 .rw [aO h];by_cases d:t<i+q.length
  .omega
  .rw [aF (λh=>d h.2),Yx (p:=q) O1,eI]
 omega
theorem Zly{L:Nat}{g:Nat->Int}(d:k<L)(h:∀t,t<L->t≠k->f t=g t){x:Int}(j:x=g k):(mk L f).set k x=mk L g:=Ia (by simp [Yz]) λt e=>by simp_all [cH,Yz,Zm1,Ih,aO,aF]
theorem Yl1{p:List Int}{L j:Nat}(h:i+j<L):(mk L (Zbp p q i j)).set (i+j) (Zbp p q i j (i+j)+cf p i*cf q j)=mk L (Zbp p q i (j+1)):=by
 refine Zly h (λt e d=>?_) ?_
 .unfold Zbp;omega
 .unfold Zbp;simp
theorem Zwd(p q:List Int)(t:Nat):acc p q p.length t=(ps p*ps q).c t:=by
 unfold acc;have d:Ye _ (max (t+1) p.length)=Ye (λk=>if k<=t then cf p k*cf q (t-k)else 0) p.length:=
  Zd0 O1 λk d _=>by simp_all [Yx,cQ]
 have e:Ye (λk=>if k<=t then cf p k*cf q (t-k)else 0) (max (t+1) p.length)=Ye _ (t+1):=
  Zd0 O1 λk d _=>O1
 rw [<-d,e];exact Xl λk g=>by rw [aO O1];rfl
theorem Zw3(L:Nat):List.replicate L 0=mk L λ_=>0:=by rw [Ae L λ_=>0];rfl
theorem Yg8(p q:List Int):tzl (mk (p.length+q.length-1) (acc p q p.length))=Pa p q:=by unfold Pa;grind [Aq,Zwd]
theorem Yq2{p:List Int}{A j:Nat}(d:Sz A p)(e:Sz B q)(hi:i<31):bl (Zbp p q i j t).natAbs<=A+B+5:=by
 have h:Zbp p q i j t=Ye (λk=>if k<i then(if k<=t then cf p k*cf q (t-k)else 0)else if i<=t/\t<i+j then cf p i*cf q (t-i)else 0) (i+1):=by rw [Yi];unfold Zbp acc;simp_all [Xl,aO]
 rw [h];have l:∀a b,bl (cf p a*cf q b).natAbs<=A+B:=λa b=>by have:=Xz (cf p a) (cf q b);have:=d a;have:=e b;omega
 refine Zj7 (λk g=>?_) O1;grind [Fa]
theorem bl_acc{p:List Int}{A:Nat}(d:Sz A p)(e:Sz B q)(hi:i<=31):bl (acc p q i t).natAbs<=A+B+5:=by
 refine Zj7 (λk g=>?_) hi;split
 .have:=Xz (cf p k) (cf q (t-k));have:=d k;have:=e (t-k);omega
 grind [Fa]
def Zao(p q:List Int):Prop:=p≠[]/\q≠[]/\(24<p.length+q.length-2\/65536<Pd p+Pd q+5)
instance (p q:List Int):Decidable (Zao p q):=by unfold Zao;infer_instance
theorem Zeg{L:Nat}(h:i<L):(mk L f).getD i 0=f i:=by have:=Ih L f i;rw [aO h]at this;exact this
def Yp3(p q:List Int):Bool:=decide (q≠[]) && decide (p.length<q.length)
def Bv(p q:List Int):Int:=if q.length=0 then 3 else if p.length<q.length then 0 else if 65536<Pd p+(p.length-q.length+1)*(Pd q+1)then 7 else 0
def Zk5(q r:List Int)(top:Nat):List Int:=
 mk r.length λt=>cf r t*cf q (q.length-1)-if top-(q.length-1)<=t/\t<top-(q.length-1)+q.length then cf r top*cf q (t-(top-(q.length-1)))else 0
def Oe(p q:List Int):Nat->List Int
 | 0=>p
 | j+1=>Zk5 q (Oe p q j) (p.length-1-j)
theorem Zg3(q r:List Int)(top:Nat):(Zk5 q r top).length=r.length:=Yz _ _
theorem Kj(p q:List Int):∀j,(Oe p q j).length=p.length
 | 0=>rfl
 | j+1=>by unfold Oe;rw [Zg3,Kj p q j]
def Qw(p q:List Int):List Int:=if p.length<q.length then p else tzl (Oe p q (p.length-q.length+1))
theorem Zvz(d:t<r.length):cf (Zk5 q r top) t=cf r t*cf q (q.length-1)-if top-(q.length-1)<=t/\t<top-(q.length-1)+q.length then cf r top*cf q (t-(top-(q.length-1)))else 0:=by unfold Zk5;rw [Ih,aO d]
theorem Yb8{c d:Int}{A:Nat}(e:bl a.natAbs<=A)(g:bl b.natAbs<=B)(h:bl c.natAbs<=A)(j:bl d.natAbs<=B):bl (a*b-c*d).natAbs<=A+(B+1):=by grind [Xz,Zj8]
theorem Yff{A:Nat}(e:Sz A r)(d:Sz B q):Sz (A+(B+1)) (Zk5 q r top):=by
 refine Zgy λt g=>?_;split
 .exact Yb8 (e t) (d _) (e _) (d _)
 .rw [iP];have:=Xz (cf r t) (cf q (q.length-1));have:=e t;have:=d (q.length-1);omega
theorem Zhu(p q:List Int):∀j,Sz (Pd p+j*(Pd q+1)) (Oe p q j)
 | 0=>by rw [iM];exact Kz p
 | j+1=>by rw [fC,<-iX];exact Yff (Zhu p q j) (Kz q)
def dq(q r:List Int)(k:Nat):Int:=cf r (k+q.length-1)/cf q (q.length-1)
def Zom(q r:List Int)(k:Nat):List Int:=mk r.length λt=>cf r t-if k<=t/\t<k+q.length then dq q r k*cf q (t-k)else 0
def Pi(p q:List Int):Nat->List Int
 | 0=>p
 | j+1=>Zom q (Pi p q j) (p.length-q.length-j)
theorem Za9(p q:List Int):∀j,(Pi p q j).length=p.length
 | 0=>rfl
 | j+1=>by unfold Pi Zom;rw [Yz,Za9 p q j]
def Ybo(p q:List Int)(k:Nat):Int:=dq q (Pi p q (p.length-q.length-k)) k
def Hl(p q:List Int)(k:Nat):Prop:=cf (Pi p q (p.length-q.length-k)) (k+q.length-1)%cf q (q.length-1)=0
def Yg3(p q:List Int):List Int:=tzl (mk (p.length-q.length+1) (Ybo p q))
def pdivs(p q:List Int):Prop:=p=[]\/(q.length<=p.length/\(∀k,k<=p.length-q.length->Hl p q k)/\∀i,cf (Pi p q (p.length-q.length+1)) i=0)
theorem Yfg{A:Nat}(d:Sz A r)(g:Sz B q)(e:cf r (k+q.length-1)%cf q (q.length-1)=0):Sz (A+(B+1)) (Zom q r k):=by
 refine Zgy λt m=>?_;split
 .have h:bl (dq q r k).natAbs<=A:=Zcg (kZ e) (d _);have j:=Xz (dq q r k) (cf q (t-k));have l:=Zj8 (cf r t) (dq q r k*cf q (t-k));have:=d t;have:=g (t-k);omega
 .rw [iP];have:=d t;omega
theorem Zhw(p q:List Int):∀j,j<=p.length-q.length+1->(∀k,p.length-q.length<k+j->k<=p.length-q.length->Hl p q k)->Sz (Pd p+j*(Pd q+1)) (Pi p q j)
 | 0,_,_=>by rw [iM];exact Kz p
 | j+1,g,h=>by rw [fC,<-iX];refine Yfg (Zhw p q j O1 λk e d=>h k O1 d) (Kz q) ?_;have:=h (p.length-q.length-j) O1 O1;unfold Hl at this;rw [show p.length-q.length-(p.length-q.length-j)=j by omega]at this;exact this
theorem Yem(p q:List Int)(i j:Nat):Zbp p q i (j+1) (i+j)=Zbp p q i j (i+j)+cf p i*cf q j:=by unfold Zbp;simp
theorem Zgp{p:List Int}(h:p.length=0\/q.length=0):Pa p q=[]:=by
 refine(Ik _).2 λi=>?_;rw [Ih];split
 .refine Es λk _=>?_;rcases h with h|h
  all_goals simp_all [Lo,Yx,cQ,eI]
 rfl
def Zlw(R:List Int)(l:Int)(i:Nat):List Int:=mk R.length λt=>if t<i then cf R t*l else cf R t
def Zpd(q R:List Int)(l c:Int)(s i:Nat):List Int:=mk R.length λt=>cf R t*l-if s<=t/\t<s+i then c*cf q (t-s)else 0
def Zuh(R:List Int)(l:Int)(i:Nat):(Zlw R l i).length=R.length:=Yz _ _
def Zug(q R:List Int)(l c:Int)(s i:Nat):(Zpd q R l c s i).length=R.length:=Yz _ _
theorem Ydj(R:List Int)(l:Int):Zlw R l 0=R:=by unfold Zlw;simp [Eq.trans,Aq,Zgz,aF]
theorem Yh3{l:Int}(h:i<R.length):(Zlw R l i).getD i 0=cf R i:=by unfold Zlw;rw [Zeg h,aF O8]
theorem Yh2{l:Int}(h:i<R.length):(Zlw R l i).set i (cf R i*l)=Zlw R l (i+1):=by refine Zly h (λt e d=>?_) O1;omega
theorem Ycs(q R:List Int)(l c:Int)(s:Nat):Zlw R l R.length=Zpd q R l c s 0:=by unfold Zlw Zpd;simp_all [Aq,aO,aF,iP]
theorem Yfk{l c:Int}{s:Nat}(h:s+i<R.length):(Zpd q R l c s i).getD (s+i) 0=cf R (s+i)*l:=by unfold Zpd;rw [Zeg h,aF O8,iP]
theorem Yfj{l c:Int}{s:Nat}(h:s+i<R.length):(Zpd q R l c s i).set (s+i) (cf R (s+i)*l-c*cf q i)=Zpd q R l c s (i+1):=by refine Zly h (λt e d=>?_) O8;omega
theorem rest_b{p:List Int}{j:Nat}(g:Pd p+(p.length-q.length+1)*(Pd q+1)<=65536)(h:j<p.length-q.length+1) :
  (∀t,bl (cf (Oe p q j) t).natAbs<=65536)/\(∀t i,bl (cf (Oe p q j) t*cf q i).natAbs<=65536)/\(∀t i t2 i2,bl (cf (Oe p q j) t*cf q i-cf (Oe p q j) t2*cf q i2).natAbs<=65536):=by
 have d:=Zhu p q j;have e:j*(Pd q+1)+(Pd q+1)<=(p.length-q.length+1)*(Pd q+1):=by rw [<-fC];exact aQ _ O1
 refine⟨λt=>by have:=d t;omega,λt i=>?_,λt i t2 i2=>?_⟩
 .have:=d t;have:=Kz q i;grind [Xz]
 .have:=Yb8 (d t) (Kz q i) (d t2) (Kz q i2);omega
def Zsz{p:List Int}(d:Pd p+(p.length-q.length+1)*(Pd q+1)<=65536):Sz 65536 (Oe p q (p.length-q.length+1)):=(Zhu p q _).mono d
theorem Zeh{p:List Int}(h:Bv p q=0):q.length≠0/\(q.length<=p.length->Pd p+(p.length-q.length+1)*(Pd q+1)<=65536):=by unfold Bv at h;omega
theorem Zhe{p:List Int}(h:q.length≠0):Yp3 p q=decide (p.length<q.length):=by unfold Yp3;grind
def Zrk(q R:List Int)(c:Int)(k i:Nat):List Int:=mk R.length λt=>cf R t-if k<=t/\t<k+i then c*cf q (t-k)else 0
def Zui(q R:List Int)(c:Int)(k i:Nat):(Zrk q R c k i).length=R.length:=Yz _ _
theorem Yd9(q R:List Int)(c:Int)(k:Nat):R=Zrk q R c k 0:=by unfold Zrk;simp [Eq.trans,Zgz,Aq,aF,iP]
theorem Yj8{c:Int}(h:k+i<R.length):(Zrk q R c k i).getD (k+i) 0=cf R (k+i):=by unfold Zrk;rw [Zeg h,aF O8,iP]
theorem Yj7{c:Int}(h:k+i<R.length):(Zrk q R c k i).set (k+i) (cf R (k+i)-c*cf q i)=Zrk q R c k (i+1):=by refine Zly h (λt e d=>?_) O8;omega
def Zni(p q:List Int)(j:Nat):List Int:=mk (p.length-q.length+1) λt=>if p.length-q.length<t+j then Ybo p q t else 0
theorem Zdb(p q:List Int)(j:Nat):(Zni p q j).length=p.length-q.length+1:=Yz _ _
theorem Yeb(p q:List Int):List.replicate (p.length-q.length+1) 0=Zni p q 0:=by rw [Zw3];exact Aq λi hi=>O1
theorem Ykc{p:List Int}{j:Nat}(e:j<p.length-q.length+1):(Zni p q j).set (p.length-q.length-j) (dq q (Pi p q j) (p.length-q.length-j))=Zni p q (j+1):=by
 refine Zly O1 (λt g d=>?_) ?_
 .omega
 .unfold Ybo;grind
theorem Zhd(p q:List Int):tzl (Zni p q (p.length-q.length+1))=Yg3 p q:=by unfold Zni Yg3;grind
def pdv(p q:List Int):Prop:=p=[]\/(q.length<=p.length/\(∀k,k<=p.length-q.length->Hl p q k)/\tzl (Pi p q (p.length-q.length+1))=[])
instance (p q:List Int) (k:Nat):Decidable (Hl p q k):=by unfold Hl;infer_instance
instance (p q:List Int):Decidable (pdv p q):=by unfold pdv;infer_instance
theorem div_b{p:List Int}{j:Nat}(n:Pd p+(p.length-q.length+1)*(Pd q+1)<=65536)(o:j<p.length-q.length+1)(h:∀k,p.length-q.length<k+j->k<=p.length-q.length->Hl p q k) :
  (∀t,bl (cf (Pi p q j) t).natAbs<=65536)/\(Hl p q (p.length-q.length-j)->bl (dq q (Pi p q j) (p.length-q.length-j)).natAbs<=65536/\(∀i,bl (dq q (Pi p q j) (p.length-q.length-j)*cf q i).natAbs<=65536)/\
   ∀t i,bl (cf (Pi p q j) t-dq q (Pi p q j) (p.length-q.length-j)*cf q i).natAbs<=65536):=by
 have d:=Zhw p q j O1 h;have l:j*(Pd q+1)+(Pd q+1)<=(p.length-q.length+1)*(Pd q+1):=by rw [<-fC];exact aQ _ O1
 refine⟨λt=>by have:=d t;omega,λe=>?_⟩;unfold Hl at e;rw [show p.length-q.length-(p.length-q.length-j)=j by omega]at e;have m:bl (dq q _ _).natAbs<=Pd p+j*(Pd q+1):=Zcg (kZ e) (d _);have g:∀i,bl (dq q (Pi p q j) (p.length-q.length-j)*cf q i).natAbs<=Pd p+j*(Pd q+1)+Pd q:=λi=>by have:=Xz (dq q (Pi p q j) (p.length-q.length-j)) (cf q i);have:=Kz q i;omega
 refine⟨O1,λi=>O5,λt i=>?_⟩;have:=Zj8 (cf (Pi p q j) t) (dq q (Pi p q j) (p.length-q.length-j)*cf q i);have:=g i;have:=d t;omega
theorem Zy7{p:List Int}(g:Pd p+(p.length-q.length+1)*(Pd q+1)<=65536)(e:∀k,k<=p.length-q.length->Hl p q k){j:Nat}:Sz 65536 (Zni p q j):=by
 refine Zgy λt l=>?_;split
 .have d:=(div_b g (j:=p.length-q.length-t) O1 (λk _ h=>e k h)).2;rw [show p.length-q.length-(p.length-q.length-t)=t by omega]at d;exact(d (e t O1)).1
 decide
def Yfh{p:List Int}(d:Pd p+(p.length-q.length+1)*(Pd q+1)<=65536)(g:∀k,k<=p.length-q.length->Hl p q k):Sz 65536 (Pi p q (p.length-q.length+1)):=
 (Zhw p q _ (aI _) λk _ e=>g k e).mono d
def Kp(p:List Int)(a b d:Int):Nat->List Int
 | 0=>[cf p (p.length-1)]
 | j+1=>mk ((Kp p a b d j).length+1) λt=>cf (Kp p a b d j) t*a+(if t=0 then cf p (p.length-2-j)*d^(j+1)else cf (Kp p a b d j) (t-1)*b)
def Ch(p:List Int)(a b d:Int):Kp p a b d 0=[cf p (p.length-1)]:=rfl
def Yeg(p:List Int)(a b d:Int)(j:Nat):Kp p a b d (j+1)=mk ((Kp p a b d j).length+1) (λt=>cf (Kp p a b d j) t*a+(if t=0 then cf p (p.length-2-j)*d^(j+1)else cf (Kp p a b d j) (t-1)*b)):=rfl
theorem Zdc(p:List Int)(a b d:Int):∀j,(Kp p a b d j).length=j+1
 | 0=>rfl
 | j+1=>by unfold Kp;rw [Yz,Zdc p a b d j]
def Ky(p:List Int)(a b d:Int):List Int:=if p.length=0 then []else tzl (Kp p a b d (p.length-1))
def Zmu(p:List Int)(a b d:Int):Prop:=p≠[]/\65536<Pd p+(p.length-1)*(Pd [a,b,d]+1)+8
instance (p:List Int) (a b d:Int):Decidable (Zmu p a b d):=by unfold Zmu;infer_instance
def Hs(p q:List Int):List Int:=if p=[]then []else Yg3 p q
def Ztt{p:List Int}(h:p≠[]):Hs p q=Yg3 p q:=aF h
theorem Zvc{p:List Int}{j:Nat}(d:j<=p.length-q.length):Hl p q (p.length-q.length-j)↔cf (Pi p q j) (p.length-q.length-j+q.length-1)%cf q (q.length-1)=0:=by unfold Hl;grind
def Zvy{x y:Int}(e:y≠0)(d:bl y.natAbs<=65536):Aw (x%y)=x%y:=Nr (aB (Yca x y e) d)
def cnx(c:List Int)(a b:Int)(i:Nat):List Int:=mk (c.length+1) λt=>if t<i then cf c t*a+(if t=0 then 0 else cf c (t-1)*b)else if t=i/\0<i then cf c (t-1)*b else 0
theorem Fz(c:List Int)(a b:Int)(i:Nat):(cnx c a b i).length=c.length+1:=Yz _ _
theorem Yk1(c:List Int)(a b:Int):List.replicate (c.length+1) 0=cnx c a b 0:=by rw [Zw3];unfold cnx;simp
theorem Ybx(h:i<c.length):(cnx c a b i).getD i 0=if i=0 then 0 else cf c (i-1)*b:=by unfold cnx;rw [Zeg O1];omega
theorem Yqg(h:i<c.length):((cnx c a b i).set i ((cnx c a b i).getD i 0+cf c i*a)).set (i+1) (cf c i*b)=cnx c a b (i+1):=Ia (by simp [Fz]) λt d=>by rw [Zm1 _ _ _ _ (by grind [List.length_set,Fz]),Zm1 _ _ _ _ (by grind [Fz]),Ybx h];unfold cnx;rw [Ih,Ih];grind
theorem Zvw(h:0<c.length):(cnx c a b c.length).getD 0 0=cf c 0*a:=by unfold cnx;rw [Zeg O8,aO h,aO rfl,bP]
theorem Yqh{w:Int}(h:0<c.length):(cnx c a b c.length).set 0 ((cnx c a b c.length).getD 0 0+w)=mk (c.length+1) λt=>cf c t*a+(if t=0 then w else cf c (t-1)*b):=Ia (by simp [Fz,Yz]) λt e=>by
 rw [cH,Fz]at e;rw [Zm1 _ _ _ _ (by grind [Fz]),Zvw h,Ih,if_pos e];unfold cnx;rw [Ih,aO e];by_cases d:t=0
 .grind
 .rw [aF d,aF d,aF d];by_cases g:t<c.length
  .omega
  .rw [aO (show t=c.length/\0<c.length by omega),Yx O1];simp
theorem Zji{p:List Int}{x y z:Int}{A m:Nat}(d:Sz A p)(e:bl x.natAbs<=m)(o:bl y.natAbs<=m)(g:bl z.natAbs<=m):∀j,Sz (A+j*(m+1)) (Kp p x y z j)
 | 0=>Sz.of_mem λw n=>by rw [cE.1 n];have:=d (p.length-1);omega
 | j+1=>by
  have h:=Zji d e o g j;refine Zgy λt D=>?_;have s:=Xz (cf (Kp p x y z j) t) x;have u:=h t;split
  .have l:=Zj6 0 (j+1) (d (p.length-2-j)) e g;grind [Aa]
  .have l:=Xz (cf (Kp p x y z j) (t-1)) y;have v:=h (t-1);grind [Aa]
section
variable {p:List Int} {x y z:Int} (hF:Pd p+(p.length-1)*(Pd [x,y,z]+1)+8<=65536) {j:Nat} (hj:j<p.length-1)
include hF hj
theorem cp_all:bl (z^j).natAbs<=65536/\bl (z^(j+1)).natAbs<=65536/\(∀t,bl (cf (Kp p x y z j) t).natAbs<=65536)/\(∀t,bl (cf (Kp p x y z j) t*x).natAbs<=65536)/\(∀t,bl (cf (Kp p x y z j) t*y).natAbs<=65536)/\
  (∀t,bl ((if t=0 then 0 else cf (Kp p x y z j) (t-1)*y)).natAbs<=65536)/\(∀t,bl ((if t=0 then 0 else cf (Kp p x y z j) (t-1)*y)+cf (Kp p x y z j) t*x).natAbs<=65536)/\
  bl (cf p (p.length-2-j)*z^(j+1)).natAbs<=65536/\bl (cf (Kp p x y z j) 0*x+cf p (p.length-2-j)*z^(j+1)).natAbs<=65536:=by
 have o:bl x.natAbs<=Pd [x,y,z]:=by simp only [Pd];omega
 have w:bl y.natAbs<=Pd [x,y,z]:=by simp only [Pd];omega
 have d:bl z.natAbs<=Pd [x,y,z]:=by simp only [Pd];omega
 have g:=Zji (Kz p) o w d j;generalize Pd [x,y,z]=m at *;have e:j*(m+1)+(m+1)<=(p.length-1)*(m+1):=by rw [<-fC];exact aQ _ O1
 have v:j*m<=j*(m+1):=bD _ O8;have u:=Zj6 0 (j+1) (Kz p (p.length-2-j)) o d;rw [eT,jC,bZ,fC]at u;have n:=Bz z d (j+1) O8;rw [fC]at n;have l:bl (z^j).natAbs<=65536:=by
  rcases bB j with h|h
  .rw [h,eT];decide
  .have:=Bz z d j h;omega
 have D:∀t,bl (cf (Kp p x y z j) t*x).natAbs<=Pd p+j*(m+1)+m:=λt=>by have:=Xz (cf (Kp p x y z j) t) x;have:=g t;omega
 have F:∀t,bl (cf (Kp p x y z j) t*y).natAbs<=Pd p+j*(m+1)+m:=λt=>by have:=Xz (cf (Kp p x y z j) t) y;have:=g t;omega
 have s:∀t,bl ((if t=0 then 0 else cf (Kp p x y z j) (t-1)*y)).natAbs<=Pd p+j*(m+1)+m:=λt=>by grind [Fa]
 refine⟨l,O1,λt=>by have:=g t;omega,λt=>O5,λt=>O5,λt=>by have:=s t;omega,λt=>?_,O1,?_⟩
 all_goals grind [Aa]
end
theorem Yqd{p:List Int}{x y z:Int}(hF:Pd p+(p.length-1)*(Pd [x,y,z]+1)+8<=65536):Sz 65536 (Kp p x y z (p.length-1)):=by
 have d:bl x.natAbs<=Pd [x,y,z]:=by simp only [Pd];omega
 have e:bl y.natAbs<=Pd [x,y,z]:=by simp only [Pd];omega
 have g:bl z.natAbs<=Pd [x,y,z]:=by simp only [Pd];omega
 exact(Zji (Kz p) d e g _).mono O1
theorem Zjb(p q:List Int):(Qw p q).length<=p.length:=by
 unfold Qw;split
 .omega
 grind [Ge,Kj]
theorem Zcu{p:List Int}(d:Vp p)(e:Bv p q=0):Vp (Qw p q):=by
 have g:=Zjb p q;refine⟨?_,?_,by have:=d.len;omega⟩
 .unfold Qw;split
  .exact d.sz
  .exact(Zsz ((Zeh e).2 O1)).tzl
 .unfold Qw;split
  .exact d.tr
  grind [Qt]
def Zog(p q:List Int):Prop:=p.length≠0/\q.length≠0/\65536<(max p.length q.length+2)*(max p.length q.length+2)*(max (Pd p) (Pd q)+8)
instance (p q:List Int):Decidable (Zog p q):=by unfold Zog;infer_instance
def gA(p q:List Int):List Int:=if p.length<q.length then Yw q else Yw p
def gB(p q:List Int):List Int:=if p.length<q.length then Yw p else Yw q
def eok:Nat->List Int->List Int->Prop
 | 0,_,b=>b=[]
 | f+1,a,b=>b=[]\/(Bv a b=0/\eok f b (Yw (Qw a b)))
def eu:Nat->List Int->List Int->List Int
 | 0,a,_=>a
 | f+1,a,b=>if b=[]then a else eu f b (Yw (Qw a b))
theorem Yj2{f:Nat}{a b:List Int}(h:eok f a b)(d:b≠[]):∃g,f=g+1/\Bv a b=0/\eok g b (Yw (Qw a b))/\eu f a b=eu g b (Yw (Qw a b)):=by
 cases f with
 | zero=>exact absurd h d
 | succ g=>
  rcases h with h|h
  .grind
  .exact⟨g,rfl,h.1,h.2,by show(if b=[]then a else _)=_;grind⟩
theorem Zmk(f:Nat)(a:List Int):eu f a []=a:=by cases f<;>rfl
def Gl(g:List Int):List Int:=if g.length≠0/\cf g (g.length-1)<0 then Yo g (-1)else g
def Mz(f:Nat)(p q:List Int):List Int:=Gl (eu f (gA p q) (gB p q))
theorem vp_gA{p:List Int}(d:Vp p)(e:Vp q):Vp (gA p q):=by unfold gA;all_goals grind [Hb]
theorem vp_gB{p:List Int}(d:Vp p)(e:Vp q):Vp (gB p q):=by unfold gB;all_goals grind [Hb]
theorem Zcj{p:List Int}(h:Sz 65536 p)(i:Nat):bl (cf p i * -1).natAbs<=65536:=by rw [nH,iF,iD];exact h i
theorem sign_neg_iff(z:Int):z.sign<0↔z<0:=by simp
end Go.Sky
namespace Go.Sky
def Ym7{l:List Int}(h:∀x∈l,La x):Sz 65536 l:=Sz.of_mem λx a=>by obtain⟨b,c⟩:=h x a;have:bl x.natAbs<=64:=(Qs 64 _).2 O1;omega
open Go.RowKit Below
set_option maxRecDepth 20000
abbrev d9p (v:Value) (x:Nat):Pc:=Yt 1 Ypu v (dg 1000000000 x)
def d9s(a b c:Nat):Nat:=if a<b+c then a+1000000000-(b+c)else a-(b+c)
def cmpI(x y:Nat):Int:=if x<y then -1 else if y<x then 1 else 0
section
variable {P:Program} {N:Nat} {sc:Nat->Prop} {env env':Qm} {H H':Hp} {Q Q':Exit->Act->World->Prop} {M:Nat->Prop}
variable {o:Oper} {t t':TypeId} {x y:Operand} {m n:Nat}
end
end Go.Sky
namespace Go.Sky
section
variable {P:Program} {N:Nat} {sc:Nat->Prop} {env env':Qm} {H H':Hp} {Q Q':Exit->Act->World->Prop} {M:Nat->Prop}
variable {o:Oper} {t t':TypeId} {x y:Operand} {m n:Nat}
end
end Go.Sky
namespace Go.Sky
variable{x y:Operand}{k i:Nat}{v u z:Value}{r:List Pc}{t:TypeId}{p:Pc}{w0:World}{M0:Nat->Prop}{ks:List Nat}
def Ztr(a b:Int):Prop:=65536<bl a.natAbs\/65536<bl b.natAbs
instance (a b:Int):Decidable (Ztr a b):=by unfold Ztr;infer_instance
def qn(a b:Int):Int:=if Ztr a b then 0 else a
def qd(a b:Int):Int:=if Ztr a b then 0 else b
def qe(a b:Int):Int:=if Ztr a b then 7 else 0
def Yow{x y:Int}(h:¬y<0):Nw x y=(Int.gcd x y:Int):=aF h
def Zr7(x y:Int):bl ((Int.gcd x y:Int)).natAbs<=max (bl x.natAbs) (bl y.natAbs):=Zr8 _ _
open Go.RowKit Below
variable {P:Program} {N:Nat} {sc:Nat->Prop} {env env':Qm} {H H':Hp} {Q Q':Exit->Act->World->Prop} {M:Nat->Prop}
abbrev Yj3 (w:Bool×ByteArray):Value:= .agg #[.bool w.1,.string w.2]
abbrev Ypv (z:Int×SL):Value:= .agg #[.bool (decide (z.1<0)),Xa z.2]
abbrev Pf {α:Type} (z:SL×α):Value:=Xa z.1
abbrev qI (z:Int×SL):Pc:=d9p (Xa z.2) z.1.natAbs
abbrev pp (v:Value) (zs:List (Int×SL)):Pc:=Xv 2 Ypv qI v zs
abbrev ints (zs:List (Int×SL)):List Int:=zs.map Prod.fst
abbrev I0:Int×SL:=(0,none,0,0)
def Yg1{β:Type}{enc:β->Value}{q:β->Pc}{zs:List β}{al:Bool}{z:β}(i:Nat)(hi:lk H i=some (Xv k enc q v zs))(d:Nat.beq i 0=false)(a:z∈zs)(h:PreOk H al r):PreOk H al (q z::r):=
 ⟨⟨i,_,λe=>O11,hi,λw h=>h.2 z a,λb c=> .inr ⟨z,a,c⟩,λ_=>rfl⟩,h⟩
theorem t_appM {α:Type} {o:Oper}  {e:TypeId} {i2 j h d:Nat}  {enc:α->Value} {xs ys:List α}  {ti:TypeInfo}   
  (ho:o.op= .call { callee:= .builtin .append,args:=#[x,y],argTypes:=#[t,t] }) (hd:o.dst=some d) (hN:Nat.blt d N=true)
  (hx:ev env x=some v) (hy:ev env y=some u) (hH:lk H i=some (Nk k e enc v xs)) (Y:i≠0) (hj:lk H j=some p) (hr:Rd p k enc u ys) (a8:ys≠[])
  (ht:P.underlying t=some (.slice e)) (hi:P.info? e=some ti) (hz:ti.zero=some z) (m:Enc P e k enc) (Z:ti.size=k) (V:ti.bytes=h) (a3:z.cells.size=k)
  (l:(xs.length+ys.length)*h<=140737488355328) (n:0<h)
  (h0:lk H 0=some (Zy w0 M0)) (hw:∀b,w0.heap.size<=b->sc b) (hM:∀b,(Nk k e enc v xs).fp b->M b) :
  T P N sc M o env H (G:=Value) (λ_=>True) (λv'=>(d,v')::env) (λv'=>(i,Nk k e enc v' (xs ++ ys))::H):=λa w hs K Q hK=>by
 have F:=hs.hold i _ hH;obtain⟨ad,c,rfl,h1,h2,h3⟩:=hr w (hs.hold j p hj);rcases h3 with rfl|⟨g,R,rfl,h3⟩
 .grind
 have a2:∀q u,(cellsOf enc ys)[q]? = some u->w.cell? ((⟨g,R,none⟩:Addr).add q)=some u:=λq u hq=>by
  have a6:q<ys.length*k:=by rw [<-Xe m.cells ys];grind
  have a4:=m.pos;have W:q/k<ys.length:=iB O5;have B:=aL W;have a0:q%k<(enc ys[q/k]).cells.toList.length:=by rw [fE,m.cells];simp_all [bK]
  have hu:=aL a0;have h4:=Gm m.cells ys _ _ B _ _ hu;grind [Nat.mul_comm,Nat.div_add_mod,Nat.add_assoc,Od]
 have D:∀u∈cellsOf enc ys,u.oneCell'=true:=λu hu=>by obtain⟨y,_,hy⟩:=gI.1 hu;exact m.one y u hy
 have a5:=aB (eN _ n) l;obtain⟨v',w',I,a7,f,S⟩:=Zey (P:=P) t o.type e ti z k h ht hi hz Z V a3 m.pos v xs.length (cellsOf enc xs) F ⟨g,R,none⟩ ys.length c (cellsOf enc ys)
  (Xe m.cells ys) a2 D (by simp only [maxLen];omega) l
 have a1:(execOp a.eval o).run P w= .ok (.value v') w':=by simp only [execOp,ho,resolve,invoke,builtin,Sem.run_bind,Sem.run_pure,Result.andThen_ok,fQ,cP,jG,hs.ev hx,hs.ev hy,I]
 unfold Oper.wp;rw [a1];show K (a.put o.dst _) _;rw [hd];have s:Chg _ w w':=⟨f.os,f.tape,f.output,f.size,λb l hn=>f.block b l (λe=>hn e.symm)⟩;refine hK v' _ _ aA ((hs.upd hH rfl Y s ?_ (λb l=>S b l) h0 hw).put d _ hN) ⟨f.os,f.tape,f.output,f.size,λb l hn=>f.block b l (λe=>hn (hM b e.symm))⟩;show w'.ownsRow 0 e k v' (xs ++ ys).length (cellsOf enc (xs ++ ys));grind [Ii,List.length_append]
theorem Ym6 (l:Nat) {α:Type} {o:Oper}  {e:TypeId} {j d:Nat}  {enc:α->Value} {xs ys:List α}  {ti:TypeInfo}   
  (ho:o.op= .call { callee:= .builtin .append,args:=#[x,y],argTypes:=#[t,t] }) (hd:o.dst=some d) (hN:Nat.blt d N=true)
  (hx:ev env x=some v) (hy:ev env y=some u) (W:lk H i=some (Nk k e enc v xs)) (F:i≠0) (hj:lk H j=some p) (hr:Rd p k enc u ys)
  (ht:P.underlying t=some (.slice e)) (hi:P.info? e=some ti) (hz:ti.zero=some z) (he:Enc P e k enc) (a1:ti.size=k) (Z:ti.bytes=l) (a3:z.cells.size=k)
  (Y:(xs.length+ys.length)*l<=140737488355328) (B:0<l)
  (h0:lk H 0=some (Zy w0 M0)) (hw:∀b,w0.heap.size<=b->sc b) (hM:∀b,(Nk k e enc v xs).fp b->M b) :
  T P N sc M o env H (G:=Value) (λ_=>True) (λv'=>(d,v')::env) (λv'=>(i,Nk k e enc v' (xs ++ ys))::H):=by
 by_cases S:ys=[]
 .subst S;intro a w hs K Q hK;have f:w.ownsRow 0 e k v xs.length (cellsOf enc xs):=hs.hold i _ W;obtain⟨V,c,rfl,h1,h2,h3⟩:=hr w (hs.hold j p hj);have I:∃h n m,v= .slice h n m/\n=xs.length/\n<=m:=by
   rcases f.2 with⟨rfl,hn⟩|⟨g,a4,a5,rfl,_,_,s,_⟩
   all_goals grind
  obtain⟨h,n,m,rfl,rfl,s⟩:=I;have R:(Builtin.append_ #[t,t] o.type #[.slice h xs.length m,.slice V ([]:List α).length c]).run P w= .ok (.slice h xs.length m) w:=by
   have D:(Builtin.firstCells ti.size 0 (.slice V 0 c)).run P w= .ok #[] w:=by
    cases V with
    | none=>rfl
    | some q=>simp [Builtin.firstCells,loadCells,loadCellsFrom]
   cases h with
   | none=>simp [Builtin.append_,run_underlying ht,sizeOf,typeInfo,hi,Builtin.lenOf,D,s]
   | some q=>simp [Builtin.append_,run_underlying ht,sizeOf,typeInfo,hi,Builtin.lenOf,D,s,storeCells]
  have a2:(execOp a.eval o).run P w= .ok (.value (.slice h xs.length m)) w:=by simp only [execOp,ho,resolve,invoke,builtin,Sem.run_bind,Sem.run_pure,Result.andThen_ok,fQ,cP,jG,hs.ev hx,hs.ev hy,R]
  unfold Oper.wp;rw [a2];show K (a.put o.dst _) _;rw [hd];refine hK _ _ _ aA ((Sat.upd hs W rfl F (q:=Nk k e enc (.slice h xs.length m) (xs ++ [])) (Chg.refl _ w) ?_ (λb Y=> .inl Y) h0 hw).put d _ hN) (Chg.refl _ w);rw [iY];exact f
 .exact t_appM (i2:=0) ho hd hN hx hy W F hj hr S ht hi hz he a1 Z a3 Y B h0 hw hM
theorem t_offr {o:Oper} {G:Type} {φ:G->Prop} {c:G->Qm} {g:G->Hp} {d:Hp}   (i:Nat) (hi:lk H i=some p) (D:p.own=true) (B:ks.all (λk=>!Nat.beq k i)=true) (m:Agr d H ks)
  (h:(∀b,p.fp b->Off d ks b)->T P N sc (Off d ks) o env H φ c g):T P N sc (Off d ks) o env H φ c g:=λa w hs=>
 h (λb n k j q l s=>by
  rw [<-m.mem k j]at l;have f:i≠k:=λe=>by subst e;have:=bC.1 B i j;simp_all
  exact hs.sep i k p q f hi l D b n s) a w hs
def eaf(v:Value)(i k q:Nat):Addr:=(ead v i k).add q
theorem Ze5 (ii:Nat) {α:Type} {o:Oper}   {f:Nat} {d:Array Field} {b:Field} {G q:Nat}   {enc:α->Value} {xs:List α} (n:o.op= .fieldAddr t x f)
  (F:ev env x=some (.pointer (some (ead v i k)))) (h:lk H ii=some p) (B:Rd p k enc v xs) (D:P.underlying t=some (.struct d)) (j:d[f]? = some b) (l:∀w,(sizeOf b.type).run P w= .ok (G+1) w) (s:b.offset=q) (m:i<xs.length:=by omega) :
  Ld P N sc o env H (.pointer (some (eaf v i k q))):=λa w hs=>by
 obtain⟨R,c,rfl,S,V,e⟩:=B w (hs.hold ii p h);rcases e with rfl|⟨g,I,rfl,e⟩
 .grind
 .subst s;simp [execOp,n,hs.ev F,Instr.fieldAt,run_underlying D,j,Instr.sureAddr,fieldPlace,l,Od,eaf,ead]
theorem Ze4 (ii:Nat) {α:Type} {o:Oper}   {q:Nat}   {enc:α->Value} {xs:List α} (d:α) (m:o.op= .load t x)
  (e:ev env x=some (.pointer (some (eaf v i k q)))) (f:lk H ii=some p) (n:Rd p k enc v xs) (j:∀w,(isAgg t).run P w= .ok false w) (s:(enc (xs.getD i d)).cells.toList[q]? = some u) (l:i<xs.length:=by omega):Ld P N sc o env H u:=λa w hs=>by
 obtain⟨D,c,rfl,F,G,b⟩:=n w (hs.hold ii p f);rcases b with rfl|⟨g,B,rfl,b⟩
 .grind
 .have hi:xs[i]? = some (xs.getD i d):=O5;have h:=b i _ hi q u s;simp only [eaf,ead,Od]at e;simp [execOp,m,hs.ev e,Instr.loadAt,Instr.sureAddr,loadVar,j,load,Sem.run,h]
end Go.Sky
namespace Go.Sky
variable{r pre:List Pc}{f:FuncId}{xs:List Operand}{a:Act}{w:World}{c x:Operand}{ats:Array TypeId}{vs:List Value}{M0:Nat->Prop}{b:Nat}{t:TypeId}{cs:Array Value}
abbrev rq (z:Int×Int):Value:= .agg #[.bool (decide (z.1<0)),.string (Xo z.1.natAbs),.bool (decide (z.2<0)),.string (Xo z.2.natAbs)]
abbrev encQ (z:(Bool×ByteArray)×(Bool×ByteArray)):Value:= .agg #[.bool z.1.1,.string z.1.2,.bool z.2.1,.string z.2.2]
def Yl (d:Value){P:Program}{N:Nat}{sc:Nat->Prop}{o:Oper}{env:Qm}{H:Hp}{r:Value}(h:Ld P N sc o env H r)(e:r=d):Ld P N sc o env H d:=e▸h
open Go.RowKit Below
variable {P:Program} {N:Nat} {sc:Nat->Prop} {env env':Qm} {H H':Hp} {Q Q':Exit->Act->World->Prop} {M:Nat->Prop}
theorem Ze3 (vs:List Value)(d:List Value){o:Oper}{ys:List Operand}(h:o.op= .makeFunc (.func f) xs.toArray ys.toArray)(j:EvL env xs vs)(i:EvL env ys d):Ld P N sc o env H (.func (.func f) vs.toArray d.toArray):=λa w hs=>by have e:=j.map hs;have g:=i.map hs;simp [execOp,h,Instr.makeFunc,e,g]
theorem Zex   (hs:Sat N sc env H a w) {o:Oper}     {e g:List Value} (j:o.op= .call { callee:= .value c,args:=xs.toArray,argTypes:=ats })
  (h:ev env c=some (.func (.func f) e.toArray g.toArray)) (d:EvL env xs vs):(execOp a.eval o).run P w=(callFunc f (e ++ vs ++ g).toArray).run P w:=by
 have i:=d.map hs;simp [execOp,j,resolve,invoke,hs.ev h,Deferred.ofValue,i]
theorem Gr (n:Nat)(h:List Value)(vs:List Value)(k:List Value) {o:Oper}     {d:Nat}   {al:Bool} {G:Type} {φ:G->Prop} {val:G->Value} {j:G->List Pc} {w0:World} 
  (B:Cal P f (h ++ vs ++ k).toArray pre al φ val j)
  (V:o.op= .call { callee:= .value c,args:=xs.toArray,argTypes:=ats }) (D:ev env c=some (.func (.func f) h.toArray k.toArray)) (F:o.dst=some d) (z:Nat.blt d N=true)
  (p:EvL env xs vs) (e:∀args w,(callFunc f args).run P w= .ok (.enter f args) w) (i:PreOk H al pre)
  (u:lk H 0=some (Zy w0 M0)) (R:∀b,w0.heap.size<=b->sc b) :
  T P N sc M o env H φ (λg=>(d,val g)::env) (λg=>adds n (j g) H):=λa w hs K Q y=>by
 have I:(execOp a.eval o).run P w= .ok (.enter f (h ++ vs ++ k).toArray) w:=by grind [Zex]
 let o2:={ o with op:= .call { callee:= .value (.func f),args:=((h ++ vs ++ k).map Operand.const).toArray,argTypes:=ats } };have q:∀l,EvL env (l.map Operand.const) l:=λl=>by
  induction l with
  | nil=>trivial
  | cons v r S=>exact⟨rfl,S⟩
 have s:(execOp a.eval o2).run P w= .ok (.enter f (h ++ vs ++ k).toArray) w:=by grind [Gt]
 have m:=Ov _ B (o:=o2) rfl F z (q _) e i u R a w hs K Q y;unfold Oper.wp at m ⊢;rw [s]at m;rw [I];exact m
def Zh3(i:Nat)(hi:lk H i=some (box b t cs))(g:Nat.beq i 0=false)(h:PreOk H false r):PreOk H false (Oq b t cs::r):=
 ⟨⟨i,_,λe=>O11,hi,λw h=>h,λb d=>d,λh=>O5⟩,h⟩
theorem Sat.rboxc(hs:Sat N sc env H a w){i:Nat}(d:lk H i=some (Oq b t cs))(j:Nat):w.cell? ⟨b,j,none⟩=cs[j]?:=by have h:w.heap[b]? = some _:=hs.hold i _ d;simp [World.cell?,h]
theorem d_lra {o:Oper}  {q:TypeId} {i j k:Nat}   (l:o.op= .load t x)
  (p:ev env x=some (.pointer (some ⟨b,j,none⟩))) (e:lk H i=some (Oq b q cs)) (m:∀w,(isAgg t).run P w= .ok true w) (g:∀w,(sizeOf t).run P w= .ok k w)
  (h:vs.length=k) (v:∀n u,vs[n]? = some u->cs[j+n]? = some u):Ld P N sc o env H (.agg vs.toArray):=λa w hs=>by
 have d:=run_loadCells_list (P:=P) w ⟨b,j,none⟩ vs (λn u s=>by rw [Od,hs.rboxc e];grind);rw [h]at d;simp [execOp,l,hs.ev p,Instr.loadAt,Instr.sureAddr,loadVar,m,g,d]
theorem d_negi{o:Oper}{m:Int}(d:o.op= .unOp .neg t x)(e:ev env x=some (.int .i64 m))(h:La (-m)):Ld P N sc o env H (.int .i64 (-m)):=λa w hs=>by simp [execOp,d,hs.ev e,Op.unary,Op.intArith,Ze8 h]
theorem fill24{n o p q d e g h j k l m:Value}:Instr.fill (λi=>some (i*4,4)) ((List.range (2*4)).map ((Value.agg #[n,o,p,q]).cells[· % (Value.agg #[n,o,p,q]).cells.size]!)).toArray [(0,.agg #[d,e,g,h]),(1,.agg #[j,k,l,m])]=some #[d,e,g,h,j,k,l,m]:=by simp [Instr.fill,Value.cells,List.range,List.range.loop]
end Go.Sky
namespace Go.Sky
open Go.RowKit Below
variable{f:FuncId}{c:Operand}{xs:List Operand}{ats:Array TypeId}{p:Pc}{pre:List Pc}{w0:World}{M0:Nat->Prop}{fn:Func}{vs:List Value}
variable {P:Program} {N:Nat} {sc:Nat->Prop} {env env':Qm} {H H':Hp} {Q Q':Exit->Act->World->Prop} {M:Nat->Prop}
abbrev iq (z:(Int×Int)×(Int×Int)):Value:= .agg #[.bool (decide (z.1.1<0)),.string (Xo z.1.1.natAbs),.bool (decide (z.1.2<0)),.string (Xo z.1.2.natAbs),.bool (decide (z.2.1<0)),.string (Xo z.2.1.natAbs),.bool (decide (z.2.2<0)),.string (Xo z.2.2.natAbs)]
def Ymi(P:Program)(f:FuncId)(args:Array Value)(pre:List Pc)(p:Pc){G:Type}(φ:G->Prop)(val:G->Value)(q:G->Pc):Prop:=
 ∀w,(∀r∈pre,r.holds w/\∀k,p.fp k->¬r.fp k)->p.holds w->Calls P f args w λe a=>∃g,e= .returned (val g)/\φ g/\Chg p.fp w a/\(q g).holds a/\∀k,(q g).fp k->p.fp k\/w.heap.size<=k
theorem Zpc (i:Nat)(u:List Value)(vs:List Value)(F:List Value) {o:Oper}     {d:Nat}    {G:Type} {φ:G->Prop} {val:G->Value} {q:G->Pc}  
  (Z:Ymi P f (u ++ vs ++ F).toArray pre p φ val q)
  (ho:o.op= .call { callee:= .value c,args:=xs.toArray,argTypes:=ats }) (a0:ev env c=some (.func (.func f) u.toArray F.toArray)) (hd:o.dst=some d) (W:Nat.blt d N=true)
  (x:EvL env xs vs) (y:∀args w,(callFunc f args).run P w= .ok (.enter f args) w) (v:lk H i=some p) (l:p.own=true) (z:i≠0) (s:PreOk (drp i H) false pre)
  (R:lk H 0=some (Zy w0 M0)) (hw:∀b,w0.heap.size<=b->sc b) (V:∀b,p.fp b->M b) :
  T P N sc M o env H φ (λg=>(d,val g)::env) (λg=>(i,q g)::H):=λa w hs K Q S=>by
 have hr:(execOp a.eval o).run P w= .ok (.enter f (u ++ vs ++ F).toArray) w:=by grind [Zex]
 unfold Oper.wp;rw [hr];refine(Z w (λr hp=>by obtain⟨j,I,_,t,n,m,_⟩:=s.mem r hp;obtain⟨D,t⟩:=Gk _ _ _ _ t;exact⟨n w (hs.hold j I t),λk B Y=>hs.sep i j _ I (jF D) v t l k B (m k Y)⟩) (hs.hold i _ v)).mono ?_
 rintro e w' ⟨g,rfl,hg,h,hq,m⟩;rw [hd];exact S g _ _ hg (Sat.put (hs.upd v l z h hq m R hw) d _ W) ⟨h.os,h.tape,h.output,h.size,λk B hn=>h.block k B (λe=>hn (V k e))⟩
def Ymd(P:Program)(fn:Func)(w0:World)(p:Pc){G:Type}(φ:G->Prop)(val:G->Value)(q:G->Pc):Exit->Act->World->Prop:=
 bodyPost P fn λe a=>∃g,e= .returned (val g)/\φ g/\Chg p.fp w0 a/\(q g).holds a/\∀k,(q g).fp k->p.fp k\/w0.heap.size<=k
theorem Zr0   {c:Code}    {G:Type} {φ:G->Prop} {val:G->Value} {q:G->Pc} {N:Nat}
  (y:P.funcs[f]? = some fn) (u:fn.body=some c) (W:fn.ntmps=N) (m:Nat.ble vs.length N=true) (n:AllRo pre)
  (h:∀w0 (sc:Nat->Prop),(∀k,w0.heap.size<=k->sc k)->(∀k,sc k->w0.heap.size<=k\/p.fp k\/∃q∈pre,q.fp k)->
   E P N sc c (Ymd P fn w0 p φ val q) (Ql 0 vs) ((0,Zy w0 p.fp)::(1,p)::Yn 2 pre)) :
  Ymi P f vs.toArray pre p φ val q:=λw Y x=>by
 refine calls_of_wp y u (h w _ (λk b=> .inl b) (λk b=>b) _ w ?_);have m:vs.length<=N:=O11;have a:∀i r,lk ((0,Zy w p.fp)::(1,p)::Yn 2 pre) i=some r->(i=0/\r=Zy w p.fp)\/(i=1/\r=p)\/(i≠0/\i≠1/\r∈pre/\r.own=false):=λi r hi=>by
   by_cases o:0=i
   .grind [Zp]
   .rw [Zh _ _ o]at hi;by_cases d:1=i
    .grind [Zp]
    .rw [Zh _ _ d]at hi;obtain⟨_,g⟩:=Na pre 2 i r hi;exact .inr (.inr ⟨λe=>o e.symm,λe=>d e.symm,g,n.mem r g⟩)
 refine⟨O5,rfl,λt v R=>?_,λi r hi=>?_,λi j r S F hi B I k b l=>?_,λi r z hi k b=>?_⟩
 .have d:vs.toArray[t]? = some v:=by simpa using(Gj vs 0 t v R).2
  have D:=(aM.1 d).1;simp_all [bH,dY]
 .rcases a i r hi with⟨_,rfl⟩|⟨_,rfl⟩|⟨_,_,g,_⟩
  .exact Chg.refl _ w
  all_goals grind
 .rcases a i r hi with⟨_,rfl⟩|⟨d,rfl⟩|⟨_,_,g,s⟩
  .cases I
  .rcases a j S B with⟨_,rfl⟩|⟨V,rfl⟩|⟨_,_,g,_⟩
   .exact l.2 b
   all_goals grind
  grind
 grind
theorem Zwi    {G:Type} {φ:G->Prop} {val:G->Value} {q:G->Pc}  {e:Exit} (B:e= .ret\/e= .normal) (u:∀k,sc k->w0.heap.size<=k\/p.fp k\/∃q∈pre,q.fp k)
  (g:G) {v:Value} (m:∀a w,Sat N sc env H a w->(results fn a.tmps).run P w= .ok v w) (R:val g=v) (D:φ g) (i:Nat) (hi:lk H i=some (q g)) (z:lk H 0=some (Zy w0 p.fp)) (b:Nat.beq i 0=false) (d:(q g).own=true) (l:PreOk (drp i H) false pre) :
  X N sc e (Ymd P fn w0 p φ val q) env H:=λa w hs=>by
 have b:i≠0:=λe=>O11;have x:a.defers=[]/\∃v,(results fn a.tmps).run P w= .ok v w/\(∃g,Ending.returned v= .returned (val g)/\φ g/\Chg p.fp w0 w/\(q g).holds w/\∀k,(q g).fp k->p.fp k\/w0.heap.size<=k):=by
  refine⟨hs.defers,v,m a w hs,g,O5,D,hs.hold 0 _ z,hs.hold i _ hi,λk y=>?_⟩;rcases u k (hs.scope i _ b hi k y)with h|h|⟨r,F,t⟩
  .omega
  .grind
  .obtain⟨j,I,_,o,_,n,_⟩:=l.mem r F;obtain⟨s,o⟩:=Gk _ _ _ _ o;exact(hs.sep i j _ I (jF s) hi o d k y (n k t)).elim
 rcases B with rfl|rfl<;>exact x
def gb{α:Type}(b:Nat)(t:TypeId)(k:Nat)(e:TypeId)(enc:α->Value)(v:Value)(xs:List α):Pc:=
 {own:=true,fp:=λc=>c=b\/v.ownBlock=some c,holds:=λw=>(box b t #[v]).holds w/\(Nk k e enc v xs).holds w/\v.ownBlock≠some b
  lt:=λw c h a=>by
   rcases a with rfl|a
   .exact(box c t #[v]).lt w c h.1 rfl
   .exact(Nk k e enc v xs).lt w c h.2.1 a
  stable:=λw l h a=>⟨(box b t #[v]).stable w l h.1 ⟨a.os,a.tape,a.output,a.size,λk g i=>a.block k g (λd=>i (λj=>d (.inl j)))⟩,
   (Nk k e enc v xs).stable w l h.2.1 ⟨a.os,a.tape,a.output,a.size,λk g i=>a.block k g (λd=>i (λj=>d (.inr j)))⟩,h.2.2⟩ }
end Go.Sky
namespace Go.Sky
open Go.Proofs
def pU:Enc Tryz.prog 87 1 Mn:=Enc.flat Tryz.sizeOf87 Tryz.isAgg87 (λ_=>rfl)
def pB:Enc Tryz.prog 5 1 Yd4:=Enc.flat Tryz.sizeOf5 Tryz.isAgg5 (λ_=>rfl)
def pN:Enc Tryz.prog 3 1 Ypu:=Enc.flat Tryz.sizeOf3 Tryz.isAgg3 (λ_=>rfl)
def pZ:Enc Tryz.prog 3 1 Xk:=Enc.flat Tryz.sizeOf3 Tryz.isAgg3 (λ_=>rfl)
def Zio(args:Array Value)(w:World):(callFunc 188 args).run Tryz.prog w=((add64Entry args).run Tryz.prog w).andThen λv w'=> .ok (.value v) w':=
 run_callFunc_extern Tryz.func188 O7 O7 O7 O7 args w
def Ycr(args:Array Value)(w:World):(callFunc 189 args).run Tryz.prog w=((Zfc args).run Tryz.prog w).andThen λv w'=> .ok (.value v) w':=
 run_callFunc_extern Tryz.func189 O7 O7 O7 O7 args w
end Go.Sky
theorem Go.Proofs.Tryz.ti87:Go.Proofs.Tryz.prog.info? 87=some Go.Proofs.Tryz.t87:=Go.Sky.O7
namespace Go.Sky
open Go.Proofs
end Go.Sky
theorem Go.Proofs.Tryz.ti5:Go.Proofs.Tryz.prog.info? 5=some Go.Proofs.Tryz.t5:=Go.Sky.O7
namespace Go.Sky
open Go.Proofs
end Go.Sky
theorem Go.Proofs.Tryz.ti3:Go.Proofs.Tryz.prog.info? 3=some Go.Proofs.Tryz.t3:=Go.Sky.O7
namespace Go.Sky
open Go.Proofs
def pW:Enc Tryz.prog 130 2 Yj3:=Enc.agg O4 Tryz.sizeOf130 Tryz.isAgg130 (λx=>⟨[.bool x.1,.string x.2],rfl,rfl,O13⟩)
def pV:Enc Tryz.prog 130 2 wv:=Enc.agg O4 Tryz.sizeOf130 Tryz.isAgg130 (λx=>⟨[.bool (decide (x<0)),.string (Xo x.natAbs)],rfl,rfl,O13⟩)
def pI:Enc Tryz.prog 216 2 Ypv:=Enc.agg O4 Tryz.sizeOf216 Tryz.isAgg216 (λx=>⟨[.bool (decide (x.1<0)),Xa x.2],rfl,rfl,O13⟩)
def pS{α:Type} : Enc Tryz.prog 96 1 (Pf (α:=α)):=Enc.flat Tryz.sizeOf96 Tryz.isAgg96 (λ_=>rfl)
def pY:Enc Tryz.prog 299 8 iq:=Enc.agg O4 Tryz.sizeOf299 Tryz.isAgg299 (λx=>⟨[.bool (decide (x.1.1<0)),.string (Xo x.1.1.natAbs),.bool (decide (x.1.2<0)),.string (Xo x.1.2.natAbs),.bool (decide (x.2.1<0)),.string (Xo x.2.1.natAbs),.bool (decide (x.2.2<0)),.string (Xo x.2.2.natAbs)],rfl,rfl,O13⟩)
def pQ:Enc Tryz.prog 132 4 rq:=Enc.agg O4 Tryz.sizeOf132 Tryz.isAgg132 (λx=>⟨[.bool (decide (x.1<0)),.string (Xo x.1.natAbs),.bool (decide (x.2<0)),.string (Xo x.2.natAbs)],rfl,rfl,O13⟩)
def pR:Enc Tryz.prog 132 4 encQ:=Enc.agg O4 Tryz.sizeOf132 Tryz.isAgg132 (λx=>⟨[.bool x.1.1,.string x.1.2,.bool x.2.1,.string x.2.2],rfl,rfl,O13⟩)
def sh130:Tryz.prog.stoodInHeld 130=false:=O7
def eg130:Tryz.prog.eqGuardType Tryz.prog.depth 130=false:=O7
def in130(d:Nat)(w:World)(a:Bool)(s:ByteArray)(b:Bool)(t:ByteArray):(Op.equalIn (d+2) 130 (.agg #[.bool a,.string s]) (.agg #[.bool b,.string t])).run Tryz.prog w= .ok (eqW a s b t) w:=by
 have c:Tryz.prog.underlying 130=some (.struct (Tryz.prog.fieldsOf 130)):=by unfold Program.fieldsOf;rw [Tryz.underlying130]
 rw [run_equalIn_agg w (d+1) 130 _ _ c sh130];unfold Program.fieldsOf;rw [Tryz.underlying130];simp [Op.eqFields,part,Tryz.isAgg4,Tryz.isAgg9,run_equalIn_bool' _ _ _ _ _ Tryz.underlying4,run_equalIn_string _ _ _ _ _ Tryz.underlying9];unfold eqW;cases hab:(a == b)
 .simp_all
 .by_cases h:s.toList=t.toList<;>simp_all
def eql130(w:World){a:Bool}{s:ByteArray}{b:Bool}{t:ByteArray}:(binOp .eql 130 (.agg #[.bool a,.string s]) (.agg #[.bool b,.string t])).run Tryz.prog w= .ok (.bool (eqW a s b t)) w:=by rw [run_eql_struct,in130];rfl
end Go.Sky
theorem Go.Proofs.Tryz.ti23:Go.Proofs.Tryz.prog.info? 23=some Go.Proofs.Tryz.t23:=Go.Sky.O7
namespace Go.Sky
open Go.Proofs
end Go.Sky
theorem Go.Proofs.Tryz.ti31:Go.Proofs.Tryz.prog.info? 31=some Go.Proofs.Tryz.t31:=Go.Sky.O7
namespace Go.Sky
open Go.Proofs
end Go.Sky
theorem Go.Proofs.Tryz.ti37:Go.Proofs.Tryz.prog.info? 37=some Go.Proofs.Tryz.t37:=Go.Sky.O7
namespace Go.Sky
open Go.Proofs
end Go.Sky
theorem Go.Proofs.Tryz.ti50:Go.Proofs.Tryz.prog.info? 50=some Go.Proofs.Tryz.t50:=Go.Sky.O7
namespace Go.Sky
open Go.Proofs
end Go.Sky
theorem Go.Proofs.Tryz.ti52:Go.Proofs.Tryz.prog.info? 52=some Go.Proofs.Tryz.t52:=Go.Sky.O7
namespace Go.Sky
open Go.Proofs
end Go.Sky
theorem Go.Proofs.Tryz.ti96:Go.Proofs.Tryz.prog.info? 96=some Go.Proofs.Tryz.t96:=Go.Sky.O7
namespace Go.Sky
open Go.Proofs
end Go.Sky
theorem Go.Proofs.Tryz.ti101:Go.Proofs.Tryz.prog.info? 101=some Go.Proofs.Tryz.t101:=Go.Sky.O7
namespace Go.Sky
open Go.Proofs
end Go.Sky
theorem Go.Proofs.Tryz.ti130:Go.Proofs.Tryz.prog.info? 130=some Go.Proofs.Tryz.t130:=Go.Sky.O7
namespace Go.Sky
open Go.Proofs
end Go.Sky
theorem Go.Proofs.Tryz.ti132:Go.Proofs.Tryz.prog.info? 132=some Go.Proofs.Tryz.t132:=Go.Sky.O7
namespace Go.Sky
open Go.Proofs
end Go.Sky
theorem Go.Proofs.Tryz.ti275:Go.Proofs.Tryz.prog.info? 275=some Go.Proofs.Tryz.t275:=Go.Sky.O7
namespace Go.Sky
open Go.Proofs
variable{v0 v1 v2:Value}
theorem Zin(a:v0.oneCell'=true)(b:v1.oneCell'=true):Tryz.prog.built 23 [(0,v0),(1,v1)]=some #[v0,v1,.int .i64 0]:=by refine Qi Tryz.ti23 Tryz.underlying23 rfl (pl:=[(0,1),(1,1),(2,1)]) (by simp [Tryz.ti3];try decide) ?_;simp [Instr.fill,Zn a,Zn b,show(Value.agg #[.int .i64 0,.int .i64 0,.int .i64 0]).cells=#[.int .i64 0,.int .i64 0,.int .i64 0]from rfl]
theorem Zka(a:v0.oneCell'=true)(b:v1.oneCell'=true)(c:v2.oneCell'=true):Tryz.prog.built 23 [(0,v0),(1,v1),(2,v2)]=some #[v0,v1,v2]:=by refine Qi Tryz.ti23 Tryz.underlying23 rfl (pl:=[(0,1),(1,1),(2,1)]) (by simp [Tryz.ti3];try decide) ?_;simp [Instr.fill,Zn a,Zn b,Zn c,show(Value.agg #[.int .i64 0,.int .i64 0,.int .i64 0]).cells=#[.int .i64 0,.int .i64 0,.int .i64 0]from rfl]
theorem Zf0(a:v0.oneCell'=true)(b:v2.oneCell'=true):Tryz.prog.built 23 [(0,v0),(2,v2)]=some #[v0,.int .i64 0,v2]:=by refine Qi Tryz.ti23 Tryz.underlying23 rfl (pl:=[(0,1),(1,1),(2,1)]) (by simp [Tryz.ti3];try decide) ?_;simp [Instr.fill,Zn a,Zn b,show(Value.agg #[.int .i64 0,.int .i64 0,.int .i64 0]).cells=#[.int .i64 0,.int .i64 0,.int .i64 0]from rfl]
theorem b23_2(a:v2.oneCell'=true):Tryz.prog.built 23 [(2,v2)]=some #[.int .i64 0,.int .i64 0,v2]:=by refine Qi Tryz.ti23 Tryz.underlying23 rfl (pl:=[(0,1),(1,1),(2,1)]) (by simp [Tryz.ti3];try decide) ?_;simp [Instr.fill,Zn a,show(Value.agg #[.int .i64 0,.int .i64 0,.int .i64 0]).cells=#[.int .i64 0,.int .i64 0,.int .i64 0]from rfl]
end Go.Sky
theorem Go.Proofs.Tryz.ti40:Go.Proofs.Tryz.prog.info? 40=some Go.Proofs.Tryz.t40:=Go.Sky.O7
namespace Go.Sky
open Go.Proofs
end Go.Sky
theorem Go.Proofs.Tryz.ti38:Go.Proofs.Tryz.prog.info? 38=some Go.Proofs.Tryz.t38:=Go.Sky.O7
namespace Go.Sky
open Go.Proofs
def b40_03{a b:Value}(c:a.oneCell'=true)(d:b.oneCell'=true):Tryz.prog.built 40 [(0,a),(3,b)]=some #[a,.slice none 0 0,.int .i64 0,b]:=by refine Qi Tryz.ti40 Tryz.underlying40 rfl (pl:=[(0,1),(1,1),(2,1),(3,1)]) (by simp [Tryz.ti3,Tryz.ti37,Tryz.ti38];try decide) ?_;simp [Instr.fill,Zn c,Zn d,show(Value.agg #[.slice none 0 0,.slice none 0 0,.int .i64 0,.int .i64 0]).cells=#[.slice none 0 0,.slice none 0 0,.int .i64 0,.int .i64 0]from rfl]
end Go.Sky
theorem Go.Proofs.Tryz.ti42:Go.Proofs.Tryz.prog.info? 42=some Go.Proofs.Tryz.t42:=Go.Sky.O7
namespace Go.Sky
open Go.Proofs
def Ycd{a b c:Value}(d:a.oneCell'=true)(e:b.oneCell'=true)(f:c.oneCell'=true):Tryz.prog.built 42 [(0,a),(1,b),(2,c)]=some #[a,b,c]:=by refine Qi Tryz.ti42 Tryz.underlying42 rfl (pl:=[(0,1),(1,1),(2,1)]) (by simp [Tryz.ti3];try decide) ?_;simp [Instr.fill,Zn d,Zn e,Zn f,show(Value.agg #[.int .i64 0,.int .i64 0,.int .i64 0]).cells=#[.int .i64 0,.int .i64 0,.int .i64 0]from rfl]
def Zim{a b:Value}(c:a.oneCell'=true)(d:b.oneCell'=true):Tryz.prog.built 50 [(0,a),(1,b)]=some #[a,b]:=by refine Qi Tryz.ti50 Tryz.underlying50 rfl (pl:=[(0,1),(1,1)]) (by simp [Tryz.ti3];try decide) ?_;simp [Instr.fill,Zn c,Zn d,show(Value.agg #[.int .i64 0,.int .i64 0]).cells=#[.int .i64 0,.int .i64 0]from rfl]
def Zyo{a b c d e:Value} : Tryz.prog.built 52 [(0,.agg #[a,b]),(1,.agg #[c,d,e])]=some #[a,b,c,d,e]:=by refine Qi Tryz.ti52 Tryz.underlying52 rfl (pl:=[(0,2),(2,3)]) (by simp [Tryz.ti23,Tryz.ti50];try decide) ?_;simp [Instr.fill,show(Value.agg #[a,b]).cells=#[a,b]from rfl,show(Value.agg #[c,d,e]).cells=#[c,d,e]from rfl,show(Value.agg #[.int .i64 0,.int .i64 0,.int .i64 0,.int .i64 0,.int .i64 0]).cells=#[.int .i64 0,.int .i64 0,.int .i64 0,.int .i64 0,.int .i64 0]from rfl]
end Go.Sky
theorem Go.Proofs.Tryz.ti4:Go.Proofs.Tryz.prog.info? 4=some Go.Proofs.Tryz.t4:=Go.Sky.O7
namespace Go.Sky
open Go.Proofs
end Go.Sky
theorem Go.Proofs.Tryz.ti99:Go.Proofs.Tryz.prog.info? 99=some Go.Proofs.Tryz.t99:=Go.Sky.O7
namespace Go.Sky
open Go.Proofs
def Yq6{a b:Value}(c:a.oneCell'=true)(d:b.oneCell'=true):Tryz.prog.built 101 [(0,a),(1,b)]=some #[a,b,.int .i64 0,.slice none 0 0,.slice none 0 0,.slice none 0 0]:=by refine Qi Tryz.ti101 Tryz.underlying101 rfl (pl:=[(0,1),(1,1),(2,1),(3,1),(4,1),(5,1)]) (by simp [Tryz.ti3,Tryz.ti99];try decide) ?_;simp [Instr.fill,Zn c,Zn d,show(Value.agg #[.int .i64 0,.int .i64 0,.int .i64 0,.slice none 0 0,.slice none 0 0,.slice none 0 0]).cells=#[.int .i64 0,.int .i64 0,.int .i64 0,.slice none 0 0,.slice none 0 0,.slice none 0 0]from rfl]
def Zv7{a b c d e f:Value}(g:a.oneCell'=true)(h:b.oneCell'=true)(i:c.oneCell'=true)(j:d.oneCell'=true)(k:e.oneCell'=true)(l:f.oneCell'=true):Tryz.prog.built 101 [(0,a),(1,b),(2,c),(3,d),(4,e),(5,f)]=some #[a,b,c,d,e,f]:=by refine Qi Tryz.ti101 Tryz.underlying101 rfl (pl:=[(0,1),(1,1),(2,1),(3,1),(4,1),(5,1)]) (by simp [Tryz.ti3,Tryz.ti99];try decide) ?_;simp [Instr.fill,Zn g,Zn h,Zn i,Zn j,Zn k,Zn l,show(Value.agg #[.int .i64 0,.int .i64 0,.int .i64 0,.slice none 0 0,.slice none 0 0,.slice none 0 0]).cells=#[.int .i64 0,.int .i64 0,.int .i64 0,.slice none 0 0,.slice none 0 0,.slice none 0 0]from rfl]
end Go.Sky
theorem Go.Proofs.Tryz.ti120:Go.Proofs.Tryz.prog.info? 120=some Go.Proofs.Tryz.t120:=Go.Sky.O7
namespace Go.Sky
open Go.Proofs
def Zyp{a b c:Value} : Tryz.prog.built 120 [(0,.agg #[a,b,c])]=some #[a,b,c]:=by refine Qi Tryz.ti120 Tryz.underlying120 rfl (pl:=[(0,3)]) (by simp [Tryz.ti42];try decide) ?_;simp [Instr.fill,show(Value.agg #[a,b,c]).cells=#[a,b,c]from rfl,show(Value.agg #[.int .i64 0,.int .i64 0,.int .i64 0]).cells=#[.int .i64 0,.int .i64 0,.int .i64 0]from rfl]
end Go.Sky
theorem Go.Proofs.Tryz.ti9:Go.Proofs.Tryz.prog.info? 9=some Go.Proofs.Tryz.t9:=Go.Sky.O7
namespace Go.Sky
open Go.Proofs
def Ylv:Tryz.prog.built 130 []=some #[.bool false,.string ⟨#[]⟩]:=by refine Qi Tryz.ti130 Tryz.underlying130 rfl (pl:=[(0,1),(1,1)]) (by simp [Tryz.ti4,Tryz.ti9];try decide) ?_;simp [Instr.fill,show(Value.agg #[.bool false,.string ⟨#[]⟩]).cells=#[.bool false,.string ⟨#[]⟩]from rfl]
def Yce{a b:Value}(c:a.oneCell'=true)(d:b.oneCell'=true):Tryz.prog.built 130 [(0,a),(1,b)]=some #[a,b]:=by refine Qi Tryz.ti130 Tryz.underlying130 rfl (pl:=[(0,1),(1,1)]) (by simp [Tryz.ti4,Tryz.ti9];try decide) ?_;simp [Instr.fill,Zn c,Zn d,show(Value.agg #[.bool false,.string ⟨#[]⟩]).cells=#[.bool false,.string ⟨#[]⟩]from rfl]
def Zv6:Tryz.prog.built 132 []=some #[.bool false,.string ⟨#[]⟩,.bool false,.string ⟨#[]⟩]:=by refine Qi Tryz.ti132 Tryz.underlying132 rfl (pl:=[(0,2),(2,2)]) (by simp [Tryz.ti130];try decide) ?_;simp [Instr.fill,show(Value.agg #[.bool false,.string ⟨#[]⟩,.bool false,.string ⟨#[]⟩]).cells=#[.bool false,.string ⟨#[]⟩,.bool false,.string ⟨#[]⟩]from rfl]
def Zhl{a b c d:Value} : Tryz.prog.built 132 [(0,.agg #[a,b]),(1,.agg #[c,d])]=some #[a,b,c,d]:=by refine Qi Tryz.ti132 Tryz.underlying132 rfl (pl:=[(0,2),(2,2)]) (by simp [Tryz.ti130];try decide) ?_;simp [Instr.fill,show(Value.agg #[a,b]).cells=#[a,b]from rfl,show(Value.agg #[c,d]).cells=#[c,d]from rfl,show(Value.agg #[.bool false,.string ⟨#[]⟩,.bool false,.string ⟨#[]⟩]).cells=#[.bool false,.string ⟨#[]⟩,.bool false,.string ⟨#[]⟩]from rfl]
end Go.Sky
theorem Go.Proofs.Tryz.ti142:Go.Proofs.Tryz.prog.info? 142=some Go.Proofs.Tryz.t142:=Go.Sky.O7
namespace Go.Sky
open Go.Proofs
def Yej{a b c d e f g h:Value} : Tryz.prog.built 142 [(0,.agg #[a,b]),(1,.agg #[c,d]),(2,.agg #[e,f]),(3,.agg #[g,h])]=some #[a,b,c,d,e,f,g,h]:=by refine Qi Tryz.ti142 Tryz.underlying142 rfl (pl:=[(0,2),(2,2),(4,2),(6,2)]) (by simp [Tryz.ti130];try decide) ?_;simp [Instr.fill,show(Value.agg #[a,b]).cells=#[a,b]from rfl,show(Value.agg #[c,d]).cells=#[c,d]from rfl,show(Value.agg #[e,f]).cells=#[e,f]from rfl,show(Value.agg #[g,h]).cells=#[g,h]from rfl,show(Value.agg #[.bool false,.string ⟨#[]⟩,.bool false,.string ⟨#[]⟩,.bool false,.string ⟨#[]⟩,.bool false,.string ⟨#[]⟩]).cells=#[.bool false,.string ⟨#[]⟩,.bool false,.string ⟨#[]⟩,.bool false,.string ⟨#[]⟩,.bool false,.string ⟨#[]⟩]from rfl]
end Go.Sky
theorem Go.Proofs.Tryz.ti188:Go.Proofs.Tryz.prog.info? 188=some Go.Proofs.Tryz.t188:=Go.Sky.O7
namespace Go.Sky
open Go.Proofs
end Go.Sky
theorem Go.Proofs.Tryz.ti186:Go.Proofs.Tryz.prog.info? 186=some Go.Proofs.Tryz.t186:=Go.Sky.O7
namespace Go.Sky
open Go.Proofs
def Ku{a b:Value}(c:a.oneCell'=true)(d:b.oneCell'=true):Tryz.prog.built 188 [(0,a),(1,b)]=some #[a,b]:=by refine Qi Tryz.ti188 Tryz.underlying188 rfl (pl:=[(0,1),(1,1)]) (by simp [Tryz.ti186,Tryz.ti4];try decide) ?_;simp [Instr.fill,Zn c,Zn d,show(Value.agg #[.bool false,.slice none 0 0]).cells=#[.bool false,.slice none 0 0]from rfl]
def Yls{a b c:Value}(d:a.oneCell'=true)(e:b.oneCell'=true)(f:c.oneCell'=true):Tryz.prog.built 275 [(0,a),(1,b),(2,c)]=some #[a,b,c]:=by refine Qi Tryz.ti275 Tryz.underlying275 rfl (pl:=[(0,1),(1,1),(2,1)]) (by simp [Tryz.ti3,Tryz.ti96];try decide) ?_;simp [Instr.fill,Zn d,Zn e,Zn f,show(Value.agg #[.int .i64 0,.int .i64 0,.slice none 0 0]).cells=#[.int .i64 0,.int .i64 0,.slice none 0 0]from rfl]
end Go.Sky
theorem Go.Proofs.Tryz.ti299:Go.Proofs.Tryz.prog.info? 299=some Go.Proofs.Tryz.t299:=Go.Sky.O7
namespace Go.Sky
open Go.Proofs
variable{N:Nat}{sc:Nat->Prop}{env:Qm}{r:Value}{pre:List Pc}{t:TypeId}
theorem Yq5{a b c d e f g h:Value} : Tryz.prog.built 299 [(0,.agg #[a,b,c,d]),(1,.agg #[e,f,g,h])]=some #[a,b,c,d,e,f,g,h]:=by refine Qi Tryz.ti299 Tryz.underlying299 rfl (pl:=[(0,4),(4,4)]) (by simp [Tryz.ti132];try decide) ?_;simp [Instr.fill,show(Value.agg #[a,b,c,d]).cells=#[a,b,c,d]from rfl,show(Value.agg #[e,f,g,h]).cells=#[e,f,g,h]from rfl,show(Value.agg #[.bool false,.string ⟨#[]⟩,.bool false,.string ⟨#[]⟩,.bool false,.string ⟨#[]⟩,.bool false,.string ⟨#[]⟩]).cells=#[.bool false,.string ⟨#[]⟩,.bool false,.string ⟨#[]⟩,.bool false,.string ⟨#[]⟩,.bool false,.string ⟨#[]⟩]from rfl]
def J{α:Sort _}{a:α} : a=a:=rfl
def CA{α:Type _}(a:α)(s t:List α):(a::s) ++ t=a::(s ++ t):=rfl
def NA{α:Type _}(t:List α):[] ++ t=t:=rfl
abbrev Xf (P:Program) (f:FuncId) (a:Array Value) (p:List Pc) (v:Value):Prop:=Cal P f a p false (G:=Unit) (λ_=>True) (λ_=>v) (λ_=>[])
abbrev rX (x y:Int):Value:= .agg #[.bool (decide (x<0)),.string (Xo x.natAbs),.bool (decide (y<0)),.string (Xo y.natAbs)]
def vB{a b:Bool}(h:a=b):Value.bool a=Value.bool b:=aH _ h
def dF{P:Program}{o:Oper}{H:Hp}(h:Ld P N sc o env H r)(e:r= .bool false):Ld P N sc o env H (.bool false):=Yl _ h e
def dT{P:Program}{o:Oper}{H:Hp}(h:Ld P N sc o env H r)(e:r= .bool true):Ld P N sc o env H (.bool true):=Yl _ h e
def xG{P:Program}{H:Hp}{fn:Func}{al:Bool}{G:Type}{φ:G->Prop}{val:G->Value}{d:G->List Pc}{w0:World}{r1:ResultVar}{v:Value}(e:∀b,sc b->w0.heap.size<=b\/∃q∈pre,q.fp b)(g:G)(i:fn.results=#[r1])(h:RV P N sc env H r1 v)(k:val g=v)(j:φ g)(f:lk H 0=some (Zy w0 (λ_=>False)))(c:Give H al (d g)):X N sc .ret (Za1 P fn w0 pre al φ val d) env H:=Em (.inl rfl) e g (v:=v) (λa w hs=>Fw hs i h) k j f c
def K1{t0:Sort _}{a:t0} : a=a/\True:=⟨rfl,aA⟩
def K2{t0:Sort _}{a:t0}{t1:Sort _}{b:t1} : a=a/\b=b/\True:=⟨rfl,rfl,aA⟩
def K3{t0:Sort _}{a:t0}{t1:Sort _}{b:t1}{t2:Sort _}{c:t2} : a=a/\b=b/\c=c/\True:=⟨rfl,rfl,rfl,aA⟩
def K4{t0:Sort _}{a:t0}{t1:Sort _}{b:t1}{t2:Sort _}{c:t2}{t3:Sort _}{d:t3} : a=a/\b=b/\c=c/\d=d/\True:=⟨rfl,rfl,rfl,rfl,aA⟩
def K5{t0:Sort _}{a:t0}{t1:Sort _}{b:t1}{t2:Sort _}{c:t2}{t3:Sort _}{d:t3}{t4:Sort _}{e:t4} : a=a/\b=b/\c=c/\d=d/\e=e/\True:=⟨rfl,rfl,rfl,rfl,rfl,aA⟩
def K6{t0:Sort _}{a:t0}{t1:Sort _}{b:t1}{t2:Sort _}{c:t2}{t3:Sort _}{d:t3}{t4:Sort _}{e:t4}{t5:Sort _}{f:t5} : a=a/\b=b/\c=c/\d=d/\e=e/\f=f/\True:=⟨rfl,rfl,rfl,rfl,rfl,rfl,aA⟩
def K7{t0:Sort _}{a:t0}{t1:Sort _}{b:t1}{t2:Sort _}{c:t2}{t3:Sort _}{d:t3}{t4:Sort _}{e:t4}{t5:Sort _}{f:t5}{t6:Sort _}{g:t6} : a=a/\b=b/\c=c/\d=d/\e=e/\f=f/\g=g/\True:=⟨rfl,rfl,rfl,rfl,rfl,rfl,rfl,aA⟩
def K8{t0:Sort _}{a:t0}{t1:Sort _}{b:t1}{t2:Sort _}{c:t2}{t3:Sort _}{d:t3}{t4:Sort _}{e:t4}{t5:Sort _}{f:t5}{t6:Sort _}{g:t6}{t7:Sort _}{h:t7} : a=a/\b=b/\c=c/\d=d/\e=e/\f=f/\g=g/\h=h/\True:=⟨rfl,rfl,rfl,rfl,rfl,rfl,rfl,rfl,aA⟩
def K9{t0:Sort _}{a:t0}{t1:Sort _}{b:t1}{t2:Sort _}{c:t2}{t3:Sort _}{d:t3}{t4:Sort _}{e:t4}{t5:Sort _}{f:t5}{t6:Sort _}{g:t6}{t7:Sort _}{h:t7}{t8:Sort _}{i:t8} : a=a/\b=b/\c=c/\d=d/\e=e/\f=f/\g=g/\h=h/\i=i/\True:=⟨rfl,rfl,rfl,rfl,rfl,rfl,rfl,rfl,rfl,aA⟩
def K10{t0:Sort _}{a:t0}{t1:Sort _}{b:t1}{t2:Sort _}{c:t2}{t3:Sort _}{d:t3}{t4:Sort _}{e:t4}{t5:Sort _}{f:t5}{t6:Sort _}{g:t6}{t7:Sort _}{h:t7}{t8:Sort _}{i:t8}{t9:Sort _}{j:t9} : a=a/\b=b/\c=c/\d=d/\e=e/\f=f/\g=g/\h=h/\i=i/\j=j/\True:=⟨rfl,rfl,rfl,rfl,rfl,rfl,rfl,rfl,rfl,rfl,aA⟩
def K11{t0:Sort _}{b:t0}{t1:Sort _}{c:t1}{t2:Sort _}{d:t2}{t3:Sort _}{e:t3}{t4:Sort _}{f:t4}{t5:Sort _}{g:t5}{t6:Sort _}{h:t6}{t7:Sort _}{i:t7}{t8:Sort _}{j:t8}{t9:Sort _}{k:t9}{t10:Sort _}{a:t10} : b=b/\c=c/\d=d/\e=e/\f=f/\g=g/\h=h/\i=i/\j=j/\k=k/\a=a/\True:=⟨rfl,rfl,rfl,rfl,rfl,rfl,rfl,rfl,rfl,rfl,rfl,aA⟩
def K12{t0:Sort _}{c:t0}{t1:Sort _}{d:t1}{t2:Sort _}{e:t2}{t3:Sort _}{f:t3}{t4:Sort _}{g:t4}{t5:Sort _}{h:t5}{t6:Sort _}{i:t6}{t7:Sort _}{j:t7}{t8:Sort _}{k:t8}{t9:Sort _}{l:t9}{t10:Sort _}{a:t10}{t11:Sort _}{b:t11} : c=c/\d=d/\e=e/\f=f/\g=g/\h=h/\i=i/\j=j/\k=k/\l=l/\a=a/\b=b/\True:=⟨rfl,rfl,rfl,rfl,rfl,rfl,rfl,rfl,rfl,rfl,rfl,rfl,aA⟩
def K13{t0:Sort _}{d:t0}{t1:Sort _}{e:t1}{t2:Sort _}{f:t2}{t3:Sort _}{g:t3}{t4:Sort _}{h:t4}{t5:Sort _}{i:t5}{t6:Sort _}{j:t6}{t7:Sort _}{k:t7}{t8:Sort _}{l:t8}{t9:Sort _}{m:t9}{t10:Sort _}{a:t10}{t11:Sort _}{b:t11}{t12:Sort _}{c:t12} : d=d/\e=e/\f=f/\g=g/\h=h/\i=i/\j=j/\k=k/\l=l/\m=m/\a=a/\b=b/\c=c/\True:=⟨rfl,rfl,rfl,rfl,rfl,rfl,rfl,rfl,rfl,rfl,rfl,rfl,rfl,aA⟩
def K14{t0:Sort _}{e:t0}{t1:Sort _}{f:t1}{t2:Sort _}{g:t2}{t3:Sort _}{h:t3}{t4:Sort _}{i:t4}{t5:Sort _}{j:t5}{t6:Sort _}{k:t6}{t7:Sort _}{l:t7}{t8:Sort _}{m:t8}{t9:Sort _}{n:t9}{t10:Sort _}{a:t10}{t11:Sort _}{b:t11}{t12:Sort _}{c:t12}{t13:Sort _}{d:t13} : e=e/\f=f/\g=g/\h=h/\i=i/\j=j/\k=k/\l=l/\m=m/\n=n/\a=a/\b=b/\c=c/\d=d/\True:=⟨rfl,rfl,rfl,rfl,rfl,rfl,rfl,rfl,rfl,rfl,rfl,rfl,rfl,rfl,aA⟩
def K15{t0:Sort _}{f:t0}{t1:Sort _}{g:t1}{t2:Sort _}{h:t2}{t3:Sort _}{i:t3}{t4:Sort _}{j:t4}{t5:Sort _}{k:t5}{t6:Sort _}{l:t6}{t7:Sort _}{m:t7}{t8:Sort _}{n:t8}{t9:Sort _}{o:t9}{t10:Sort _}{a:t10}{t11:Sort _}{b:t11}{t12:Sort _}{c:t12}{t13:Sort _}{d:t13}{t14:Sort _}{e:t14} : f=f/\g=g/\h=h/\i=i/\j=j/\k=k/\l=l/\m=m/\n=n/\o=o/\a=a/\b=b/\c=c/\d=d/\e=e/\True:=⟨rfl,rfl,rfl,rfl,rfl,rfl,rfl,rfl,rfl,rfl,rfl,rfl,rfl,rfl,rfl,aA⟩
def K17{t0:Sort _}{h:t0}{t1:Sort _}{i:t1}{t2:Sort _}{j:t2}{t3:Sort _}{k:t3}{t4:Sort _}{l:t4}{t5:Sort _}{m:t5}{t6:Sort _}{n:t6}{t7:Sort _}{o:t7}{t8:Sort _}{p:t8}{t9:Sort _}{q:t9}{t10:Sort _}{a:t10}{t11:Sort _}{b:t11}{t12:Sort _}{c:t12}{t13:Sort _}{d:t13}{t14:Sort _}{e:t14}{t15:Sort _}{f:t15}{t16:Sort _}{g:t16} : h=h/\i=i/\j=j/\k=k/\l=l/\m=m/\n=n/\o=o/\p=p/\q=q/\a=a/\b=b/\c=c/\d=d/\e=e/\f=f/\g=g/\True:=⟨rfl,rfl,rfl,rfl,rfl,rfl,rfl,rfl,rfl,rfl,rfl,rfl,rfl,rfl,rfl,rfl,rfl,aA⟩
def iA3:=@Go.Proofs.Tryz.isAgg3
def Ah:=@Go.Proofs.Tryz.sizeOf101
def Oc:=@Go.Proofs.Tryz.sizeOf130
def zT222:=@Go.Proofs.Tryz.sizeOf222
def Zaa:=@Go.Proofs.Tryz.sizeOf23
def Fm:=@Go.Proofs.Tryz.sizeOf3
def Dl:=@Go.Proofs.Tryz.sizeOf87
def Zsj:=@Go.Proofs.Tryz.sizeOf99
def Zev:=@Go.Proofs.Tryz.underlying101
def Zkm:=@Go.Proofs.Tryz.underlying145
def Po:=@Go.Proofs.Tryz.underlying186
def Zkl:=@Go.Proofs.Tryz.underlying245
def Znq:=@Go.Proofs.Tryz.underlying246
def uT259:=@Go.Proofs.Tryz.underlying259
def Znp:=@Go.Proofs.Tryz.underlying291
def uT3:=@Go.Proofs.Tryz.underlying3
def Zcv:=@Go.Proofs.Tryz.underlying31
def Ep:=@Go.Proofs.Tryz.underlying37
def Zkk:=@Go.Proofs.Tryz.underlying38
def uT5:=@Go.Proofs.Tryz.underlying5
def Zm9:=@Go.Proofs.Tryz.underlying63
def Zhr:=@Go.Proofs.Tryz.underlying87
def uT9:=@Go.Proofs.Tryz.underlying9
def Ym0:=@Go.Proofs.Tryz.underlying95
def Mv:=@Go.Proofs.Tryz.underlying96
def Ll:=@Go.Proofs.Tryz.underlying99
open Go.ChangeShapes Go.WideShapes Go.ChangeAt Go.RowKit Go.Joins Go.Deep
variable {P:Program} {W:World} {H:Type} {enc:TypeId×Value->H}
theorem Zdp{α:Type}[Inhabited α]{p:Nat->α->Prop} : ∀n,(∀i,i<n->∃x,p i x)->∃xs:List α,xs.length=n/\∀i x,xs[i]? = some x->p i x
 | 0,_=>⟨[],rfl,λi x h=>by simp at h⟩
 | n+1,h=>by
  obtain⟨xs,c,d⟩:=Zdp n λi hi=>h i O1;obtain⟨x,e⟩:=h n O1;refine⟨xs ++ [x],by simp [c],λi y a=>?_⟩;rcases bA i n with hi|hi
  .rw [fH O1]at a;exact d i y a
  .rw [iA O1,c]at a;rcases bB (i-n)with b|b
   .rw [b]at a;simp at a;subst a;rw [show i=n by omega];exact e
   .rw [cW O10]at a;cases a
theorem Zlm{r:Reach}{i:Nat}{e:TypeId}{a:Addr}{g c:Nat}(hs:P.underlying t=some (.slice e))(b:Value.okWide P W r i t (.slice (some a) g c)):a.spot=none/\a.block<W.heap.size:=by
 unfold Value.okWide at b;rw [hs]at b;simp only at b;unfold Cell.okWide at b;rw [hs]at b;simp only at b;unfold Cell.ok at b;rw [hs]at b;simp only at b;obtain⟨_,_,_,j,k,d,f,_⟩:=b;refine⟨j,?_⟩;unfold World.shape? at f;rcases bA a.block W.heap.size with h|h
 .exact h
 .rw [Array.getElem?_eq_none h]at f;simp at f
end Go.Sky
namespace Go.Sky
abbrev qT (z:SL×List (Int×SL)):Pc:=pp (Xa z.1) z.2
abbrev T0:SL×List (Int×SL):=((none,0,0),[])
abbrev intsT (zs:List (SL×List (Int×SL))):List (List Int):=zs.map λz=>ints z.2
set_option maxRecDepth 20000
def Kg{p:List Int}{c:Int}:(Yo p c).length<=p.length:=by unfold Yo;grind [Ge,List.length_map]
def Iv{y:Int}(h:y≠0):∀n:Nat,y^n≠0
 | 0=>O8
 | n+1=>by rw [eJ];exact bF (Iv h n) h
def shm(q:List Int)(c:Int)(s i:Nat):List Int:=mk (s+i) λt=>if t<s then 0 else c*cf q (t-s)
def Yk8(q:List Int)(c:Int)(s t:Nat):cf (shm q c s q.length) t=if s<=t/\t<s+q.length then c*cf q (t-s)else 0:=by unfold shm;rw [Ih];omega
section
variable {p q:List Int}
theorem Zk4(c:0<q.length)(b:q.length<=p.length):∀j,j<=p.length-q.length+1->∀t,p.length-j<=t->cf (Oe p q j) t=0
 | 0,_,t,d=>Yx ‹_›
 | j+1,e,t,d=>by
  rcases bA t _ with h|h
  .unfold Oe;rw [Zvz (by exact h)];by_cases a:t=p.length-1-j
   .subst a;rw [show p.length-1-j-(p.length-1-j-(q.length-1))=q.length-1 by omega];omega
   .rw [Zk4 c b j O1 t O1,cQ,aF O1];rfl
  grind [Yx,Kj]
def RestInv(p q R:List Int)(j:Nat):Prop:=Tr R/\∀t,cf R t=cf (Oe p q j) t*cf q (q.length-1)^(p.length-q.length+1-j)
end
end Go.Sky
namespace Go.Sky
section
variable {P:Program} {N:Nat} {sc:Nat->Prop} {env env':Qm} {H H':Hp}
end
end Go.Sky
namespace Go.Sky
variable{P:Program}{sc M:Nat->Prop}{ops:Array Oper}{rest:List (Nat×Nat)}
def rterm(a b:Int):Nat->List Int
 | 0=>[1]
 | i+1=>Pa (rterm a b i) (tzl [a,b])
def rsum(p:List Int)(a b d:Int):Nat->List Int
 | 0=>[]
 | i+1=>Za7 (rsum p a b d i) (Yo (rterm a b i) (cf p i*d^(p.length-1-i)))
def hs(f:Nat->PS):Nat->PS
 | 0=>0
 | n+1=>hs f n+f n
theorem Ygz(p:List Int):ps (tzl p)=ps p:=PS.ext' λi=>Hm p i
abbrev RW:=List (Bool×ByteArray)
abbrev qR (z:SL×RW):Pc:=Yt 2 Yj3 (Xa z.1) z.2
abbrev qZ (z:SL×List Int):Pc:=Yt 2 wv (Xa z.1) z.2
abbrev R0:SL×RW:=((none,0,0),[])
def short1(r:RW):Bool:=(decide (r.length<=14) || decide (r.length=26)) && r.all λc=>decide (c.2.size<=16)
def shortb(a:List RW):Bool:=a.all short1
def Zac  {N:Nat}   {env:Qm} {H:Hp}  {F:Qm->Hp->Prop}  {i:Nat} {o:Oper} {G:Type} {φ:G->Prop} {a:G->Qm} {d:G->Hp} {j e:Nat} {b:Bool} (m:ops[i]? = some o) (k:o.guard=some (j,b)) (l:(ops[j]?).bind (·.dst)=some e) (f:lk env e=some (.bool b)) (c:Nat.blt e N=true) (n:T P N sc M o env H φ a d)
  (h:∀g,φ g->LD P N sc M ops F rest (a g) (d g)) :
  LD P N sc M ops F ((i,1)::rest) env H:=r1g n m k l f c h
end Go.Sky

