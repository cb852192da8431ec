/- Rules, arithmetic and contracts: part 3. No conditions but those that each theorem names. -/
import Derived.Test.YthennaflbbajkaaGreatAd01
import Derived.Test.YthennaflbbajkaaGreatProg
import Derived.Test.YthennaflbbajkaaGreatRows
import Derived.WalkKit
import Derived.ProofKit
import Derived.OpenShut
import Derived.ShutString
import Derived.ChangeOld
import Derived.Deep.Slices
import Derived.Lib.SmallJoins
set_option linter.all false
namespace Go.Sky
variable{k i B t top:Nat}{f:Nat->Int}{q r c R:List Int}{a b:Int}
def acc(p q:List Int)(i t:Nat):Int:=Ye (λk=>if k<=t then cf p k*cf q (t-k)else 0) i
def Za1(p q:List Int)(i j t:Nat):Int:=acc p q i t+if i<=t/\t<i+j then cf p i*cf q (t-i)else 0
theorem Ycp(p q:List Int)(i:Nat):Za1 p q i 0=acc p q i:=mO λt=>by unfold Za1;omega
theorem Yjf(p q:List Int)(i:Nat):Za1 p q i q.length=acc p q (i+1):=mO λt=>by
 unfold Za1 acc;rw [Yr];by_cases h:i<=t
 .rw [aO h];by_cases d:t<i+q.length
  .omega
  .rw [aJ (λh=>d h.2),Yw (p:=q) O,dY]
 omega
theorem Zkr{L:Nat}{g:Nat->Int}(d:k<L)(h:∀t,t<L->t≠k->f t=g t){x:Int}(j:x=g k):(mk L f).set k x=mk L g:=Ko (by simp [Yy]) λt e=>by simp_all [bZ,Yy,Zls,Ks,aO,aJ]
theorem Yje{p:List Int}{L j:Nat}(h:i+j<L):(mk L (Za1 p q i j)).set (i+j) (Za1 p q i j (i+j)+cf p i*cf q j)=mk L (Za1 p q i (j+1)):=by
 refine Zkr h (λt e d=>?_) ?_
 .unfold Za1;omega
 .unfold Za1;simp
theorem Zur(p q:List Int)(t:Nat):acc p q p.length t=(ps p*ps q).c t:=by
 unfold acc;have d:Ye _ (max (t+1) p.length)=Ye (λk=>if k<=t then cf p k*cf q (t-k)else 0) p.length:=
  Zgv O λk d _=>by simp_all [Yw,cN]
 have e:Ye (λk=>if k<=t then cf p k*cf q (t-k)else 0) (max (t+1) p.length)=Ye _ (t+1):=
  Zgv O λk d _=>O
 rw [<-d,e];exact Xj λk g=>by rw [aO O];rfl
theorem Zvh(L:Nat):List.replicate L 0=mk L λ_=>0:=by rw [Be L λ_=>0];rfl
theorem Ye3(p q:List Int):tzl (mk (p.length+q.length-1) (acc p q p.length))=Qx p q:=by unfold Qx;grind [Bo,Zur]
theorem Yn3{p:List Int}{A j:Nat}(d:Sz A p)(e:Sz B q)(hi:i<31):bl (Za1 p q i j t).natAbs<=A+B+5:=by
 have h:Za1 p q i j t=Ye (λk=>if k<i then(if k<=t then cf p k*cf q (t-k)else 0)else if i<=t/\t<i+j then cf p i*cf q (t-i)else 0) (i+1):=by rw [Yr];unfold Za1 acc;simp_all [Xj,aO]
 rw [h];have l:∀a b,bl (cf p a*cf q b).natAbs<=A+B:=λa b=>by have:=Xv (cf p a) (cf q b);have:=d a;have:=e b;omega
 refine Zi8 (λk g=>?_) O;grind [Gi]
theorem bl_acc{p:List Int}{A:Nat}(d:Sz A p)(e:Sz B q)(hi:i<=31):bl (acc p q i t).natAbs<=A+B+5:=by
 refine Zi8 (λk g=>?_) hi;split
 .have:=Xv (cf p k) (cf q (t-k));have:=d k;have:=e (t-k);omega
 grind [Gi]
def Aq(p q:List Int):Prop:=p≠[]/\q≠[]/\(24<p.length+q.length-2\/65536<Qz p+Qz q+5)
instance (p q:List Int):Decidable (Aq p q):=by unfold Aq;infer_instance
theorem Zdl{L:Nat}(h:i<L):(mk L f).getD i 0=f i:=by have:=Ks L f i;rw [aO h]at this;exact this
def Ym6(p q:List Int):Bool:=decide (q≠[]) && decide (p.length<q.length)
def Cx(p q:List Int):Int:=if q.length=0 then 3 else if p.length<q.length then 0 else if 65536<Qz p+(p.length-q.length+1)*(Qz q+1)then 7 else 0
def Zj2(q r:List Int)(top:Nat):List Int:=
 mk r.length λt=>cf r t*cf q (q.length-1)-if top-(q.length-1)<=t/\t<top-(q.length-1)+q.length then cf r top*cf q (t-(top-(q.length-1)))else 0
def Oa(p q:List Int):Nat->List Int
 | 0=>p
 | j+1=>Zj2 q (Oa p q j) (p.length-1-j)
theorem Zfz(q r:List Int)(top:Nat):(Zj2 q r top).length=r.length:=Yy _ _
theorem Lx(p q:List Int):∀j,(Oa p q j).length=p.length
 | 0=>rfl
 | j+1=>by unfold Oa;rw [Zfz,Lx p q j]
def Qr(p q:List Int):List Int:=if p.length<q.length then p else tzl (Oa p q (p.length-q.length+1))
theorem Zud(d:t<r.length):cf (Zj2 q r top) t=cf r t*cf q (q.length-1)-if top-(q.length-1)<=t/\t<top-(q.length-1)+q.length then cf r top*cf q (t-(top-(q.length-1)))else 0:=by unfold Zj2;rw [Ks,aO d]
theorem Yal{c d:Int}{A:Nat}(e:bl a.natAbs<=A)(g:bl b.natAbs<=B)(h:bl c.natAbs<=A)(j:bl d.natAbs<=B):bl (a*b-c*d).natAbs<=A+(B+1):=by grind [Xv,Zi9]
theorem Ydg{A:Nat}(e:Sz A r)(d:Sz B q):Sz (A+(B+1)) (Zj2 q r top):=by
 refine Zfv λt g=>?_;split
 .exact Yal (e t) (d _) (e _) (d _)
 .rw [gX];have:=Xv (cf r t) (cf q (q.length-1));have:=e t;have:=d (q.length-1);omega
theorem Zgs(p q:List Int):∀j,Sz (Qz p+j*(Qz q+1)) (Oa p q j)
 | 0=>by rw [gR];exact Kn p
 | j+1=>by rw [eR,<-iD];exact Ydg (Zgs p q j) (Kn q)
def dq(q r:List Int)(k:Nat):Int:=cf r (k+q.length-1)/cf q (q.length-1)
def Zng(q r:List Int)(k:Nat):List Int:=mk r.length λt=>cf r t-if k<=t/\t<k+q.length then dq q r k*cf q (t-k)else 0
def Pe(p q:List Int):Nat->List Int
 | 0=>p
 | j+1=>Zng q (Pe p q j) (p.length-q.length-j)
theorem Zao(p q:List Int):∀j,(Pe p q j).length=p.length
 | 0=>rfl
 | j+1=>by unfold Pe Zng;rw [Yy,Zao p q j]
def Zz1(p q:List Int)(k:Nat):Int:=dq q (Pe p q (p.length-q.length-k)) k
def Iz(p q:List Int)(k:Nat):Prop:=cf (Pe p q (p.length-q.length-k)) (k+q.length-1)%cf q (q.length-1)=0
def Yey(p q:List Int):List Int:=tzl (mk (p.length-q.length+1) (Zz1 p q))
def pdivs(p q:List Int):Prop:=p=[]\/(q.length<=p.length/\(∀k,k<=p.length-q.length->Iz p q k)/\∀i,cf (Pe p q (p.length-q.length+1)) i=0)
theorem Ydh{A:Nat}(d:Sz A r)(g:Sz B q)(e:cf r (k+q.length-1)%cf q (q.length-1)=0):Sz (A+(B+1)) (Zng q r k):=by
 refine Zfv λt m=>?_;split
 .have h:bl (dq q r k).natAbs<=A:=Zbr (kA e) (d _);have j:=Xv (dq q r k) (cf q (t-k));have l:=Zi9 (cf r t) (dq q r k*cf q (t-k));have:=d t;have:=g (t-k);omega
 .rw [gX];have:=d t;omega
theorem Zgu(p q:List Int):∀j,j<=p.length-q.length+1->(∀k,p.length-q.length<k+j->k<=p.length-q.length->Iz p q k)->Sz (Qz p+j*(Qz q+1)) (Pe p q j)
 | 0,_,_=>by rw [gR];exact Kn p
 | j+1,g,h=>by rw [eR,<-iD];refine Ydh (Zgu p q j O λk e d=>h k O d) (Kn q) ?_;have:=h (p.length-q.length-j) O O;unfold Iz at this;rw [show p.length-q.length-(p.length-q.length-j)=j by omega]at this;exact this
theorem Ycq(p q:List Int)(i j:Nat):Za1 p q i (j+1) (i+j)=Za1 p q i j (i+j)+cf p i*cf q j:=by unfold Za1;simp
theorem Zfm{p:List Int}(h:p.length=0\/q.length=0):Qx p q=[]:=by
 refine(Kv _).2 λi=>?_;rw [Ks];split
 .refine Fr λk _=>?_;rcases h with h|h
  all_goals simp_all [Lg,Yw,cN,dY]
 rfl
def Zkp(R:List Int)(l:Int)(i:Nat):List Int:=mk R.length λt=>if t<i then cf R t*l else cf R t
def Zoa(q R:List Int)(l c:Int)(s i:Nat):List Int:=mk R.length λt=>cf R t*l-if s<=t/\t<s+i then c*cf q (t-s)else 0
def Zsy(R:List Int)(l:Int)(i:Nat):(Zkp R l i).length=R.length:=Yy _ _
def Zsx(q R:List Int)(l c:Int)(s i:Nat):(Zoa q R l c s i).length=R.length:=Yy _ _
theorem Ybq(R:List Int)(l:Int):Zkp R l 0=R:=by unfold Zkp;simp [Eq.trans,Bo,Zit,aJ]
theorem Yfu{l:Int}(h:i<R.length):(Zkp R l i).getD i 0=cf R i:=by unfold Zkp;rw [Zdl h,aJ O6]
theorem Yft{l:Int}(h:i<R.length):(Zkp R l i).set i (cf R i*l)=Zkp R l (i+1):=by refine Zkr h (λt e d=>?_) O;omega
theorem Ya3(q R:List Int)(l c:Int)(s:Nat):Zkp R l R.length=Zoa q R l c s 0:=by unfold Zkp Zoa;simp_all [Bo,aO,aJ,gX]
theorem Ydl{l c:Int}{s:Nat}(h:s+i<R.length):(Zoa q R l c s i).getD (s+i) 0=cf R (s+i)*l:=by unfold Zoa;rw [Zdl h,aJ O6,gX]
theorem Ydk{l c:Int}{s:Nat}(h:s+i<R.length):(Zoa q R l c s i).set (s+i) (cf R (s+i)*l-c*cf q i)=Zoa q R l c s (i+1):=by refine Zkr h (λt e d=>?_) O6;omega
theorem rest_b{p:List Int}{j:Nat}(g:Qz p+(p.length-q.length+1)*(Qz q+1)<=65536)(h:j<p.length-q.length+1) :
  (∀t,bl (cf (Oa p q j) t).natAbs<=65536)/\(∀t i,bl (cf (Oa p q j) t*cf q i).natAbs<=65536)/\(∀t i t2 i2,bl (cf (Oa p q j) t*cf q i-cf (Oa p q j) t2*cf q i2).natAbs<=65536):=by
 have d:=Zgs p q j;have e:j*(Qz q+1)+(Qz q+1)<=(p.length-q.length+1)*(Qz q+1):=by rw [<-eR];exact aP _ O
 refine⟨λt=>by have:=d t;omega,λt i=>?_,λt i t2 i2=>?_⟩
 .have:=d t;have:=Kn q i;grind [Xv]
 .have:=Yal (d t) (Kn q i) (d t2) (Kn q i2);omega
def Zre{p:List Int}(d:Qz p+(p.length-q.length+1)*(Qz q+1)<=65536):Sz 65536 (Oa p q (p.length-q.length+1)):=(Zgs p q _).mono d
theorem Zdm{p:List Int}(h:Cx p q=0):q.length≠0/\(q.length<=p.length->Qz p+(p.length-q.length+1)*(Qz q+1)<=65536):=by unfold Cx at h;omega
theorem Zf9{p:List Int}(h:q.length≠0):Ym6 p q=decide (p.length<q.length):=by unfold Ym6;grind
def Zp6(q R:List Int)(c:Int)(k i:Nat):List Int:=mk R.length λt=>cf R t-if k<=t/\t<k+i then c*cf q (t-k)else 0
def Zsz(q R:List Int)(c:Int)(k i:Nat):(Zp6 q R c k i).length=R.length:=Yy _ _
theorem Ycc(q R:List Int)(c:Int)(k:Nat):R=Zp6 q R c k 0:=by unfold Zp6;simp [Eq.trans,Zit,Bo,aJ,gX]
theorem Yhs{c:Int}(h:k+i<R.length):(Zp6 q R c k i).getD (k+i) 0=cf R (k+i):=by unfold Zp6;rw [Zdl h,aJ O6,gX]
theorem Yhr{c:Int}(h:k+i<R.length):(Zp6 q R c k i).set (k+i) (cf R (k+i)-c*cf q i)=Zp6 q R c k (i+1):=by refine Zkr h (λt e d=>?_) O6;omega
def Zma(p q:List Int)(j:Nat):List Int:=mk (p.length-q.length+1) λt=>if p.length-q.length<t+j then Zz1 p q t else 0
theorem Zci(p q:List Int)(j:Nat):(Zma p q j).length=p.length-q.length+1:=Yy _ _
theorem Yce(p q:List Int):List.replicate (p.length-q.length+1) 0=Zma p q 0:=by rw [Zvh];exact Bo λi hi=>O
theorem Yhv{p:List Int}{j:Nat}(e:j<p.length-q.length+1):(Zma p q j).set (p.length-q.length-j) (dq q (Pe p q j) (p.length-q.length-j))=Zma p q (j+1):=by
 refine Zkr O (λt g d=>?_) ?_
 .omega
 .unfold Zz1;grind
theorem Zf8(p q:List Int):tzl (Zma p q (p.length-q.length+1))=Yey p q:=by unfold Zma Yey;grind
def pdv(p q:List Int):Prop:=p=[]\/(q.length<=p.length/\(∀k,k<=p.length-q.length->Iz p q k)/\tzl (Pe p q (p.length-q.length+1))=[])
instance (p q:List Int) (k:Nat):Decidable (Iz p q k):=by unfold Iz;infer_instance
instance (p q:List Int):Decidable (pdv p q):=by unfold pdv;infer_instance
theorem div_b{p:List Int}{j:Nat}(n:Qz p+(p.length-q.length+1)*(Qz q+1)<=65536)(o:j<p.length-q.length+1)(h:∀k,p.length-q.length<k+j->k<=p.length-q.length->Iz p q k) :
  (∀t,bl (cf (Pe p q j) t).natAbs<=65536)/\(Iz p q (p.length-q.length-j)->bl (dq q (Pe p q j) (p.length-q.length-j)).natAbs<=65536/\(∀i,bl (dq q (Pe p q j) (p.length-q.length-j)*cf q i).natAbs<=65536)/\
   ∀t i,bl (cf (Pe p q j) t-dq q (Pe p q j) (p.length-q.length-j)*cf q i).natAbs<=65536):=by
 have d:=Zgu p q j O h;have l:j*(Qz q+1)+(Qz q+1)<=(p.length-q.length+1)*(Qz q+1):=by rw [<-eR];exact aP _ O
 refine⟨λt=>by have:=d t;omega,λe=>?_⟩;unfold Iz at e;rw [show p.length-q.length-(p.length-q.length-j)=j by omega]at e;have m:bl (dq q _ _).natAbs<=Qz p+j*(Qz q+1):=Zbr (kA e) (d _);have g:∀i,bl (dq q (Pe p q j) (p.length-q.length-j)*cf q i).natAbs<=Qz p+j*(Qz q+1)+Qz q:=λi=>by have:=Xv (dq q (Pe p q j) (p.length-q.length-j)) (cf q i);have:=Kn q i;omega
 refine⟨O,λi=>O4,λt i=>?_⟩;have:=Zi9 (cf (Pe p q j) t) (dq q (Pe p q j) (p.length-q.length-j)*cf q i);have:=g i;have:=d t;omega
theorem Zxm{p:List Int}(g:Qz p+(p.length-q.length+1)*(Qz q+1)<=65536)(e:∀k,k<=p.length-q.length->Iz p q k){j:Nat}:Sz 65536 (Zma p q j):=by
 refine Zfv λt l=>?_;split
 .have d:=(div_b g (j:=p.length-q.length-t) O (λk _ h=>e k h)).2;rw [show p.length-q.length-(p.length-q.length-t)=t by omega]at d;exact(d (e t O)).1
 decide
def Ydi{p:List Int}(d:Qz p+(p.length-q.length+1)*(Qz q+1)<=65536)(g:∀k,k<=p.length-q.length->Iz p q k):Sz 65536 (Pe p q (p.length-q.length+1)):=
 (Zgu p q _ (aI _) λk _ e=>g k e).mono d
def Ke(p:List Int)(a b d:Int):Nat->List Int
 | 0=>[cf p (p.length-1)]
 | j+1=>mk ((Ke p a b d j).length+1) λt=>cf (Ke p a b d j) t*a+(if t=0 then cf p (p.length-2-j)*d^(j+1)else cf (Ke p a b d j) (t-1)*b)
def Dj(p:List Int)(a b d:Int):Ke p a b d 0=[cf p (p.length-1)]:=rfl
def Yck(p:List Int)(a b d:Int)(j:Nat):Ke p a b d (j+1)=mk ((Ke p a b d j).length+1) (λt=>cf (Ke p a b d j) t*a+(if t=0 then cf p (p.length-2-j)*d^(j+1)else cf (Ke p a b d j) (t-1)*b)):=rfl
theorem Zcj(p:List Int)(a b d:Int):∀j,(Ke p a b d j).length=j+1
 | 0=>rfl
 | j+1=>by unfold Ke;rw [Yy,Zcj p a b d j]
def Km(p:List Int)(a b d:Int):List Int:=if p.length=0 then []else tzl (Ke p a b d (p.length-1))
def Zll(p:List Int)(a b d:Int):Prop:=p≠[]/\65536<Qz p+(p.length-1)*(Qz [a,b,d]+1)+8
instance (p:List Int) (a b d:Int):Decidable (Zll p a b d):=by unfold Zll;infer_instance
def Hc(p q:List Int):List Int:=if p=[]then []else Yey p q
def Zr9{p:List Int}(h:p≠[]):Hc p q=Yey p q:=aJ h
theorem Ztw{p:List Int}{j:Nat}(d:j<=p.length-q.length):Iz p q (p.length-q.length-j)↔cf (Pe p q j) (p.length-q.length-j+q.length-1)%cf q (q.length-1)=0:=by unfold Iz;grind
def Zuc{x y:Int}(e:y≠0)(d:bl y.natAbs<=65536):Bt (x%y)=x%y:=Nj (aB (Yan x y e) d)
def cnx(c:List Int)(a b:Int)(i:Nat):List Int:=mk (c.length+1) λt=>if t<i then cf c t*a+(if t=0 then 0 else cf c (t-1)*b)else if t=i/\0<i then cf c (t-1)*b else 0
theorem Ff(c:List Int)(a b:Int)(i:Nat):(cnx c a b i).length=c.length+1:=Yy _ _
theorem Yig(c:List Int)(a b:Int):List.replicate (c.length+1) 0=cnx c a b 0:=by rw [Zvh];unfold cnx;simp
theorem Yaa(h:i<c.length):(cnx c a b i).getD i 0=if i=0 then 0 else cf c (i-1)*b:=by unfold cnx;rw [Zdl O];omega
theorem Yng(h:i<c.length):((cnx c a b i).set i ((cnx c a b i).getD i 0+cf c i*a)).set (i+1) (cf c i*b)=cnx c a b (i+1):=Ko (by simp [Ff]) λt d=>by rw [Zls _ _ _ _ (by grind [List.length_set,Ff]),Zls _ _ _ _ (by grind [Ff]),Yaa h];unfold cnx;rw [Ks,Ks];grind
theorem Zua(h:0<c.length):(cnx c a b c.length).getD 0 0=cf c 0*a:=by unfold cnx;rw [Zdl O6,aO h,aO rfl,bK]
theorem Ynh{w:Int}(h:0<c.length):(cnx c a b c.length).set 0 ((cnx c a b c.length).getD 0 0+w)=mk (c.length+1) λt=>cf c t*a+(if t=0 then w else cf c (t-1)*b):=Ko (by simp [Ff,Yy]) λt e=>by
 rw [bZ,Ff]at e;rw [Zls _ _ _ _ (by grind [Ff]),Zua h,Ks,if_pos e];unfold cnx;rw [Ks,aO e];by_cases d:t=0
 .grind
 .rw [aJ d,aJ d,aJ d];by_cases g:t<c.length
  .omega
  .rw [aO (show t=c.length/\0<c.length by omega),Yw O];simp
theorem Zii{p:List Int}{x y z:Int}{A m:Nat}(d:Sz A p)(e:bl x.natAbs<=m)(o:bl y.natAbs<=m)(g:bl z.natAbs<=m):∀j,Sz (A+j*(m+1)) (Ke p x y z j)
 | 0=>Sz.of_mem λw n=>by rw [bX.1 n];have:=d (p.length-1);omega
 | j+1=>by
  have h:=Zii d e o g j;refine Zfv λt D=>?_;have s:=Xv (cf (Ke p x y z j) t) x;have u:=h t;split
  .have l:=Zi7 0 (j+1) (d (p.length-2-j)) e g;grind [Bb]
  .have l:=Xv (cf (Ke p x y z j) (t-1)) y;have v:=h (t-1);grind [Bb]
section
variable {p:List Int} {x y z:Int} (hF:Qz p+(p.length-1)*(Qz [x,y,z]+1)+8<=65536) {j:Nat} (hj:j<p.length-1)
include hF hj
theorem cp_all:bl (z^j).natAbs<=65536/\bl (z^(j+1)).natAbs<=65536/\(∀t,bl (cf (Ke p x y z j) t).natAbs<=65536)/\(∀t,bl (cf (Ke p x y z j) t*x).natAbs<=65536)/\(∀t,bl (cf (Ke p x y z j) t*y).natAbs<=65536)/\
  (∀t,bl ((if t=0 then 0 else cf (Ke p x y z j) (t-1)*y)).natAbs<=65536)/\(∀t,bl ((if t=0 then 0 else cf (Ke p x y z j) (t-1)*y)+cf (Ke p x y z j) t*x).natAbs<=65536)/\
  bl (cf p (p.length-2-j)*z^(j+1)).natAbs<=65536/\bl (cf (Ke p x y z j) 0*x+cf p (p.length-2-j)*z^(j+1)).natAbs<=65536:=by
 have o:bl x.natAbs<=Qz [x,y,z]:=by simp only [Qz];omega
 have w:bl y.natAbs<=Qz [x,y,z]:=by simp only [Qz];omega
 have d:bl z.natAbs<=Qz [x,y,z]:=by simp only [Qz];omega
 have g:=Zii (Kn p) o w d j;generalize Qz [x,y,z]=m at *;have e:j*(m+1)+(m+1)<=(p.length-1)*(m+1):=by rw [<-eR];exact aP _ O
 have v:j*m<=j*(m+1):=bB _ O6;have u:=Zi7 0 (j+1) (Kn p (p.length-2-j)) o d;rw [eI,iG,cD,eR]at u;have n:=Ba z d (j+1) O6;rw [eR]at n;have l:bl (z^j).natAbs<=65536:=by
  rcases aX j with h|h
  .rw [h,eI];decide
  .have:=Ba z d j h;omega
 have D:∀t,bl (cf (Ke p x y z j) t*x).natAbs<=Qz p+j*(m+1)+m:=λt=>by have:=Xv (cf (Ke p x y z j) t) x;have:=g t;omega
 have F:∀t,bl (cf (Ke p x y z j) t*y).natAbs<=Qz p+j*(m+1)+m:=λt=>by have:=Xv (cf (Ke p x y z j) t) y;have:=g t;omega
 have s:∀t,bl ((if t=0 then 0 else cf (Ke p x y z j) (t-1)*y)).natAbs<=Qz p+j*(m+1)+m:=λt=>by grind [Gi]
 refine⟨l,O,λt=>by have:=g t;omega,λt=>O4,λt=>O4,λt=>by have:=s t;omega,λt=>?_,O,?_⟩
 all_goals grind [Bb]
end
theorem Ynd{p:List Int}{x y z:Int}(hF:Qz p+(p.length-1)*(Qz [x,y,z]+1)+8<=65536):Sz 65536 (Ke p x y z (p.length-1)):=by
 have d:bl x.natAbs<=Qz [x,y,z]:=by simp only [Qz];omega
 have e:bl y.natAbs<=Qz [x,y,z]:=by simp only [Qz];omega
 have g:bl z.natAbs<=Qz [x,y,z]:=by simp only [Qz];omega
 exact(Zii (Kn p) d e g _).mono O
theorem Zib(p q:List Int):(Qr p q).length<=p.length:=by
 unfold Qr;split
 .omega
 grind [Hj,Lx]
theorem Zb3{p:List Int}(d:Vp p)(e:Cx p q=0):Vp (Qr p q):=by
 have g:=Zib p q;refine⟨?_,?_,by have:=d.len;omega⟩
 .unfold Qr;split
  .exact d.sz
  .exact(Zre ((Zdm e).2 O)).tzl
 .unfold Qr;split
  .exact d.tr
  grind [Qp]
def Znb(p q:List Int):Prop:=p.length≠0/\q.length≠0/\65536<(max p.length q.length+2)*(max p.length q.length+2)*(max (Qz p) (Qz q)+8)
instance (p q:List Int):Decidable (Znb p q):=by unfold Znb;infer_instance
def gA(p q:List Int):List Int:=if p.length<q.length then Yu q else Yu p
def gB(p q:List Int):List Int:=if p.length<q.length then Yu p else Yu q
def eok:Nat->List Int->List Int->Prop
 | 0,_,b=>b=[]
 | f+1,a,b=>b=[]\/(Cx a b=0/\eok f b (Yu (Qr a b)))
def eu:Nat->List Int->List Int->List Int
 | 0,a,_=>a
 | f+1,a,b=>if b=[]then a else eu f b (Yu (Qr a b))
theorem Yhn{f:Nat}{a b:List Int}(h:eok f a b)(d:b≠[]):∃g,f=g+1/\Cx a b=0/\eok g b (Yu (Qr a b))/\eu f a b=eu g b (Yu (Qr a b)):=by
 cases f with
 | zero=>exact absurd h d
 | succ g=>
  rcases h with h|h
  .grind
  .exact⟨g,rfl,h.1,h.2,by show(if b=[]then a else _)=_;grind⟩
theorem Zld(f:Nat)(a:List Int):eu f a []=a:=by cases f<;>rfl
def Hu(g:List Int):List Int:=if g.length≠0/\cf g (g.length-1)<0 then Yx g (-1)else g
def Mr(f:Nat)(p q:List Int):List Int:=Hu (eu f (gA p q) (gB p q))
theorem vp_gA{p:List Int}(d:Vp p)(e:Vp q):Vp (gA p q):=by unfold gA;all_goals grind [Il]
theorem vp_gB{p:List Int}(d:Vp p)(e:Vp q):Vp (gB p q):=by unfold gB;all_goals grind [Il]
theorem Zbt{p:List Int}(h:Sz 65536 p)(i:Nat):bl (cf p i * -1).natAbs<=65536:=by rw [mJ,iH,gP];exact h i
theorem sign_neg_iff(z:Int):z.sign<0↔z<0:=by simp
end Go.Sky
namespace Go.Sky
def Yki{l:List Int}(h:∀x∈l,Mw x):Sz 65536 l:=Sz.of_mem λx a=>by obtain⟨b,c⟩:=h x a;have:bl x.natAbs<=64:=(Qs 64 _).2 O;omega
open Go.RowKit Below
set_option maxRecDepth 20000
abbrev d9p (v:Value) (x:Nat):Pc:=Yn 1 Ymx v (dg 1000000000 x)
def d9s(a b c:Nat):Nat:=if a<b+c then a+1000000000-(b+c)else a-(b+c)
def cmpI(x y:Nat):Int:=if x<y then -1 else if y<x then 1 else 0
section
variable {P:Program} {N:Nat} {sc:Nat->Prop} {env env':Qi} {H H':Hp} {Q Q':Exit->Act->World->Prop} {M:Nat->Prop}
variable {o:Oper} {t t':TypeId} {x y:Operand} {m n:Nat}
end
end Go.Sky
namespace Go.Sky
section
variable {P:Program} {N:Nat} {sc:Nat->Prop} {env env':Qi} {H H':Hp} {Q Q':Exit->Act->World->Prop} {M:Nat->Prop}
variable {o:Oper} {t t':TypeId} {x y:Operand} {m n:Nat}
end
end Go.Sky
namespace Go.Sky
variable{x y:Operand}{k i:Nat}{v u z:Value}{r:List Pc}{o:Oper}{t:TypeId}{p:Pc}{w0:World}{M0:Nat->Prop}{ks:List Nat}
def Zr7(a b:Int):Prop:=65536<bl a.natAbs\/65536<bl b.natAbs
instance (a b:Int):Decidable (Zr7 a b):=by unfold Zr7;infer_instance
def qn(a b:Int):Int:=if Zr7 a b then 0 else a
def qd(a b:Int):Int:=if Zr7 a b then 0 else b
def qe(a b:Int):Int:=if Zr7 a b then 7 else 0
def Yl2{x y:Int}(h:¬y<0):Le x y=(Int.gcd x y:Int):=aJ h
def Zqp(x y:Int):bl ((Int.gcd x y:Int)).natAbs<=max (bl x.natAbs) (bl y.natAbs):=Zqq _ _
open Go.RowKit Below
variable {P:Program} {N:Nat} {sc:Nat->Prop} {env env':Qi} {H H':Hp} {Q Q':Exit->Act->World->Prop} {M:Nat->Prop}
abbrev Yho (w:Bool×ByteArray):Value:= .agg #[.bool w.1,.string w.2]
abbrev Ymy (z:Int×SL):Value:= .agg #[.bool (decide (z.1<0)),Yz z.2]
abbrev Pb {α:Type} (z:SL×α):Value:=Yz z.1
abbrev qI (z:Int×SL):Pc:=d9p (Yz z.2) z.1.natAbs
abbrev pp (v:Value) (zs:List (Int×SL)):Pc:=Xz 2 Ymy qI v zs
abbrev ints (zs:List (Int×SL)):List Int:=zs.map Prod.fst
abbrev I0:Int×SL:=(0,none,0,0)
def Yew{β:Type}{enc:β->Value}{q:β->Pc}{zs:List β}{al:Bool}{z:β}(i:Nat)(hi:lk H i=some (Xz k enc q v zs))(d:Nat.beq i 0=false)(a:z∈zs)(h:PreOk H al r):PreOk H al (q z::r):=
 ⟨⟨i,_,λe=>O10,hi,λw h=>h.2 z a,λb c=> .inr ⟨z,a,c⟩,λ_=>rfl⟩,h⟩
theorem t_appM {α:Type}   {e:TypeId} {i2 j h d:Nat}  {enc:α->Value} {xs ys:List α}  {ti:TypeInfo}   
  (ho:o.op= .call { callee:= .builtin .append,args:=#[x,y],argTypes:=#[t,t] }) (hd:o.dst=some d) (hN:Nat.blt d N=true)
  (hx:ev env x=some v) (hy:ev env y=some u) (hH:lk H i=some (Nc k e enc v xs)) (Y:i≠0) (hj:lk H j=some p) (hr:Rd p k enc u ys) (a8:ys≠[])
  (ht:P.underlying t=some (.slice e)) (hi:P.info? e=some ti) (hz:ti.zero=some z) (m:Enc P e k enc) (Z:ti.size=k) (V:ti.bytes=h) (a3:z.cells.size=k)
  (l:(xs.length+ys.length)*h<=140737488355328) (n:0<h)
  (h0:lk H 0=some (Zt w0 M0)) (hw:∀b,w0.heap.size<=b->sc b) (hM:∀b,(Nc k e enc v xs).fp b->M b) :
  T P N sc M o env H (G:=Value) (λ_=>True) (λv'=>(d,v')::env) (λv'=>(i,Nc k e enc v' (xs ++ ys))::H):=λa w hs K Q hK=>by
 have F:=hs.hold i _ hH;obtain⟨ad,c,rfl,h1,h2,h3⟩:=hr w (hs.hold j p hj);rcases h3 with rfl|⟨g,R,rfl,h3⟩
 .grind
 have a2:∀q u,(cellsOf enc ys)[q]? = some u->w.cell? ((⟨g,R,none⟩:Addr).add q)=some u:=λq u hq=>by
  have a6:q<ys.length*k:=by rw [<-Xc m.cells ys];grind
  have a4:=m.pos;have W:q/k<ys.length:=gN O4;have B:=aM W;have a0:q%k<(enc ys[q/k]).cells.toList.length:=by rw [eU,m.cells];simp_all [bI]
  have hu:=aM a0;have h4:=Hx m.cells ys _ _ B _ _ hu;grind [Nat.mul_comm,Nat.div_add_mod,Nat.add_assoc,Px]
 have D:∀u∈cellsOf enc ys,u.oneCell'=true:=λu hu=>by obtain⟨y,_,hy⟩:=gT.1 hu;exact m.one y u hy
 have a5:=aB (eD _ n) l;obtain⟨v',w',I,a7,f,S⟩:=Zd1 (P:=P) t o.type e ti z k h ht hi hz Z V a3 m.pos v xs.length (cellsOf enc xs) F ⟨g,R,none⟩ ys.length c (cellsOf enc ys)
  (Xc m.cells ys) a2 D (by simp only [maxLen];omega) l
 have a1:(execOp a.eval o).run P w= .ok (.value v') w':=by simp only [execOp,ho,resolve,invoke,builtin,Sem.run_bind,Sem.run_pure,Result.andThen_ok,fE,cI,iL,hs.ev hx,hs.ev hy,I]
 unfold Oper.wp;rw [a1];show K (a.put o.dst _) _;rw [hd];have s:Chg _ w w':=⟨f.os,f.tape,f.output,f.size,λb l hn=>f.block b l (λe=>hn e.symm)⟩;refine hK v' _ _ aA ((hs.upd hH rfl Y s ?_ (λb l=>S b l) h0 hw).put d _ hN) ⟨f.os,f.tape,f.output,f.size,λb l hn=>f.block b l (λe=>hn (hM b e.symm))⟩;show w'.ownsRow 0 e k v' (xs ++ ys).length (cellsOf enc (xs ++ ys));grind [Kt,List.length_append]
theorem Ykh (l:Nat) {α:Type}   {e:TypeId} {j d:Nat}  {enc:α->Value} {xs ys:List α}  {ti:TypeInfo}   
  (ho:o.op= .call { callee:= .builtin .append,args:=#[x,y],argTypes:=#[t,t] }) (hd:o.dst=some d) (hN:Nat.blt d N=true)
  (hx:ev env x=some v) (hy:ev env y=some u) (W:lk H i=some (Nc k e enc v xs)) (F:i≠0) (hj:lk H j=some p) (hr:Rd p k enc u ys)
  (ht:P.underlying t=some (.slice e)) (hi:P.info? e=some ti) (hz:ti.zero=some z) (he:Enc P e k enc) (a1:ti.size=k) (Z:ti.bytes=l) (a3:z.cells.size=k)
  (Y:(xs.length+ys.length)*l<=140737488355328) (B:0<l)
  (h0:lk H 0=some (Zt w0 M0)) (hw:∀b,w0.heap.size<=b->sc b) (hM:∀b,(Nc k e enc v xs).fp b->M b) :
  T P N sc M o env H (G:=Value) (λ_=>True) (λv'=>(d,v')::env) (λv'=>(i,Nc k e enc v' (xs ++ ys))::H):=by
 by_cases S:ys=[]
 .subst S;intro a w hs K Q hK;have f:w.ownsRow 0 e k v xs.length (cellsOf enc xs):=hs.hold i _ W;obtain⟨V,c,rfl,h1,h2,h3⟩:=hr w (hs.hold j p hj);have I:∃h n m,v= .slice h n m/\n=xs.length/\n<=m:=by
   rcases f.2 with⟨rfl,hn⟩|⟨g,a4,a5,rfl,_,_,s,_⟩
   all_goals grind
  obtain⟨h,n,m,rfl,rfl,s⟩:=I;have R:(Builtin.append_ #[t,t] o.type #[.slice h xs.length m,.slice V ([]:List α).length c]).run P w= .ok (.slice h xs.length m) w:=by
   have D:(Builtin.firstCells ti.size 0 (.slice V 0 c)).run P w= .ok #[] w:=by
    cases V with
    | none=>rfl
    | some q=>simp [Builtin.firstCells,loadCells,loadCellsFrom]
   cases h with
   | none=>simp [Builtin.append_,run_underlying ht,sizeOf,typeInfo,hi,Builtin.lenOf,D,s]
   | some q=>simp [Builtin.append_,run_underlying ht,sizeOf,typeInfo,hi,Builtin.lenOf,D,s,storeCells]
  have a2:(execOp a.eval o).run P w= .ok (.value (.slice h xs.length m)) w:=by simp only [execOp,ho,resolve,invoke,builtin,Sem.run_bind,Sem.run_pure,Result.andThen_ok,fE,cI,iL,hs.ev hx,hs.ev hy,R]
  unfold Oper.wp;rw [a2];show K (a.put o.dst _) _;rw [hd];refine hK _ _ _ aA ((Sat.upd hs W rfl F (q:=Nc k e enc (.slice h xs.length m) (xs ++ [])) (Chg.refl _ w) ?_ (λb Y=> .inl Y) h0 hw).put d _ hN) (Chg.refl _ w);rw [iE];exact f
 .exact t_appM (i2:=0) ho hd hN hx hy W F hj hr S ht hi hz he a1 Z a3 Y B h0 hw hM
theorem t_offr  {G:Type} {φ:G->Prop} {c:G->Qi} {g:G->Hp} {d:Hp}   (i:Nat) (hi:lk H i=some p) (D:p.own=true) (B:ks.all (λk=>!Nat.beq k i)=true) (m:Agr d H ks)
  (h:(∀b,p.fp b->Off d ks b)->T P N sc (Off d ks) o env H φ c g):T P N sc (Off d ks) o env H φ c g:=λa w hs=>
 h (λb n k j q l s=>by
  rw [<-m.mem k j]at l;have f:i≠k:=λe=>by subst e;have:=bA.1 B i j;simp_all
  exact hs.sep i k p q f hi l D b n s) a w hs
def eaf(v:Value)(i k q:Nat):Addr:=(ead v i k).add q
theorem Zgd (ii:Nat) {α:Type}    {f:Nat} {d:Array Field} {b:Field} {G q:Nat}   {enc:α->Value} {xs:List α} (n:o.op= .fieldAddr t x f)
  (F:ev env x=some (.pointer (some (ead v i k)))) (h:lk H ii=some p) (B:Rd p k enc v xs) (D:P.underlying t=some (.struct d)) (j:d[f]? = some b) (l:∀w,(sizeOf b.type).run P w= .ok (G+1) w) (s:b.offset=q) (m:i<xs.length:=by omega) :
  Mt P N sc o env H (.pointer (some (eaf v i k q))):=λa w hs=>by
 obtain⟨R,c,rfl,S,V,e⟩:=B w (hs.hold ii p h);rcases e with rfl|⟨g,I,rfl,e⟩
 .grind
 .subst s;simp [execOp,n,hs.ev F,Instr.fieldAt,run_underlying D,j,Instr.sureAddr,fieldPlace,l,Px,eaf,ead]
theorem Zgc (ii:Nat) {α:Type}    {q:Nat}   {enc:α->Value} {xs:List α} (d:α) (m:o.op= .load t x)
  (e:ev env x=some (.pointer (some (eaf v i k q)))) (f:lk H ii=some p) (n:Rd p k enc v xs) (j:∀w,(isAgg t).run P w= .ok false w) (s:(enc (xs.getD i d)).cells.toList[q]? = some u) (l:i<xs.length:=by omega):Mt P N sc o env H u:=λa w hs=>by
 obtain⟨D,c,rfl,F,G,b⟩:=n w (hs.hold ii p f);rcases b with rfl|⟨g,B,rfl,b⟩
 .grind
 .have hi:xs[i]? = some (xs.getD i d):=O4;have h:=b i _ hi q u s;simp only [eaf,ead,Px]at e;simp [execOp,m,hs.ev e,Instr.loadAt,Instr.sureAddr,loadVar,j,load,Sem.run,h]
end Go.Sky
namespace Go.Sky
variable{o:Oper}{r pre:List Pc}{f:FuncId}{xs:List Operand}{a:Act}{w:World}{c x:Operand}{ats:Array TypeId}{vs:List Value}{M0:Nat->Prop}{b:Nat}{t:TypeId}{cs:Array Value}
abbrev rq (z:Int×Int):Value:= .agg #[.bool (decide (z.1<0)),.string (Xn z.1.natAbs),.bool (decide (z.2<0)),.string (Xn z.2.natAbs)]
abbrev encQ (z:(Bool×ByteArray)×(Bool×ByteArray)):Value:= .agg #[.bool z.1.1,.string z.1.2,.bool z.2.1,.string z.2.2]
def Yt (d:Value){P:Program}{N:Nat}{sc:Nat->Prop}{env:Qi}{H:Hp}{r:Value}(h:Mt P N sc o env H r)(e:r=d):Mt P N sc o env H d:=e▸h
open Go.RowKit Below
variable {P:Program} {N:Nat} {sc:Nat->Prop} {env env':Qi} {H H':Hp} {Q Q':Exit->Act->World->Prop} {M:Nat->Prop}
theorem Zgb (vs:List Value)(d:List Value){ys:List Operand}(h:o.op= .makeFunc (.func f) xs.toArray ys.toArray)(j:EvL env xs vs)(i:EvL env ys d):Mt P N sc o env H (.func (.func f) vs.toArray d.toArray):=λa w hs=>by have e:=j.map hs;have g:=i.map hs;simp [execOp,h,Instr.makeFunc,e,g]
theorem Zd0   (hs:Sat N sc env H a w)      {e g:List Value} (j:o.op= .call { callee:= .value c,args:=xs.toArray,argTypes:=ats })
  (h:ev env c=some (.func (.func f) e.toArray g.toArray)) (d:EvL env xs vs):(execOp a.eval o).run P w=(callFunc f (e ++ vs ++ g).toArray).run P w:=by
 have i:=d.map hs;simp [execOp,j,resolve,invoke,hs.ev h,Deferred.ofValue,i]
theorem Cp (n:Nat)(h:List Value)(vs:List Value)(k:List Value)      {d:Nat}   {al:Bool} {G:Type} {φ:G->Prop} {val:G->Value} {j:G->List Pc} {w0:World} 
  (B:Cal P f (h ++ vs ++ k).toArray pre al φ val j)
  (V:o.op= .call { callee:= .value c,args:=xs.toArray,argTypes:=ats }) (D:ev env c=some (.func (.func f) h.toArray k.toArray)) (F:o.dst=some d) (z:Nat.blt d N=true)
  (p:EvL env xs vs) (e:∀args w,(callFunc f args).run P w= .ok (.enter f args) w) (i:PreOk H al pre)
  (u:lk H 0=some (Zt w0 M0)) (R:∀b,w0.heap.size<=b->sc b) :
  T P N sc M o env H φ (λg=>(d,val g)::env) (λg=>adds n (j g) H):=λa w hs K Q y=>by
 have I:(execOp a.eval o).run P w= .ok (.enter f (h ++ vs ++ k).toArray) w:=by grind [Zd0]
 let o2:={ o with op:= .call { callee:= .value (.func f),args:=((h ++ vs ++ k).map Operand.const).toArray,argTypes:=ats } };have q:∀l,EvL env (l.map Operand.const) l:=λl=>by
  induction l with
  | nil=>trivial
  | cons v r S=>exact⟨rfl,S⟩
 have s:(execOp a.eval o2).run P w= .ok (.enter f (h ++ vs ++ k).toArray) w:=by grind [Gb]
 have m:=Om _ B (o:=o2) rfl F z (q _) e i u R a w hs K Q y;unfold Oper.wp at m ⊢;rw [s]at m;rw [I];exact m
def Zg4(i:Nat)(hi:lk H i=some (box b t cs))(g:Nat.beq i 0=false)(h:PreOk H false r):PreOk H false (Nb b t cs::r):=
 ⟨⟨i,_,λe=>O10,hi,λw h=>h,λb d=>d,λh=>O4⟩,h⟩
theorem Sat.rboxc(hs:Sat N sc env H a w){i:Nat}(d:lk H i=some (Nb b t cs))(j:Nat):w.cell? ⟨b,j,none⟩=cs[j]?:=by have h:w.heap[b]? = some _:=hs.hold i _ d;simp [World.cell?,h]
theorem d_lra   {q:TypeId} {i j k:Nat}   (l:o.op= .load t x)
  (p:ev env x=some (.pointer (some ⟨b,j,none⟩))) (e:lk H i=some (Nb b q cs)) (m:∀w,(isAgg t).run P w= .ok true w) (g:∀w,(sizeOf t).run P w= .ok k w)
  (h:vs.length=k) (v:∀n u,vs[n]? = some u->cs[j+n]? = some u):Mt P N sc o env H (.agg vs.toArray):=λa w hs=>by
 have d:=run_loadCells_list (P:=P) w ⟨b,j,none⟩ vs (λn u s=>by rw [Px,hs.rboxc e];grind);rw [h]at d;simp [execOp,l,hs.ev p,Instr.loadAt,Instr.sureAddr,loadVar,m,g,d]
theorem d_negi{m:Int}(d:o.op= .unOp .neg t x)(e:ev env x=some (.int .i64 m))(h:Mw (-m)):Mt P N sc o env H (.int .i64 (-m)):=λa w hs=>by simp [execOp,d,hs.ev e,Op.unary,Op.intArith,Zec h]
theorem fill24{n p q s d e g h j k l m:Value}:Instr.fill (λi=>some (i*4,4)) ((List.range (2*4)).map ((Value.agg #[n,p,q,s]).cells[· % (Value.agg #[n,p,q,s]).cells.size]!)).toArray [(0,.agg #[d,e,g,h]),(1,.agg #[j,k,l,m])]=some #[d,e,g,h,j,k,l,m]:=by simp [Instr.fill,Value.cells,List.range,List.range.loop]
end Go.Sky
namespace Go.Sky
open Go.RowKit Below
variable{f:FuncId}{c:Operand}{xs:List Operand}{ats:Array TypeId}{p:Pc}{pre:List Pc}{w0:World}{M0:Nat->Prop}{fn:Func}{vs:List Value}
variable {P:Program} {N:Nat} {sc:Nat->Prop} {env env':Qi} {H H':Hp} {Q Q':Exit->Act->World->Prop} {M:Nat->Prop}
abbrev iq (z:(Int×Int)×(Int×Int)):Value:= .agg #[.bool (decide (z.1.1<0)),.string (Xn z.1.1.natAbs),.bool (decide (z.1.2<0)),.string (Xn z.1.2.natAbs),.bool (decide (z.2.1<0)),.string (Xn z.2.1.natAbs),.bool (decide (z.2.2<0)),.string (Xn z.2.2.natAbs)]
def Yju(P:Program)(f:FuncId)(args:Array Value)(pre:List Pc)(p:Pc){G:Type}(φ:G->Prop)(val:G->Value)(q:G->Pc):Prop:=
 ∀w,(∀r∈pre,r.holds w/\∀k,p.fp k->¬r.fp k)->p.holds w->Calls P f args w λe a=>∃g,e= .returned (val g)/\φ g/\Chg p.fp w a/\(q g).holds a/\∀k,(q g).fp k->p.fp k\/w.heap.size<=k
theorem Zn9 (i:Nat)(u:List Value)(vs:List Value)(F:List Value) {o:Oper}     {d:Nat}    {G:Type} {φ:G->Prop} {val:G->Value} {q:G->Pc}  
  (Z:Yju P f (u ++ vs ++ F).toArray pre p φ val q)
  (ho:o.op= .call { callee:= .value c,args:=xs.toArray,argTypes:=ats }) (a0:ev env c=some (.func (.func f) u.toArray F.toArray)) (hd:o.dst=some d) (W:Nat.blt d N=true)
  (x:EvL env xs vs) (y:∀args w,(callFunc f args).run P w= .ok (.enter f args) w) (v:lk H i=some p) (l:p.own=true) (z:i≠0) (s:PreOk (drp i H) false pre)
  (R:lk H 0=some (Zt w0 M0)) (hw:∀b,w0.heap.size<=b->sc b) (V:∀b,p.fp b->M b) :
  T P N sc M o env H φ (λg=>(d,val g)::env) (λg=>(i,q g)::H):=λa w hs K Q S=>by
 have hr:(execOp a.eval o).run P w= .ok (.enter f (u ++ vs ++ F).toArray) w:=by grind [Zd0]
 unfold Oper.wp;rw [hr];refine(Z w (λr hp=>by obtain⟨j,I,_,t,n,m,_⟩:=s.mem r hp;obtain⟨D,t⟩:=Ht _ _ _ _ t;exact⟨n w (hs.hold j I t),λk B Y=>hs.sep i j _ I (iK D) v t l k B (m k Y)⟩) (hs.hold i _ v)).mono ?_
 rintro e w' ⟨g,rfl,hg,h,hq,m⟩;rw [hd];exact S g _ _ hg (Sat.put (hs.upd v l z h hq m R hw) d _ W) ⟨h.os,h.tape,h.output,h.size,λk B hn=>h.block k B (λe=>hn (V k e))⟩
def Yjp(P:Program)(fn:Func)(w0:World)(p:Pc){G:Type}(φ:G->Prop)(val:G->Value)(q:G->Pc):Exit->Act->World->Prop:=
 bodyPost P fn λe a=>∃g,e= .returned (val g)/\φ g/\Chg p.fp w0 a/\(q g).holds a/\∀k,(q g).fp k->p.fp k\/w0.heap.size<=k
theorem Zqj   {c:Code}    {G:Type} {φ:G->Prop} {val:G->Value} {q:G->Pc} {N:Nat}
  (y:P.funcs[f]? = some fn) (u:fn.body=some c) (W:fn.ntmps=N) (m:Nat.ble vs.length N=true) (n:AllRo pre)
  (h:∀w0 (sc:Nat->Prop),(∀k,w0.heap.size<=k->sc k)->(∀k,sc k->w0.heap.size<=k\/p.fp k\/∃q∈pre,q.fp k)->
   E P N sc c (Yjp P fn w0 p φ val q) (Qh 0 vs) ((0,Zt w0 p.fp)::(1,p)::Yh 2 pre)) :
  Yju P f vs.toArray pre p φ val q:=λw Y x=>by
 refine calls_of_wp y u (h w _ (λk b=> .inl b) (λk b=>b) _ w ?_);have m:vs.length<=N:=O10;have a:∀i r,lk ((0,Zt w p.fp)::(1,p)::Yh 2 pre) i=some r->(i=0/\r=Zt w p.fp)\/(i=1/\r=p)\/(i≠0/\i≠1/\r∈pre/\r.own=false):=λi r hi=>by
   by_cases o:0=i
   .grind [Zo]
   .rw [Zg _ _ o]at hi;by_cases d:1=i
    .grind [Zo]
    .rw [Zg _ _ d]at hi;obtain⟨_,g⟩:=Ot pre 2 i r hi;exact .inr (.inr ⟨λe=>o e.symm,λe=>d e.symm,g,n.mem r g⟩)
 refine⟨O4,rfl,λt v R=>?_,λi r hi=>?_,λi j r S F hi B I k b l=>?_,λi r z hi k b=>?_⟩
 .have d:vs.toArray[t]? = some v:=by simpa using(Hs vs 0 t v R).2
  have D:=(aK.1 d).1;simp_all [bE,dP]
 .rcases a i r hi with⟨_,rfl⟩|⟨_,rfl⟩|⟨_,_,g,_⟩
  .exact Chg.refl _ w
  all_goals grind
 .rcases a i r hi with⟨_,rfl⟩|⟨d,rfl⟩|⟨_,_,g,s⟩
  .cases I
  .rcases a j S B with⟨_,rfl⟩|⟨V,rfl⟩|⟨_,_,g,_⟩
   .exact l.2 b
   all_goals grind
  grind
 grind
theorem Zuw    {G:Type} {φ:G->Prop} {val:G->Value} {q:G->Pc}  {e:Exit} (B:e= .ret\/e= .normal) (u:∀k,sc k->w0.heap.size<=k\/p.fp k\/∃q∈pre,q.fp k)
  (g:G) {v:Value} (m:∀a w,Sat N sc env H a w->(results fn a.tmps).run P w= .ok v w) (R:val g=v) (D:φ g) (i:Nat) (hi:lk H i=some (q g)) (z:lk H 0=some (Zt w0 p.fp)) (b:Nat.beq i 0=false) (d:(q g).own=true) (l:PreOk (drp i H) false pre) :
  X N sc e (Yjp P fn w0 p φ val q) env H:=λa w hs=>by
 have b:i≠0:=λe=>O10;have x:a.defers=[]/\∃v,(results fn a.tmps).run P w= .ok v w/\(∃g,Ending.returned v= .returned (val g)/\φ g/\Chg p.fp w0 w/\(q g).holds w/\∀k,(q g).fp k->p.fp k\/w0.heap.size<=k):=by
  refine⟨hs.defers,v,m a w hs,g,O4,D,hs.hold 0 _ z,hs.hold i _ hi,λk y=>?_⟩;rcases u k (hs.scope i _ b hi k y)with h|h|⟨r,F,t⟩
  .omega
  .grind
  .obtain⟨j,I,_,o,_,n,_⟩:=l.mem r F;obtain⟨s,o⟩:=Ht _ _ _ _ o;exact(hs.sep i j _ I (iK s) hi o d k y (n k t)).elim
 rcases B with rfl|rfl<;>exact x
def gb{α:Type}(b:Nat)(t:TypeId)(k:Nat)(e:TypeId)(enc:α->Value)(v:Value)(xs:List α):Pc:=
 {own:=true,fp:=λc=>c=b\/v.ownBlock=some c,holds:=λw=>(box b t #[v]).holds w/\(Nc k e enc v xs).holds w/\v.ownBlock≠some b
  lt:=λw c h a=>by
   rcases a with rfl|a
   .exact(box c t #[v]).lt w c h.1 rfl
   .exact(Nc k e enc v xs).lt w c h.2.1 a
  stable:=λw l h a=>⟨(box b t #[v]).stable w l h.1 ⟨a.os,a.tape,a.output,a.size,λk g i=>a.block k g (λd=>i (λj=>d (.inl j)))⟩,
   (Nc k e enc v xs).stable w l h.2.1 ⟨a.os,a.tape,a.output,a.size,λk g i=>a.block k g (λd=>i (λj=>d (.inr j)))⟩,h.2.2⟩ }
end Go.Sky
namespace Go.Sky
open Go.Proofs
def pU:Enc Tryz.prog 87 1 Mb:=Enc.flat Tryz.sizeOf87 Tryz.isAgg87 (λ_=>rfl)
def pB:Enc Tryz.prog 5 1 Yb9:=Enc.flat Tryz.sizeOf5 Tryz.isAgg5 (λ_=>rfl)
def pN:Enc Tryz.prog 3 1 Ymx:=Enc.flat Tryz.sizeOf3 Tryz.isAgg3 (λ_=>rfl)
def pZ:Enc Tryz.prog 3 1 Xh:=Enc.flat Tryz.sizeOf3 Tryz.isAgg3 (λ_=>rfl)
def Zhq(args:Array Value)(w:World):(callFunc 188 args).run Tryz.prog w=((add64Entry args).run Tryz.prog w).andThen λv w'=> .ok (.value v) w':=
 run_callFunc_extern Tryz.func188 O7 O7 O7 O7 args w
def Ya2(args:Array Value)(w:World):(callFunc 189 args).run Tryz.prog w=((Zeg args).run Tryz.prog w).andThen λv w'=> .ok (.value v) w':=
 run_callFunc_extern Tryz.func189 O7 O7 O7 O7 args w
end Go.Sky
theorem Go.Proofs.Tryz.ti87:Go.Proofs.Tryz.prog.info? 87=some Go.Proofs.Tryz.t87:=Go.Sky.O7
namespace Go.Sky
open Go.Proofs
end Go.Sky
theorem Go.Proofs.Tryz.ti5:Go.Proofs.Tryz.prog.info? 5=some Go.Proofs.Tryz.t5:=Go.Sky.O7
namespace Go.Sky
open Go.Proofs
end Go.Sky
theorem Go.Proofs.Tryz.ti3:Go.Proofs.Tryz.prog.info? 3=some Go.Proofs.Tryz.t3:=Go.Sky.O7
namespace Go.Sky
open Go.Proofs
def pW:Enc Tryz.prog 130 2 Yho:=Enc.agg O3 Tryz.sizeOf130 Tryz.isAgg130 (λx=>⟨[.bool x.1,.string x.2],rfl,rfl,O11⟩)
def pV:Enc Tryz.prog 130 2 wv:=Enc.agg O3 Tryz.sizeOf130 Tryz.isAgg130 (λx=>⟨[.bool (decide (x<0)),.string (Xn x.natAbs)],rfl,rfl,O11⟩)
def pI:Enc Tryz.prog 216 2 Ymy:=Enc.agg O3 Tryz.sizeOf216 Tryz.isAgg216 (λx=>⟨[.bool (decide (x.1<0)),Yz x.2],rfl,rfl,O11⟩)
def pS{α:Type} : Enc Tryz.prog 96 1 (Pb (α:=α)):=Enc.flat Tryz.sizeOf96 Tryz.isAgg96 (λ_=>rfl)
def pY:Enc Tryz.prog 299 8 iq:=Enc.agg O3 Tryz.sizeOf299 Tryz.isAgg299 (λx=>⟨[.bool (decide (x.1.1<0)),.string (Xn x.1.1.natAbs),.bool (decide (x.1.2<0)),.string (Xn x.1.2.natAbs),.bool (decide (x.2.1<0)),.string (Xn x.2.1.natAbs),.bool (decide (x.2.2<0)),.string (Xn x.2.2.natAbs)],rfl,rfl,O11⟩)
def pQ:Enc Tryz.prog 132 4 rq:=Enc.agg O3 Tryz.sizeOf132 Tryz.isAgg132 (λx=>⟨[.bool (decide (x.1<0)),.string (Xn x.1.natAbs),.bool (decide (x.2<0)),.string (Xn x.2.natAbs)],rfl,rfl,O11⟩)
def pR:Enc Tryz.prog 132 4 encQ:=Enc.agg O3 Tryz.sizeOf132 Tryz.isAgg132 (λx=>⟨[.bool x.1.1,.string x.1.2,.bool x.2.1,.string x.2.2],rfl,rfl,O11⟩)
def sh130:Tryz.prog.stoodInHeld 130=false:=O7
def eg130:Tryz.prog.eqGuardType Tryz.prog.depth 130=false:=O7
def in130(d:Nat)(w:World)(a:Bool)(s:ByteArray)(b:Bool)(t:ByteArray):(Op.equalIn (d+2) 130 (.agg #[.bool a,.string s]) (.agg #[.bool b,.string t])).run Tryz.prog w= .ok (eqW a s b t) w:=by
 have c:Tryz.prog.underlying 130=some (.struct (Tryz.prog.fieldsOf 130)):=by unfold Program.fieldsOf;rw [Tryz.underlying130]
 rw [run_equalIn_agg w (d+1) 130 _ _ c sh130];unfold Program.fieldsOf;rw [Tryz.underlying130];simp [Op.eqFields,part,Tryz.isAgg4,Tryz.isAgg9,run_equalIn_bool' _ _ _ _ _ Tryz.underlying4,run_equalIn_string _ _ _ _ _ Tryz.underlying9];unfold eqW;cases hab:(a == b)
 .simp_all
 .by_cases h:s.toList=t.toList<;>simp_all
def eql130(w:World){a:Bool}{s:ByteArray}{b:Bool}{t:ByteArray}:(binOp .eql 130 (.agg #[.bool a,.string s]) (.agg #[.bool b,.string t])).run Tryz.prog w= .ok (.bool (eqW a s b t)) w:=by rw [run_eql_struct,in130];rfl
end Go.Sky
theorem Go.Proofs.Tryz.ti23:Go.Proofs.Tryz.prog.info? 23=some Go.Proofs.Tryz.t23:=Go.Sky.O7
namespace Go.Sky
open Go.Proofs
end Go.Sky
theorem Go.Proofs.Tryz.ti31:Go.Proofs.Tryz.prog.info? 31=some Go.Proofs.Tryz.t31:=Go.Sky.O7
namespace Go.Sky
open Go.Proofs
end Go.Sky
theorem Go.Proofs.Tryz.ti37:Go.Proofs.Tryz.prog.info? 37=some Go.Proofs.Tryz.t37:=Go.Sky.O7
namespace Go.Sky
open Go.Proofs
end Go.Sky
theorem Go.Proofs.Tryz.ti50:Go.Proofs.Tryz.prog.info? 50=some Go.Proofs.Tryz.t50:=Go.Sky.O7
namespace Go.Sky
open Go.Proofs
end Go.Sky
theorem Go.Proofs.Tryz.ti52:Go.Proofs.Tryz.prog.info? 52=some Go.Proofs.Tryz.t52:=Go.Sky.O7
namespace Go.Sky
open Go.Proofs
end Go.Sky
theorem Go.Proofs.Tryz.ti96:Go.Proofs.Tryz.prog.info? 96=some Go.Proofs.Tryz.t96:=Go.Sky.O7
namespace Go.Sky
open Go.Proofs
end Go.Sky
theorem Go.Proofs.Tryz.ti101:Go.Proofs.Tryz.prog.info? 101=some Go.Proofs.Tryz.t101:=Go.Sky.O7
namespace Go.Sky
open Go.Proofs
end Go.Sky
theorem Go.Proofs.Tryz.ti130:Go.Proofs.Tryz.prog.info? 130=some Go.Proofs.Tryz.t130:=Go.Sky.O7
namespace Go.Sky
open Go.Proofs
end Go.Sky
theorem Go.Proofs.Tryz.ti132:Go.Proofs.Tryz.prog.info? 132=some Go.Proofs.Tryz.t132:=Go.Sky.O7
namespace Go.Sky
open Go.Proofs
end Go.Sky
theorem Go.Proofs.Tryz.ti275:Go.Proofs.Tryz.prog.info? 275=some Go.Proofs.Tryz.t275:=Go.Sky.O7
namespace Go.Sky
open Go.Proofs
variable{v0 v1 v2:Value}
theorem Zhp(a:v0.oneCell'=true)(b:v1.oneCell'=true):Tryz.prog.built 23 [(0,v0),(1,v1)]=some #[v0,v1,.int .i64 0]:=by refine Qf Tryz.ti23 Tryz.underlying23 rfl (pl:=[(0,1),(1,1),(2,1)]) (by simp [Tryz.ti3];try decide) ?_;simp [Instr.fill,Zn a,Zn b,show(Value.agg #[.int .i64 0,.int .i64 0,.int .i64 0]).cells=#[.int .i64 0,.int .i64 0,.int .i64 0]from rfl]
theorem Yap(a:v0.oneCell'=true)(b:v1.oneCell'=true)(c:v2.oneCell'=true):Tryz.prog.built 23 [(0,v0),(1,v1),(2,v2)]=some #[v0,v1,v2]:=by refine Qf Tryz.ti23 Tryz.underlying23 rfl (pl:=[(0,1),(1,1),(2,1)]) (by simp [Tryz.ti3];try decide) ?_;simp [Instr.fill,Zn a,Zn b,Zn c,show(Value.agg #[.int .i64 0,.int .i64 0,.int .i64 0]).cells=#[.int .i64 0,.int .i64 0,.int .i64 0]from rfl]
theorem Ze0(a:v0.oneCell'=true)(b:v2.oneCell'=true):Tryz.prog.built 23 [(0,v0),(2,v2)]=some #[v0,.int .i64 0,v2]:=by refine Qf Tryz.ti23 Tryz.underlying23 rfl (pl:=[(0,1),(1,1),(2,1)]) (by simp [Tryz.ti3];try decide) ?_;simp [Instr.fill,Zn a,Zn b,show(Value.agg #[.int .i64 0,.int .i64 0,.int .i64 0]).cells=#[.int .i64 0,.int .i64 0,.int .i64 0]from rfl]
theorem b23_2(a:v2.oneCell'=true):Tryz.prog.built 23 [(2,v2)]=some #[.int .i64 0,.int .i64 0,v2]:=by refine Qf Tryz.ti23 Tryz.underlying23 rfl (pl:=[(0,1),(1,1),(2,1)]) (by simp [Tryz.ti3];try decide) ?_;simp [Instr.fill,Zn a,show(Value.agg #[.int .i64 0,.int .i64 0,.int .i64 0]).cells=#[.int .i64 0,.int .i64 0,.int .i64 0]from rfl]
end Go.Sky
theorem Go.Proofs.Tryz.ti40:Go.Proofs.Tryz.prog.info? 40=some Go.Proofs.Tryz.t40:=Go.Sky.O7
namespace Go.Sky
open Go.Proofs
end Go.Sky
theorem Go.Proofs.Tryz.ti38:Go.Proofs.Tryz.prog.info? 38=some Go.Proofs.Tryz.t38:=Go.Sky.O7
namespace Go.Sky
open Go.Proofs
def b40_03{a b:Value}(c:a.oneCell'=true)(d:b.oneCell'=true):Tryz.prog.built 40 [(0,a),(3,b)]=some #[a,.slice none 0 0,.int .i64 0,b]:=by refine Qf Tryz.ti40 Tryz.underlying40 rfl (pl:=[(0,1),(1,1),(2,1),(3,1)]) (by simp [Tryz.ti3,Tryz.ti37,Tryz.ti38];try decide) ?_;simp [Instr.fill,Zn c,Zn d,show(Value.agg #[.slice none 0 0,.slice none 0 0,.int .i64 0,.int .i64 0]).cells=#[.slice none 0 0,.slice none 0 0,.int .i64 0,.int .i64 0]from rfl]
end Go.Sky
theorem Go.Proofs.Tryz.ti42:Go.Proofs.Tryz.prog.info? 42=some Go.Proofs.Tryz.t42:=Go.Sky.O7
namespace Go.Sky
open Go.Proofs
def Yn6{a b c:Value}(d:a.oneCell'=true)(e:b.oneCell'=true)(f:c.oneCell'=true):Tryz.prog.built 42 [(0,a),(1,b),(2,c)]=some #[a,b,c]:=by refine Qf Tryz.ti42 Tryz.underlying42 rfl (pl:=[(0,1),(1,1),(2,1)]) (by simp [Tryz.ti3];try decide) ?_;simp [Instr.fill,Zn d,Zn e,Zn f,show(Value.agg #[.int .i64 0,.int .i64 0,.int .i64 0]).cells=#[.int .i64 0,.int .i64 0,.int .i64 0]from rfl]
def Zho{a b:Value}(c:a.oneCell'=true)(d:b.oneCell'=true):Tryz.prog.built 50 [(0,a),(1,b)]=some #[a,b]:=by refine Qf Tryz.ti50 Tryz.underlying50 rfl (pl:=[(0,1),(1,1)]) (by simp [Tryz.ti3];try decide) ?_;simp [Instr.fill,Zn c,Zn d,show(Value.agg #[.int .i64 0,.int .i64 0]).cells=#[.int .i64 0,.int .i64 0]from rfl]
def Zw5{a b c d e:Value} : Tryz.prog.built 52 [(0,.agg #[a,b]),(1,.agg #[c,d,e])]=some #[a,b,c,d,e]:=by refine Qf Tryz.ti52 Tryz.underlying52 rfl (pl:=[(0,2),(2,3)]) (by simp [Tryz.ti23,Tryz.ti50];try decide) ?_;simp [Instr.fill,show(Value.agg #[a,b]).cells=#[a,b]from rfl,show(Value.agg #[c,d,e]).cells=#[c,d,e]from rfl,show(Value.agg #[.int .i64 0,.int .i64 0,.int .i64 0,.int .i64 0,.int .i64 0]).cells=#[.int .i64 0,.int .i64 0,.int .i64 0,.int .i64 0,.int .i64 0]from rfl]
end Go.Sky
theorem Go.Proofs.Tryz.ti4:Go.Proofs.Tryz.prog.info? 4=some Go.Proofs.Tryz.t4:=Go.Sky.O7
namespace Go.Sky
open Go.Proofs
end Go.Sky
theorem Go.Proofs.Tryz.ti99:Go.Proofs.Tryz.prog.info? 99=some Go.Proofs.Tryz.t99:=Go.Sky.O7
namespace Go.Sky
open Go.Proofs
def Yn8{a b:Value}(c:a.oneCell'=true)(d:b.oneCell'=true):Tryz.prog.built 101 [(0,a),(1,b)]=some #[a,b,.int .i64 0,.slice none 0 0,.slice none 0 0,.slice none 0 0]:=by refine Qf Tryz.ti101 Tryz.underlying101 rfl (pl:=[(0,1),(1,1),(2,1),(3,1),(4,1),(5,1)]) (by simp [Tryz.ti3,Tryz.ti99];try decide) ?_;simp [Instr.fill,Zn c,Zn d,show(Value.agg #[.int .i64 0,.int .i64 0,.int .i64 0,.slice none 0 0,.slice none 0 0,.slice none 0 0]).cells=#[.int .i64 0,.int .i64 0,.int .i64 0,.slice none 0 0,.slice none 0 0,.slice none 0 0]from rfl]
def Zul{a b c d e f:Value}(g:a.oneCell'=true)(h:b.oneCell'=true)(i:c.oneCell'=true)(j:d.oneCell'=true)(k:e.oneCell'=true)(l:f.oneCell'=true):Tryz.prog.built 101 [(0,a),(1,b),(2,c),(3,d),(4,e),(5,f)]=some #[a,b,c,d,e,f]:=by refine Qf Tryz.ti101 Tryz.underlying101 rfl (pl:=[(0,1),(1,1),(2,1),(3,1),(4,1),(5,1)]) (by simp [Tryz.ti3,Tryz.ti99];try decide) ?_;simp [Instr.fill,Zn g,Zn h,Zn i,Zn j,Zn k,Zn l,show(Value.agg #[.int .i64 0,.int .i64 0,.int .i64 0,.slice none 0 0,.slice none 0 0,.slice none 0 0]).cells=#[.int .i64 0,.int .i64 0,.int .i64 0,.slice none 0 0,.slice none 0 0,.slice none 0 0]from rfl]
end Go.Sky
theorem Go.Proofs.Tryz.ti120:Go.Proofs.Tryz.prog.info? 120=some Go.Proofs.Tryz.t120:=Go.Sky.O7
namespace Go.Sky
open Go.Proofs
def Zw6{a b c:Value} : Tryz.prog.built 120 [(0,.agg #[a,b,c])]=some #[a,b,c]:=by refine Qf Tryz.ti120 Tryz.underlying120 rfl (pl:=[(0,3)]) (by simp [Tryz.ti42];try decide) ?_;simp [Instr.fill,show(Value.agg #[a,b,c]).cells=#[a,b,c]from rfl,show(Value.agg #[.int .i64 0,.int .i64 0,.int .i64 0]).cells=#[.int .i64 0,.int .i64 0,.int .i64 0]from rfl]
end Go.Sky
theorem Go.Proofs.Tryz.ti9:Go.Proofs.Tryz.prog.info? 9=some Go.Proofs.Tryz.t9:=Go.Sky.O7
namespace Go.Sky
open Go.Proofs
def Yi8:Tryz.prog.built 130 []=some #[.bool false,.string ⟨#[]⟩]:=by refine Qf Tryz.ti130 Tryz.underlying130 rfl (pl:=[(0,1),(1,1)]) (by simp [Tryz.ti4,Tryz.ti9];try decide) ?_;simp [Instr.fill,show(Value.agg #[.bool false,.string ⟨#[]⟩]).cells=#[.bool false,.string ⟨#[]⟩]from rfl]
def Yaq{a b:Value}(c:a.oneCell'=true)(d:b.oneCell'=true):Tryz.prog.built 130 [(0,a),(1,b)]=some #[a,b]:=by refine Qf Tryz.ti130 Tryz.underlying130 rfl (pl:=[(0,1),(1,1)]) (by simp [Tryz.ti4,Tryz.ti9];try decide) ?_;simp [Instr.fill,Zn c,Zn d,show(Value.agg #[.bool false,.string ⟨#[]⟩]).cells=#[.bool false,.string ⟨#[]⟩]from rfl]
def Zuk:Tryz.prog.built 132 []=some #[.bool false,.string ⟨#[]⟩,.bool false,.string ⟨#[]⟩]:=by refine Qf Tryz.ti132 Tryz.underlying132 rfl (pl:=[(0,2),(2,2)]) (by simp [Tryz.ti130];try decide) ?_;simp [Instr.fill,show(Value.agg #[.bool false,.string ⟨#[]⟩,.bool false,.string ⟨#[]⟩]).cells=#[.bool false,.string ⟨#[]⟩,.bool false,.string ⟨#[]⟩]from rfl]
def Zgj{a b c d:Value} : Tryz.prog.built 132 [(0,.agg #[a,b]),(1,.agg #[c,d])]=some #[a,b,c,d]:=by refine Qf Tryz.ti132 Tryz.underlying132 rfl (pl:=[(0,2),(2,2)]) (by simp [Tryz.ti130];try decide) ?_;simp [Instr.fill,show(Value.agg #[a,b]).cells=#[a,b]from rfl,show(Value.agg #[c,d]).cells=#[c,d]from rfl,show(Value.agg #[.bool false,.string ⟨#[]⟩,.bool false,.string ⟨#[]⟩]).cells=#[.bool false,.string ⟨#[]⟩,.bool false,.string ⟨#[]⟩]from rfl]
end Go.Sky
theorem Go.Proofs.Tryz.ti142:Go.Proofs.Tryz.prog.info? 142=some Go.Proofs.Tryz.t142:=Go.Sky.O7
namespace Go.Sky
open Go.Proofs
def Ycn{a b c d e f g h:Value} : Tryz.prog.built 142 [(0,.agg #[a,b]),(1,.agg #[c,d]),(2,.agg #[e,f]),(3,.agg #[g,h])]=some #[a,b,c,d,e,f,g,h]:=by refine Qf Tryz.ti142 Tryz.underlying142 rfl (pl:=[(0,2),(2,2),(4,2),(6,2)]) (by simp [Tryz.ti130];try decide) ?_;simp [Instr.fill,show(Value.agg #[a,b]).cells=#[a,b]from rfl,show(Value.agg #[c,d]).cells=#[c,d]from rfl,show(Value.agg #[e,f]).cells=#[e,f]from rfl,show(Value.agg #[g,h]).cells=#[g,h]from rfl,show(Value.agg #[.bool false,.string ⟨#[]⟩,.bool false,.string ⟨#[]⟩,.bool false,.string ⟨#[]⟩,.bool false,.string ⟨#[]⟩]).cells=#[.bool false,.string ⟨#[]⟩,.bool false,.string ⟨#[]⟩,.bool false,.string ⟨#[]⟩,.bool false,.string ⟨#[]⟩]from rfl]
end Go.Sky
theorem Go.Proofs.Tryz.ti188:Go.Proofs.Tryz.prog.info? 188=some Go.Proofs.Tryz.t188:=Go.Sky.O7
namespace Go.Sky
open Go.Proofs
end Go.Sky
theorem Go.Proofs.Tryz.ti186:Go.Proofs.Tryz.prog.info? 186=some Go.Proofs.Tryz.t186:=Go.Sky.O7
namespace Go.Sky
open Go.Proofs
def Ki{a b:Value}(c:a.oneCell'=true)(d:b.oneCell'=true):Tryz.prog.built 188 [(0,a),(1,b)]=some #[a,b]:=by refine Qf Tryz.ti188 Tryz.underlying188 rfl (pl:=[(0,1),(1,1)]) (by simp [Tryz.ti186,Tryz.ti4];try decide) ?_;simp [Instr.fill,Zn c,Zn d,show(Value.agg #[.bool false,.slice none 0 0]).cells=#[.bool false,.slice none 0 0]from rfl]
def Yi6{a b c:Value}(d:a.oneCell'=true)(e:b.oneCell'=true)(f:c.oneCell'=true):Tryz.prog.built 275 [(0,a),(1,b),(2,c)]=some #[a,b,c]:=by refine Qf Tryz.ti275 Tryz.underlying275 rfl (pl:=[(0,1),(1,1),(2,1)]) (by simp [Tryz.ti3,Tryz.ti96];try decide) ?_;simp [Instr.fill,Zn d,Zn e,Zn f,show(Value.agg #[.int .i64 0,.int .i64 0,.slice none 0 0]).cells=#[.int .i64 0,.int .i64 0,.slice none 0 0]from rfl]
end Go.Sky
theorem Go.Proofs.Tryz.ti299:Go.Proofs.Tryz.prog.info? 299=some Go.Proofs.Tryz.t299:=Go.Sky.O7
namespace Go.Sky
open Go.Proofs
variable{N:Nat}{sc:Nat->Prop}{o:Oper}{env:Qi}{r:Value}{pre:List Pc}{t:TypeId}
theorem Yn7{a b c d e f g h:Value} : Tryz.prog.built 299 [(0,.agg #[a,b,c,d]),(1,.agg #[e,f,g,h])]=some #[a,b,c,d,e,f,g,h]:=by refine Qf Tryz.ti299 Tryz.underlying299 rfl (pl:=[(0,4),(4,4)]) (by simp [Tryz.ti132];try decide) ?_;simp [Instr.fill,show(Value.agg #[a,b,c,d]).cells=#[a,b,c,d]from rfl,show(Value.agg #[e,f,g,h]).cells=#[e,f,g,h]from rfl,show(Value.agg #[.bool false,.string ⟨#[]⟩,.bool false,.string ⟨#[]⟩,.bool false,.string ⟨#[]⟩,.bool false,.string ⟨#[]⟩]).cells=#[.bool false,.string ⟨#[]⟩,.bool false,.string ⟨#[]⟩,.bool false,.string ⟨#[]⟩,.bool false,.string ⟨#[]⟩]from rfl]
def J{α:Sort _}{a:α} : a=a:=rfl
def CA{α:Type _}(a:α)(s t:List α):(a::s) ++ t=a::(s ++ t):=rfl
def NA{α:Type _}(t:List α):[] ++ t=t:=rfl
abbrev Xi (P:Program) (f:FuncId) (a:Array Value) (p:List Pc) (v:Value):Prop:=Cal P f a p false (G:=Unit) (λ_=>True) (λ_=>v) (λ_=>[])
abbrev rX (x y:Int):Value:= .agg #[.bool (decide (x<0)),.string (Xn x.natAbs),.bool (decide (y<0)),.string (Xn y.natAbs)]
def vB{a b:Bool}(h:a=b):Value.bool a=Value.bool b:=aD _ h
def dF{P:Program}{H:Hp}(h:Mt P N sc o env H r)(e:r= .bool false):Mt P N sc o env H (.bool false):=Yt _ h e
def dT{P:Program}{H:Hp}(h:Mt P N sc o env H r)(e:r= .bool true):Mt P N sc o env H (.bool true):=Yt _ h e
def xG{P:Program}{H:Hp}{fn:Func}{al:Bool}{G:Type}{φ:G->Prop}{val:G->Value}{d:G->List Pc}{w0:World}{r1:ResultVar}{v:Value}(e:∀b,sc b->w0.heap.size<=b\/∃q∈pre,q.fp b)(g:G)(i:fn.results=#[r1])(h:RV P N sc env H r1 v)(k:val g=v)(j:φ g)(f:lk H 0=some (Zt w0 (λ_=>False)))(c:Give H al (d g)):X N sc .ret (Zah P fn w0 pre al φ val d) env H:=Fm (.inl rfl) e g (v:=v) (λa w hs=>Fd hs i h) k j f c
def K1{t0:Sort _}{a:t0} : a=a/\True:=⟨rfl,aA⟩
def K2{t0:Sort _}{a:t0}{t1:Sort _}{b:t1} : a=a/\b=b/\True:=⟨rfl,rfl,aA⟩
def K3{t0:Sort _}{a:t0}{t1:Sort _}{b:t1}{t2:Sort _}{c:t2} : a=a/\b=b/\c=c/\True:=⟨rfl,rfl,rfl,aA⟩
def K4{t0:Sort _}{a:t0}{t1:Sort _}{b:t1}{t2:Sort _}{c:t2}{t3:Sort _}{d:t3} : a=a/\b=b/\c=c/\d=d/\True:=⟨rfl,rfl,rfl,rfl,aA⟩
def K5{t0:Sort _}{a:t0}{t1:Sort _}{b:t1}{t2:Sort _}{c:t2}{t3:Sort _}{d:t3}{t4:Sort _}{e:t4} : a=a/\b=b/\c=c/\d=d/\e=e/\True:=⟨rfl,rfl,rfl,rfl,rfl,aA⟩
def K6{t0:Sort _}{a:t0}{t1:Sort _}{b:t1}{t2:Sort _}{c:t2}{t3:Sort _}{d:t3}{t4:Sort _}{e:t4}{t5:Sort _}{f:t5} : a=a/\b=b/\c=c/\d=d/\e=e/\f=f/\True:=⟨rfl,rfl,rfl,rfl,rfl,rfl,aA⟩
def K7{t0:Sort _}{a:t0}{t1:Sort _}{b:t1}{t2:Sort _}{c:t2}{t3:Sort _}{d:t3}{t4:Sort _}{e:t4}{t5:Sort _}{f:t5}{t6:Sort _}{g:t6} : a=a/\b=b/\c=c/\d=d/\e=e/\f=f/\g=g/\True:=⟨rfl,rfl,rfl,rfl,rfl,rfl,rfl,aA⟩
def K8{t0:Sort _}{a:t0}{t1:Sort _}{b:t1}{t2:Sort _}{c:t2}{t3:Sort _}{d:t3}{t4:Sort _}{e:t4}{t5:Sort _}{f:t5}{t6:Sort _}{g:t6}{t7:Sort _}{h:t7} : a=a/\b=b/\c=c/\d=d/\e=e/\f=f/\g=g/\h=h/\True:=⟨rfl,rfl,rfl,rfl,rfl,rfl,rfl,rfl,aA⟩
def K9{t0:Sort _}{a:t0}{t1:Sort _}{b:t1}{t2:Sort _}{c:t2}{t3:Sort _}{d:t3}{t4:Sort _}{e:t4}{t5:Sort _}{f:t5}{t6:Sort _}{g:t6}{t7:Sort _}{h:t7}{t8:Sort _}{i:t8} : a=a/\b=b/\c=c/\d=d/\e=e/\f=f/\g=g/\h=h/\i=i/\True:=⟨rfl,rfl,rfl,rfl,rfl,rfl,rfl,rfl,rfl,aA⟩
def K10{t0:Sort _}{a:t0}{t1:Sort _}{b:t1}{t2:Sort _}{c:t2}{t3:Sort _}{d:t3}{t4:Sort _}{e:t4}{t5:Sort _}{f:t5}{t6:Sort _}{g:t6}{t7:Sort _}{h:t7}{t8:Sort _}{i:t8}{t9:Sort _}{j:t9} : a=a/\b=b/\c=c/\d=d/\e=e/\f=f/\g=g/\h=h/\i=i/\j=j/\True:=⟨rfl,rfl,rfl,rfl,rfl,rfl,rfl,rfl,rfl,rfl,aA⟩
def K11{t0:Sort _}{b:t0}{t1:Sort _}{c:t1}{t2:Sort _}{d:t2}{t3:Sort _}{e:t3}{t4:Sort _}{f:t4}{t5:Sort _}{g:t5}{t6:Sort _}{h:t6}{t7:Sort _}{i:t7}{t8:Sort _}{j:t8}{t9:Sort _}{k:t9}{t10:Sort _}{a:t10} : b=b/\c=c/\d=d/\e=e/\f=f/\g=g/\h=h/\i=i/\j=j/\k=k/\a=a/\True:=⟨rfl,rfl,rfl,rfl,rfl,rfl,rfl,rfl,rfl,rfl,rfl,aA⟩
def K12{t0:Sort _}{c:t0}{t1:Sort _}{d:t1}{t2:Sort _}{e:t2}{t3:Sort _}{f:t3}{t4:Sort _}{g:t4}{t5:Sort _}{h:t5}{t6:Sort _}{i:t6}{t7:Sort _}{j:t7}{t8:Sort _}{k:t8}{t9:Sort _}{l:t9}{t10:Sort _}{a:t10}{t11:Sort _}{b:t11} : c=c/\d=d/\e=e/\f=f/\g=g/\h=h/\i=i/\j=j/\k=k/\l=l/\a=a/\b=b/\True:=⟨rfl,rfl,rfl,rfl,rfl,rfl,rfl,rfl,rfl,rfl,rfl,rfl,aA⟩
def K13{t0:Sort _}{d:t0}{t1:Sort _}{e:t1}{t2:Sort _}{f:t2}{t3:Sort _}{g:t3}{t4:Sort _}{h:t4}{t5:Sort _}{i:t5}{t6:Sort _}{j:t6}{t7:Sort _}{k:t7}{t8:Sort _}{l:t8}{t9:Sort _}{m:t9}{t10:Sort _}{a:t10}{t11:Sort _}{b:t11}{t12:Sort _}{c:t12} : d=d/\e=e/\f=f/\g=g/\h=h/\i=i/\j=j/\k=k/\l=l/\m=m/\a=a/\b=b/\c=c/\True:=⟨rfl,rfl,rfl,rfl,rfl,rfl,rfl,rfl,rfl,rfl,rfl,rfl,rfl,aA⟩
def K14{t0:Sort _}{e:t0}{t1:Sort _}{f:t1}{t2:Sort _}{g:t2}{t3:Sort _}{h:t3}{t4:Sort _}{i:t4}{t5:Sort _}{j:t5}{t6:Sort _}{k:t6}{t7:Sort _}{l:t7}{t8:Sort _}{m:t8}{t9:Sort _}{n:t9}{t10:Sort _}{a:t10}{t11:Sort _}{b:t11}{t12:Sort _}{c:t12}{t13:Sort _}{d:t13} : e=e/\f=f/\g=g/\h=h/\i=i/\j=j/\k=k/\l=l/\m=m/\n=n/\a=a/\b=b/\c=c/\d=d/\True:=⟨rfl,rfl,rfl,rfl,rfl,rfl,rfl,rfl,rfl,rfl,rfl,rfl,rfl,rfl,aA⟩
def K15{t0:Sort _}{f:t0}{t1:Sort _}{g:t1}{t2:Sort _}{h:t2}{t3:Sort _}{i:t3}{t4:Sort _}{j:t4}{t5:Sort _}{k:t5}{t6:Sort _}{l:t6}{t7:Sort _}{m:t7}{t8:Sort _}{n:t8}{t9:Sort _}{p:t9}{t10:Sort _}{a:t10}{t11:Sort _}{b:t11}{t12:Sort _}{c:t12}{t13:Sort _}{d:t13}{t14:Sort _}{e:t14} : f=f/\g=g/\h=h/\i=i/\j=j/\k=k/\l=l/\m=m/\n=n/\p=p/\a=a/\b=b/\c=c/\d=d/\e=e/\True:=⟨rfl,rfl,rfl,rfl,rfl,rfl,rfl,rfl,rfl,rfl,rfl,rfl,rfl,rfl,rfl,aA⟩
def K17{t0:Sort _}{h:t0}{t1:Sort _}{i:t1}{t2:Sort _}{j:t2}{t3:Sort _}{k:t3}{t4:Sort _}{l:t4}{t5:Sort _}{m:t5}{t6:Sort _}{n:t6}{t7:Sort _}{p:t7}{t8:Sort _}{q:t8}{t9:Sort _}{s:t9}{t10:Sort _}{a:t10}{t11:Sort _}{b:t11}{t12:Sort _}{c:t12}{t13:Sort _}{d:t13}{t14:Sort _}{e:t14}{t15:Sort _}{f:t15}{t16:Sort _}{g:t16} : h=h/\i=i/\j=j/\k=k/\l=l/\m=m/\n=n/\p=p/\q=q/\s=s/\a=a/\b=b/\c=c/\d=d/\e=e/\f=f/\g=g/\True:=⟨rfl,rfl,rfl,rfl,rfl,rfl,rfl,rfl,rfl,rfl,rfl,rfl,rfl,rfl,rfl,rfl,rfl,aA⟩
def iA3:=@Go.Proofs.Tryz.isAgg3
def Zbu:=@Go.Proofs.Tryz.sizeOf101
def Oc:=@Go.Proofs.Tryz.sizeOf130
def zT222:=@Go.Proofs.Tryz.sizeOf222
def Bz:=@Go.Proofs.Tryz.sizeOf23
def Dw:=@Go.Proofs.Tryz.sizeOf3
def Eo:=@Go.Proofs.Tryz.sizeOf87
def Zqz:=@Go.Proofs.Tryz.sizeOf99
def Ze7:=@Go.Proofs.Tryz.underlying101
def Zmk:=@Go.Proofs.Tryz.underlying145
def Pj:=@Go.Proofs.Tryz.underlying186
def Zjk:=@Go.Proofs.Tryz.underlying245
def Zmj:=@Go.Proofs.Tryz.underlying246
def uT259:=@Go.Proofs.Tryz.underlying259
def Zmi:=@Go.Proofs.Tryz.underlying291
def uT3:=@Go.Proofs.Tryz.underlying3
def Ze6:=@Go.Proofs.Tryz.underlying31
def Fp:=@Go.Proofs.Tryz.underlying37
def Zjj:=@Go.Proofs.Tryz.underlying38
def uT5:=@Go.Proofs.Tryz.underlying5
def Zgp:=@Go.Proofs.Tryz.underlying87
def uT9:=@Go.Proofs.Tryz.underlying9
def Ykb:=@Go.Proofs.Tryz.underlying95
def Mm:=@Go.Proofs.Tryz.underlying96
def Ld:=@Go.Proofs.Tryz.underlying99
open Go.ChangeShapes Go.WideShapes Go.ChangeAt Go.RowKit Go.Joins Go.Deep
variable {P:Program} {W:World} {H:Type} {enc:TypeId×Value->H}
theorem Zcw{α:Type}[Inhabited α]{p:Nat->α->Prop} : ∀n,(∀i,i<n->∃x,p i x)->∃xs:List α,xs.length=n/\∀i x,xs[i]? = some x->p i x
 | 0,_=>⟨[],rfl,λi x h=>by simp at h⟩
 | n+1,h=>by
  obtain⟨xs,c,d⟩:=Zcw n λi hi=>h i O;obtain⟨x,e⟩:=h n O;refine⟨xs ++ [x],by simp [c],λi y a=>?_⟩;rcases aW i n with hi|hi
  .rw [eX O]at a;exact d i y a
  .rw [gM O,c]at a;rcases aX (i-n)with b|b
   .rw [b]at a;simp at a;subst a;rw [show i=n by omega];exact e
   .rw [cP O9]at a;cases a
theorem Zkf{r:Reach}{i:Nat}{e:TypeId}{a:Addr}{g c:Nat}(hs:P.underlying t=some (.slice e))(b:Value.okWide P W r i t (.slice (some a) g c)):a.spot=none/\a.block<W.heap.size:=by
 unfold Value.okWide at b;rw [hs]at b;simp only at b;unfold Cell.okWide at b;rw [hs]at b;simp only at b;unfold Cell.ok at b;rw [hs]at b;simp only at b;obtain⟨_,_,_,j,k,d,f,_⟩:=b;refine⟨j,?_⟩;unfold World.shape? at f;rcases aW a.block W.heap.size with h|h
 .exact h
 .rw [Array.getElem?_eq_none h]at f;simp at f
end Go.Sky
namespace Go.Sky
abbrev qT (z:SL×List (Int×SL)):Pc:=pp (Yz z.1) z.2
abbrev T0:SL×List (Int×SL):=((none,0,0),[])
abbrev intsT (zs:List (SL×List (Int×SL))):List (List Int):=zs.map λz=>ints z.2
set_option maxRecDepth 20000
def Lt{p:List Int}{c:Int}:(Yx p c).length<=p.length:=by unfold Yx;grind [Hj,List.length_map]
def Ig{y:Int}(h:y≠0):∀n:Nat,y^n≠0
 | 0=>O6
 | n+1=>by rw [eA];exact bD (Ig h n) h
def shm(q:List Int)(c:Int)(s i:Nat):List Int:=mk (s+i) λt=>if t<s then 0 else c*cf q (t-s)
def Yin(q:List Int)(c:Int)(s t:Nat):cf (shm q c s q.length) t=if s<=t/\t<s+q.length then c*cf q (t-s)else 0:=by unfold shm;rw [Ks];omega
section
variable {p q:List Int}
theorem Zj1(c:0<q.length)(b:q.length<=p.length):∀j,j<=p.length-q.length+1->∀t,p.length-j<=t->cf (Oa p q j) t=0
 | 0,_,t,d=>Yw ‹_›
 | j+1,e,t,d=>by
  rcases aW t _ with h|h
  .unfold Oa;rw [Zud (by exact h)];by_cases a:t=p.length-1-j
   .subst a;rw [show p.length-1-j-(p.length-1-j-(q.length-1))=q.length-1 by omega];omega
   .rw [Zj1 c b j O t O,cN,aJ O];rfl
  grind [Yw,Lx]
def RestInv(p q R:List Int)(j:Nat):Prop:=Tr R/\∀t,cf R t=cf (Oa p q j) t*cf q (q.length-1)^(p.length-q.length+1-j)
end
end Go.Sky
namespace Go.Sky
section
variable {P:Program} {N:Nat} {sc:Nat->Prop} {env env':Qi} {H H':Hp}
end
end Go.Sky
namespace Go.Sky
variable{P:Program}{sc M:Nat->Prop}{ops:Array Oper}{rest:List (Nat×Nat)}
def rterm(a b:Int):Nat->List Int
 | 0=>[1]
 | i+1=>Qx (rterm a b i) (tzl [a,b])
def rsum(p:List Int)(a b d:Int):Nat->List Int
 | 0=>[]
 | i+1=>Zcf (rsum p a b d i) (Yx (rterm a b i) (cf p i*d^(p.length-1-i)))
def hs(f:Nat->PS):Nat->PS
 | 0=>0
 | n+1=>hs f n+f n
theorem Yeu(p:List Int):ps (tzl p)=ps p:=PS.ext' λi=>Ha p i
abbrev RW:=List (Bool×ByteArray)
abbrev qR (z:SL×RW):Pc:=Yn 2 Yho (Yz z.1) z.2
abbrev qZ (z:SL×List Int):Pc:=Yn 2 wv (Yz z.1) z.2
abbrev R0:SL×RW:=((none,0,0),[])
def short1(r:RW):Bool:=(decide (r.length<=14) || decide (r.length=26)) && r.all λc=>decide (c.2.size<=16)
def shortb(a:List RW):Bool:=a.all short1
def Ad  {N:Nat}   {env:Qi} {H:Hp}  {F:Qi->Hp->Prop}  {i:Nat} {o:Oper} {G:Type} {φ:G->Prop} {a:G->Qi} {d:G->Hp} {j e:Nat} {b:Bool} (m:ops[i]? = some o) (k:o.guard=some (j,b)) (l:(ops[j]?).bind (·.dst)=some e) (f:lk env e=some (.bool b)) (c:Nat.blt e N=true) (n:T P N sc M o env H φ a d)
  (h:∀g,φ g->LD P N sc M ops F rest (a g) (d g)) :
  LD P N sc M ops F ((i,1)::rest) env H:=r1g n m k l f c h
end Go.Sky

