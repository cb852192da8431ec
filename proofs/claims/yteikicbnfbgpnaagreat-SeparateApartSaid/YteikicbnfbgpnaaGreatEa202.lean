/- Rules, arithmetic and contracts: part 3. No conditions but those that each theorem names. -/
import Derived.Test.YteikicbnfbgpnaaGreatEa201
import Derived.Test.YteikicbnfbgpnaaGreatProg
import Derived.Test.YteikicbnfbgpnaaGreatRows
import Derived.WalkKit
import Derived.ProofKit
import Derived.OpenShut
import Derived.ShutString
import Derived.ChangeOld
import Derived.Deep.Slices
import Derived.Lib.SmallJoins
set_option linter.all false
namespace Go.Sky
variable{k i B t top:Nat}{f:Nat->Int}{q r c R:List Int}{a b:Int}
def acc(p q:List Int)(i t:Nat):Int:=Yl (λk=>if k<=t then cf p k*cf q (t-k)else 0) i
def Zb5(p q:List Int)(i j t:Nat):Int:=acc p q i t+if i<=t/\t<i+j then cf p i*cf q (t-i)else 0
theorem Yhk(p q:List Int)(i:Nat):Zb5 p q i 0=acc p q i:=nF λt=>by unfold Zb5;omega
theorem Yo8(p q:List Int)(i:Nat):Zb5 p q i q.length=acc p q (i+1):=nF λt=>by
 unfold Zb5 acc;rw [Yp];by_cases h:i<=t
 .rw [aM h];by_cases d:t<i+q.length
  .omega
  .rw [aK (λh=>d h.2),Yr (p:=q) O1,eA]
 omega
theorem Zm9{L:Nat}{g:Nat->Int}(d:k<L)(h:∀t,t<L->t≠k->f t=g t){x:Int}(j:x=g k):(mk L f).set k x=mk L g:=Iu (by simp [Xa]) λt e=>by simp_all [bK,Xa,Zn8,Ml,aM,aK]
theorem Yo7{p:List Int}{L j:Nat}(h:i+j<L):(mk L (Zb5 p q i j)).set (i+j) (Zb5 p q i j (i+j)+cf p i*cf q j)=mk L (Zb5 p q i (j+1)):=by
 refine Zm9 h (λt e d=>?_) ?_
 .unfold Zb5;omega
 .unfold Zb5;simp
theorem Zyg(p q:List Int)(t:Nat):acc p q p.length t=(ps p*ps q).c t:=by
 unfold acc;have d:Yl _ (max (t+1) p.length)=Yl (λk=>if k<=t then cf p k*cf q (t-k)else 0) p.length:=
  Zir O1 λk d _=>by simp_all [Yr,cK]
 have e:Yl (λk=>if k<=t then cf p k*cf q (t-k)else 0) (max (t+1) p.length)=Yl _ (t+1):=
  Zir O1 λk d _=>O1
 rw [<-d,e];exact Xr λk g=>by rw [aM O1];rfl
theorem Zrj(L:Nat):List.replicate L 0=mk L λ_=>0:=by rw [Ai L λ_=>0];rfl
theorem Yk0(p q:List Int):tzl (mk (p.length+q.length-1) (acc p q p.length))=Qx p q:=by unfold Qx;grind [Ba,Zyg]
theorem Yt9{p:List Int}{A j:Nat}(d:Sz A p)(e:Sz B q)(hi:i<31):bl (Zb5 p q i j t).natAbs<=A+B+5:=by
 have h:Zb5 p q i j t=Yl (λk=>if k<i then(if k<=t then cf p k*cf q (t-k)else 0)else if i<=t/\t<i+j then cf p i*cf q (t-i)else 0) (i+1):=by rw [Yp];unfold Zb5 acc;simp_all [Xr,aM]
 rw [h];have l:∀a b,bl (cf p a*cf q b).natAbs<=A+B:=λa b=>by have:=Zy (cf p a) (cf q b);have:=d a;have:=e b;omega
 refine Zlu (λk g=>?_) O1;grind [Ip]
theorem bl_acc{p:List Int}{A:Nat}(d:Sz A p)(e:Sz B q)(hi:i<=31):bl (acc p q i t).natAbs<=A+B+5:=by
 refine Zlu (λk g=>?_) hi;split
 .have:=Zy (cf p k) (cf q (t-k));have:=d k;have:=e (t-k);omega
 grind [Ip]
def Zar(p q:List Int):Prop:=p≠[]/\q≠[]/\(24<p.length+q.length-2\/65536<Qc p+Qc q+5)
instance (p q:List Int):Decidable (Zar p q):=by unfold Zar;infer_instance
theorem Zey{L:Nat}(h:i<L):(mk L f).getD i 0=f i:=by have:=Ml L f i;rw [aM h]at this;exact this
def Ys3(p q:List Int):Bool:=decide (q≠[]) && decide (p.length<q.length)
def Bz(p q:List Int):Int:=if q.length=0 then 3 else if p.length<q.length then 0 else if 65536<Qc p+(p.length-q.length+1)*(Qc q+1)then 7 else 0
def Zgw(q r:List Int)(top:Nat):List Int:=
 mk r.length λt=>cf r t*cf q (q.length-1)-if top-(q.length-1)<=t/\t<top-(q.length-1)+q.length then cf r top*cf q (t-(top-(q.length-1)))else 0
def Pq(p q:List Int):Nat->List Int
 | 0=>p
 | j+1=>Zgw q (Pq p q j) (p.length-1-j)
theorem Zhn(q r:List Int)(top:Nat):(Zgw q r top).length=r.length:=Xa _ _
theorem Ob(p q:List Int):∀j,(Pq p q j).length=p.length
 | 0=>rfl
 | j+1=>by unfold Pq;rw [Zhn,Ob p q j]
def Qu(p q:List Int):List Int:=if p.length<q.length then p else tzl (Pq p q (p.length-q.length+1))
theorem Zh8(d:t<r.length):cf (Zgw q r top) t=cf r t*cf q (q.length-1)-if top-(q.length-1)<=t/\t<top-(q.length-1)+q.length then cf r top*cf q (t-(top-(q.length-1)))else 0:=by unfold Zgw;rw [Ml,aM d]
theorem Yez{c d:Int}{A:Nat}(e:bl a.natAbs<=A)(g:bl b.natAbs<=B)(h:bl c.natAbs<=A)(j:bl d.natAbs<=B):bl (a*b-c*d).natAbs<=A+(B+1):=by grind [Zy,Cn]
theorem Yia{A:Nat}(e:Sz A r)(d:Sz B q):Sz (A+(B+1)) (Zgw q r top):=by
 refine Bm λt g=>?_;split
 .exact Yez (e t) (d _) (e _) (d _)
 .rw [fP];have:=Zy (cf r t) (cf q (q.length-1));have:=e t;have:=d (q.length-1);omega
theorem Ae(p q:List Int):∀j,Sz (Qc p+j*(Qc q+1)) (Pq p q j)
 | 0=>by rw [gU];exact Pd p
 | j+1=>by rw [dG,<-iX];exact Yia (Ae p q j) (Pd q)
def dq(q r:List Int)(k:Nat):Int:=cf r (k+q.length-1)/cf q (q.length-1)
def Zhx(q r:List Int)(k:Nat):List Int:=mk r.length λt=>cf r t-if k<=t/\t<k+q.length then dq q r k*cf q (t-k)else 0
def Xu(p q:List Int):Nat->List Int
 | 0=>p
 | j+1=>Zhx q (Xu p q j) (p.length-q.length-j)
theorem Fd(p q:List Int):∀j,(Xu p q j).length=p.length
 | 0=>rfl
 | j+1=>by unfold Xu Zhx;rw [Xa,Fd p q j]
def Zxp(p q:List Int)(k:Nat):Int:=dq q (Xu p q (p.length-q.length-k)) k
def Ms(p q:List Int)(k:Nat):Prop:=cf (Xu p q (p.length-q.length-k)) (k+q.length-1)%cf q (q.length-1)=0
def Yks(p q:List Int):List Int:=tzl (mk (p.length-q.length+1) (Zxp p q))
def pdivs(p q:List Int):Prop:=p=[]\/(q.length<=p.length/\(∀k,k<=p.length-q.length->Ms p q k)/\∀i,cf (Xu p q (p.length-q.length+1)) i=0)
theorem Yid{A:Nat}(d:Sz A r)(g:Sz B q)(e:cf r (k+q.length-1)%cf q (q.length-1)=0):Sz (A+(B+1)) (Zhx q r k):=by
 refine Bm λt m=>?_;split
 .have h:bl (dq q r k).natAbs<=A:=Hi (fK e) (d _);have j:=Zy (dq q r k) (cf q (t-k));have l:=Cn (cf r t) (dq q r k*cf q (t-k));have:=d t;have:=g (t-k);omega
 .rw [fP];have:=d t;omega
theorem Zbl(p q:List Int):∀j,j<=p.length-q.length+1->(∀k,p.length-q.length<k+j->k<=p.length-q.length->Ms p q k)->Sz (Qc p+j*(Qc q+1)) (Xu p q j)
 | 0,_,_=>by rw [gU];exact Pd p
 | j+1,g,h=>by rw [dG,<-iX];refine Yid (Zbl p q j O1 λk e d=>h k O1 d) (Pd q) ?_;have:=h (p.length-q.length-j) O1 O1;unfold Ms at this;rw [show p.length-q.length-(p.length-q.length-j)=j by omega]at this;exact this
theorem Ync{x y:Bool×ByteArray}(h:eqW x.1 x.2 y.1 y.2=true):x=y:=by grind [Zta,Prod.ext]
def Zbx(a:Bool)(s:ByteArray):eqW a s a s=true:=Zta.2 ⟨rfl,rfl⟩
theorem Yhl(p q:List Int)(i j:Nat):Zb5 p q i (j+1) (i+j)=Zb5 p q i j (i+j)+cf p i*cf q j:=by unfold Zb5;simp
theorem Zbr{p:List Int}(h:p.length=0\/q.length=0):Qx p q=[]:=by
 refine(Iy _).2 λi=>?_;rw [Ml];split
 .refine Gl λk _=>?_;rcases h with h|h
  all_goals simp_all [Md,Yr,cK,eA]
 rfl
def Zm7(R:List Int)(l:Int)(i:Nat):List Int:=mk R.length λt=>if t<i then cf R t*l else cf R t
def Zqv(q R:List Int)(l c:Int)(s i:Nat):List Int:=mk R.length λt=>cf R t*l-if s<=t/\t<s+i then c*cf q (t-s)else 0
def Zwq(R:List Int)(l:Int)(i:Nat):(Zm7 R l i).length=R.length:=Xa _ _
def Zwp(q R:List Int)(l c:Int)(s i:Nat):(Zqv q R l c s i).length=R.length:=Xa _ _
theorem Ygm(R:List Int)(l:Int):Zm7 R l 0=R:=by unfold Zm7;simp [Eq.trans,Ba,Zcq,aK]
theorem Ylv{l:Int}(h:i<R.length):(Zm7 R l i).getD i 0=cf R i:=by unfold Zm7;rw [Zey h,aK O6]
theorem Ylu{l:Int}(h:i<R.length):(Zm7 R l i).set i (cf R i*l)=Zm7 R l (i+1):=by refine Zm9 h (λt e d=>?_) O1;omega
theorem Yfp(q R:List Int)(l c:Int)(s:Nat):Zm7 R l R.length=Zqv q R l c s 0:=by unfold Zm7 Zqv;simp_all [Ba,aM,aK,fP]
theorem Yih{l c:Int}{s:Nat}(h:s+i<R.length):(Zqv q R l c s i).getD (s+i) 0=cf R (s+i)*l:=by unfold Zqv;rw [Zey h,aK O6,fP]
theorem Yig{l c:Int}{s:Nat}(h:s+i<R.length):(Zqv q R l c s i).set (s+i) (cf R (s+i)*l-c*cf q i)=Zqv q R l c s (i+1):=by refine Zm9 h (λt e d=>?_) O6;omega
theorem rest_b{p:List Int}{j:Nat}(g:Qc p+(p.length-q.length+1)*(Qc q+1)<=65536)(h:j<p.length-q.length+1) :
  (∀t,bl (cf (Pq p q j) t).natAbs<=65536)/\(∀t i,bl (cf (Pq p q j) t*cf q i).natAbs<=65536)/\(∀t i t2 i2,bl (cf (Pq p q j) t*cf q i-cf (Pq p q j) t2*cf q i2).natAbs<=65536):=by
 have d:=Ae p q j;have e:j*(Qc q+1)+(Qc q+1)<=(p.length-q.length+1)*(Qc q+1):=by rw [<-dG];exact aJ _ O1
 refine⟨λt=>by have:=d t;omega,λt i=>?_,λt i t2 i2=>?_⟩
 .have:=d t;have:=Pd q i;grind [Zy]
 .have:=Yez (d t) (Pd q i) (d t2) (Pd q i2);omega
def Zut{p:List Int}(d:Qc p+(p.length-q.length+1)*(Qc q+1)<=65536):Sz 65536 (Pq p q (p.length-q.length+1)):=(Ae p q _).mono d
theorem Zcv{p:List Int}(h:Bz p q=0):q.length≠0/\(q.length<=p.length->Qc p+(p.length-q.length+1)*(Qc q+1)<=65536):=by unfold Bz at h;omega
theorem Zh2{p:List Int}(h:q.length≠0):Ys3 p q=decide (p.length<q.length):=by unfold Ys3;grind
def Zte(q R:List Int)(c:Int)(k i:Nat):List Int:=mk R.length λt=>cf R t-if k<=t/\t<k+i then c*cf q (t-k)else 0
def Zwr(q R:List Int)(c:Int)(k i:Nat):(Zte q R c k i).length=R.length:=Xa _ _
theorem Yg9(q R:List Int)(c:Int)(k:Nat):R=Zte q R c k 0:=by unfold Zte;simp [Eq.trans,Zcq,Ba,aK,fP]
theorem Yng{c:Int}(h:k+i<R.length):(Zte q R c k i).getD (k+i) 0=cf R (k+i):=by unfold Zte;rw [Zey h,aK O6,fP]
theorem Ynf{c:Int}(h:k+i<R.length):(Zte q R c k i).set (k+i) (cf R (k+i)-c*cf q i)=Zte q R c k (i+1):=by refine Zm9 h (λt e d=>?_) O6;omega
def Zh1(p q:List Int)(j:Nat):List Int:=mk (p.length-q.length+1) λt=>if p.length-q.length<t+j then Zxp p q t else 0
theorem Zat(p q:List Int)(j:Nat):(Zh1 p q j).length=p.length-q.length+1:=Xa _ _
theorem Zqb(p q:List Int):List.replicate (p.length-q.length+1) 0=Zh1 p q 0:=by rw [Zrj];exact Ba λi hi=>O1
theorem Zxg{p:List Int}{j:Nat}(e:j<p.length-q.length+1):(Zh1 p q j).set (p.length-q.length-j) (dq q (Xu p q j) (p.length-q.length-j))=Zh1 p q (j+1):=by
 refine Zm9 O1 (λt g d=>?_) ?_
 .omega
 .unfold Zxp;grind
theorem Zdv(p q:List Int):tzl (Zh1 p q (p.length-q.length+1))=Yks p q:=by unfold Zh1 Yks;grind
def pdv(p q:List Int):Prop:=p=[]\/(q.length<=p.length/\(∀k,k<=p.length-q.length->Ms p q k)/\tzl (Xu p q (p.length-q.length+1))=[])
instance (p q:List Int) (k:Nat):Decidable (Ms p q k):=by unfold Ms;infer_instance
instance (p q:List Int):Decidable (pdv p q):=by unfold pdv;infer_instance
theorem div_b{p:List Int}{j:Nat}(n:Qc p+(p.length-q.length+1)*(Qc q+1)<=65536)(o:j<p.length-q.length+1)(h:∀k,p.length-q.length<k+j->k<=p.length-q.length->Ms p q k) :
  (∀t,bl (cf (Xu p q j) t).natAbs<=65536)/\(Ms p q (p.length-q.length-j)->bl (dq q (Xu p q j) (p.length-q.length-j)).natAbs<=65536/\(∀i,bl (dq q (Xu p q j) (p.length-q.length-j)*cf q i).natAbs<=65536)/\
   ∀t i,bl (cf (Xu p q j) t-dq q (Xu p q j) (p.length-q.length-j)*cf q i).natAbs<=65536):=by
 have d:=Zbl p q j O1 h;have l:j*(Qc q+1)+(Qc q+1)<=(p.length-q.length+1)*(Qc q+1):=by rw [<-dG];exact aJ _ O1
 refine⟨λt=>by have:=d t;omega,λe=>?_⟩;unfold Ms at e;rw [show p.length-q.length-(p.length-q.length-j)=j by omega]at e;have m:bl (dq q _ _).natAbs<=Qc p+j*(Qc q+1):=Hi (fK e) (d _);have g:∀i,bl (dq q (Xu p q j) (p.length-q.length-j)*cf q i).natAbs<=Qc p+j*(Qc q+1)+Qc q:=λi=>by have:=Zy (dq q (Xu p q j) (p.length-q.length-j)) (cf q i);have:=Pd q i;omega
 refine⟨O1,λi=>O5,λt i=>?_⟩;have:=Cn (cf (Xu p q j) t) (dq q (Xu p q j) (p.length-q.length-j)*cf q i);have:=g i;have:=d t;omega
theorem Ybk{p:List Int}(g:Qc p+(p.length-q.length+1)*(Qc q+1)<=65536)(e:∀k,k<=p.length-q.length->Ms p q k){j:Nat}:Sz 65536 (Zh1 p q j):=by
 refine Bm λt l=>?_;split
 .have d:=(div_b g (j:=p.length-q.length-t) O1 (λk _ h=>e k h)).2;rw [show p.length-q.length-(p.length-q.length-t)=t by omega]at d;exact(d (e t O1)).1
 decide
def Yie{p:List Int}(d:Qc p+(p.length-q.length+1)*(Qc q+1)<=65536)(g:∀k,k<=p.length-q.length->Ms p q k):Sz 65536 (Xu p q (p.length-q.length+1)):=
 (Zbl p q _ (aF _) λk _ e=>g k e).mono d
def Kl(p:List Int)(a b d:Int):Nat->List Int
 | 0=>[cf p (p.length-1)]
 | j+1=>mk ((Kl p a b d j).length+1) λt=>cf (Kl p a b d j) t*a+(if t=0 then cf p (p.length-2-j)*d^(j+1)else cf (Kl p a b d j) (t-1)*b)
def Cf(p:List Int)(a b d:Int):Kl p a b d 0=[cf p (p.length-1)]:=rfl
def Zqh(p:List Int)(a b d:Int)(j:Nat):Kl p a b d (j+1)=mk ((Kl p a b d j).length+1) (λt=>cf (Kl p a b d j) t*a+(if t=0 then cf p (p.length-2-j)*d^(j+1)else cf (Kl p a b d j) (t-1)*b)):=rfl
theorem Zdq(p:List Int)(a b d:Int):∀j,(Kl p a b d j).length=j+1
 | 0=>rfl
 | j+1=>by unfold Kl;rw [Xa,Zdq p a b d j]
def Lv(p:List Int)(a b d:Int):List Int:=if p.length=0 then []else tzl (Kl p a b d (p.length-1))
def Zn0(p:List Int)(a b d:Int):Prop:=p≠[]/\65536<Qc p+(p.length-1)*(Qc [a,b,d]+1)+8
instance (p:List Int) (a b d:Int):Decidable (Zn0 p a b d):=by unfold Zn0;infer_instance
def Kg(p q:List Int):List Int:=if p=[]then []else Yks p q
def Zmv{p:List Int}(h:p≠[]):Kg p q=Yks p q:=aK h
theorem Zh3{p:List Int}{j:Nat}(d:j<=p.length-q.length):Ms p q (p.length-q.length-j)↔cf (Xu p q j) (p.length-q.length-j+q.length-1)%cf q (q.length-1)=0:=by unfold Ms;grind
def Zx5{x y:Int}(e:y≠0)(d:bl y.natAbs<=65536):Zb2 (x%y)=x%y:=Hj (aB (Zt4 x y e) d)
def cnx(c:List Int)(a b:Int)(i:Nat):List Int:=mk (c.length+1) λt=>if t<i then cf c t*a+(if t=0 then 0 else cf c (t-1)*b)else if t=i/\0<i then cf c (t-1)*b else 0
theorem Fu(c:List Int)(a b:Int)(i:Nat):(cnx c a b i).length=c.length+1:=Xa _ _
theorem Yob(c:List Int)(a b:Int):List.replicate (c.length+1) 0=cnx c a b 0:=by rw [Zrj];unfold cnx;simp
theorem Yei(h:i<c.length):(cnx c a b i).getD i 0=if i=0 then 0 else cf c (i-1)*b:=by unfold cnx;rw [Zey O1];omega
theorem Ytg(h:i<c.length):((cnx c a b i).set i ((cnx c a b i).getD i 0+cf c i*a)).set (i+1) (cf c i*b)=cnx c a b (i+1):=Iu (by simp [Fu]) λt d=>by rw [Zn8 _ _ _ _ (by grind [List.length_set,Fu]),Zn8 _ _ _ _ (by grind [Fu]),Yei h];unfold cnx;rw [Ml,Ml];grind
theorem Zx2(h:0<c.length):(cnx c a b c.length).getD 0 0=cf c 0*a:=by unfold cnx;rw [Zey O6,aM h,aM rfl,gX]
theorem Yth{w:Int}(h:0<c.length):(cnx c a b c.length).set 0 ((cnx c a b c.length).getD 0 0+w)=mk (c.length+1) λt=>cf c t*a+(if t=0 then w else cf c (t-1)*b):=Iu (by simp [Fu,Xa]) λt e=>by
 rw [bK,Fu]at e;rw [Zn8 _ _ _ _ (by grind [Fu]),Zx2 h,Ml,if_pos e];unfold cnx;rw [Ml,aM e];by_cases d:t=0
 .grind
 .rw [aK d,aK d,aK d];by_cases g:t<c.length
  .omega
  .rw [aM (show t=c.length/\0<c.length by omega),Yr O1];simp
theorem Zky{p:List Int}{x y z:Int}{A m:Nat}(d:Sz A p)(e:bl x.natAbs<=m)(o:bl y.natAbs<=m)(g:bl z.natAbs<=m):∀j,Sz (A+j*(m+1)) (Kl p x y z j)
 | 0=>Sz.of_mem λw n=>by rw [bN.1 n];have:=d (p.length-1);omega
 | j+1=>by
  have h:=Zky d e o g j;refine Bm λt D=>?_;have s:=Zy (cf (Kl p x y z j) t) x;have u:=h t;split
  .have l:=Zia 0 (j+1) (d (p.length-2-j)) e g;grind [Lp]
  .have l:=Zy (cf (Kl p x y z j) (t-1)) y;have v:=h (t-1);grind [Lp]
section
variable {p:List Int} {x y z:Int} (hF:Qc p+(p.length-1)*(Qc [x,y,z]+1)+8<=65536) {j:Nat} (hj:j<p.length-1)
include hF hj
theorem cp_all:bl (z^j).natAbs<=65536/\bl (z^(j+1)).natAbs<=65536/\(∀t,bl (cf (Kl p x y z j) t).natAbs<=65536)/\(∀t,bl (cf (Kl p x y z j) t*x).natAbs<=65536)/\(∀t,bl (cf (Kl p x y z j) t*y).natAbs<=65536)/\
  (∀t,bl ((if t=0 then 0 else cf (Kl p x y z j) (t-1)*y)).natAbs<=65536)/\(∀t,bl ((if t=0 then 0 else cf (Kl p x y z j) (t-1)*y)+cf (Kl p x y z j) t*x).natAbs<=65536)/\
  bl (cf p (p.length-2-j)*z^(j+1)).natAbs<=65536/\bl (cf (Kl p x y z j) 0*x+cf p (p.length-2-j)*z^(j+1)).natAbs<=65536:=by
 have o:bl x.natAbs<=Qc [x,y,z]:=by simp only [Qc];omega
 have w:bl y.natAbs<=Qc [x,y,z]:=by simp only [Qc];omega
 have d:bl z.natAbs<=Qc [x,y,z]:=by simp only [Qc];omega
 have g:=Zky (Pd p) o w d j;generalize Qc [x,y,z]=m at *;have e:j*(m+1)+(m+1)<=(p.length-1)*(m+1):=by rw [<-dG];exact aJ _ O1
 have v:j*m<=j*(m+1):=bC _ O6;have u:=Zia 0 (j+1) (Pd p (p.length-2-j)) o d;rw [dC,gQ,cH,dG]at u;have n:=Fl z d (j+1) O6;rw [dG]at n;have l:bl (z^j).natAbs<=65536:=by
  rcases aU j with h|h
  .rw [h,dC];decide
  .have:=Fl z d j h;omega
 have D:∀t,bl (cf (Kl p x y z j) t*x).natAbs<=Qc p+j*(m+1)+m:=λt=>by have:=Zy (cf (Kl p x y z j) t) x;have:=g t;omega
 have F:∀t,bl (cf (Kl p x y z j) t*y).natAbs<=Qc p+j*(m+1)+m:=λt=>by have:=Zy (cf (Kl p x y z j) t) y;have:=g t;omega
 have s:∀t,bl ((if t=0 then 0 else cf (Kl p x y z j) (t-1)*y)).natAbs<=Qc p+j*(m+1)+m:=λt=>by grind [Ip]
 refine⟨l,O1,λt=>by have:=g t;omega,λt=>O5,λt=>O5,λt=>by have:=s t;omega,λt=>?_,O1,?_⟩
 all_goals grind [Lp]
end
theorem Yte{p:List Int}{x y z:Int}(hF:Qc p+(p.length-1)*(Qc [x,y,z]+1)+8<=65536):Sz 65536 (Kl p x y z (p.length-1)):=by
 have d:bl x.natAbs<=Qc [x,y,z]:=by simp only [Qc];omega
 have e:bl y.natAbs<=Qc [x,y,z]:=by simp only [Qc];omega
 have g:bl z.natAbs<=Qc [x,y,z]:=by simp only [Qc];omega
 exact(Zky (Pd p) d e g _).mono O1
theorem Zki(p q:List Int):(Qu p q).length<=p.length:=by
 unfold Qu;split
 .omega
 grind [Ns,Ob]
theorem Zbg{p:List Int}(d:Vp p)(e:Bz p q=0):Vp (Qu p q):=by
 have g:=Zki p q;refine⟨?_,?_,by have:=d.len;omega⟩
 .unfold Qu;split
  .exact d.sz
  .exact(Zut ((Zcv e).2 O1)).tzl
 .unfold Qu;split
  .exact d.tr
  grind [Qn]
def Zp6(p q:List Int):Prop:=p.length≠0/\q.length≠0/\65536<(max p.length q.length+2)*(max p.length q.length+2)*(max (Qc p) (Qc q)+8)
instance (p q:List Int):Decidable (Zp6 p q):=by unfold Zp6;infer_instance
def gA(p q:List Int):List Int:=if p.length<q.length then Yb q else Yb p
def gB(p q:List Int):List Int:=if p.length<q.length then Yb p else Yb q
def eok:Nat->List Int->List Int->Prop
 | 0,_,b=>b=[]
 | f+1,a,b=>b=[]\/(Bz a b=0/\eok f b (Yb (Qu a b)))
def eu:Nat->List Int->List Int->List Int
 | 0,a,_=>a
 | f+1,a,b=>if b=[]then a else eu f b (Yb (Qu a b))
theorem Zxc{f:Nat}{a b:List Int}(h:eok f a b)(d:b≠[]):∃g,f=g+1/\Bz a b=0/\eok g b (Yb (Qu a b))/\eu f a b=eu g b (Yb (Qu a b)):=by
 cases f with
 | zero=>exact absurd h d
 | succ g=>
  rcases h with h|h
  .grind
  .exact⟨g,rfl,h.1,h.2,by show(if b=[]then a else _)=_;grind⟩
theorem Bj(f:Nat)(a:List Int):eu f a []=a:=by cases f<;>rfl
def Kd(g:List Int):List Int:=if g.length≠0/\cf g (g.length-1)<0 then Zt g (-1)else g
def Nq(f:Nat)(p q:List Int):List Int:=Kd (eu f (gA p q) (gB p q))
theorem vp_gA{p:List Int}(d:Vp p)(e:Vp q):Vp (gA p q):=by unfold gA;all_goals grind [Kf]
theorem vp_gB{p:List Int}(d:Vp p)(e:Vp q):Vp (gB p q):=by unfold gB;all_goals grind [Kf]
theorem Zcy{p:List Int}(h:Sz 65536 p)(i:Nat):bl (cf p i * -1).natAbs<=65536:=by rw [lT,fH,dL];exact h i
theorem sign_neg_iff(z:Int):z.sign<0↔z<0:=by simp
end Go.Sky
namespace Go.Sky
variable{b k c:Nat}{xs ys:List Nat}{p:Nat->Prop}
theorem Zkx{l:List Int}(h:∀x∈l,Nc x):Sz 65536 l:=Sz.of_mem λx a=>by obtain⟨d,e⟩:=h x a;have:bl x.natAbs<=64:=(Qs 64 _).2 O1;omega
open Go.RowKit Below
set_option maxRecDepth 20000
def Pv:2<=1000000000:=O1
def Hr:0<1000000000:=O1
abbrev Pn (v:Value) (x:Nat):Pc:=Yx 1 Ij v (dg 1000000000 x)
theorem Hf(x:Nat):(dg 1000000000 x).length<=bl x:=by rw [Xw Pv];grind [Nat.lt_of_lt_of_le,Ac,Nat.pow_le_pow_left]
theorem Ybf(a:2<=b){o:List Nat}(e:∀d∈o,d<b){x:Nat}(f:Yt b o=x)(h:o.length=0\/b^(o.length-1)<=x):o=dg b x:=by
 rw [<-f,Ih a o e];have g:o.length<=(tz o).length:=by
  rw [<-Ih a o e,f];rcases h with h|h
  .omega
  .have:=(La a _ x).2 h;omega
 grind [Zec,List.take_of_length_le]
theorem Ygf{o:List Nat}(a:o.length=k)(h:Yt b o+c*b^k=Yt b (xs.take k)+Yt b (ys.take k)) :
  Yt b (o ++ [(c+xs.getD k 0+ys.getD k 0)%b])+(c+xs.getD k 0+ys.getD k 0)/b*b^(k+1)=Yt b (xs.take (k+1))+Yt b (ys.take (k+1)):=by
 rw [Mm,Qw,Qw];have e:=cP (c+xs.getD k 0+ys.getD k 0) b;simp only [Yt,cJ];grind
def d9s(a b c:Nat):Nat:=if a<b+c then a+1000000000-(b+c)else a-(b+c)
theorem Yd9{a:Nat}(d:a<1000000000)(e:b<1000000000)(f:c<=1):d9s a b c<1000000000/\d9s a b c+(b+c)=a+brw a b c*1000000000:=by unfold d9s brw;split<;>omega
theorem Zzq{o:List Nat}(a:c<=1)(d:xs.getD k 0<1000000000)(f:ys.getD k 0<1000000000)(g:o.length=k)(h:Yt 1000000000 o+Yt 1000000000 (ys.take k)=Yt 1000000000 (xs.take k)+c*1000000000^k) :
  Yt 1000000000 (o ++ [d9s (xs.getD k 0) (ys.getD k 0) c])+Yt 1000000000 (ys.take (k+1))=Yt 1000000000 (xs.take (k+1))+brw (xs.getD k 0) (ys.getD k 0) c*1000000000^(k+1):=by
 rw [Mm,Qw,Qw];have e:=(Yd9 d f a).2;simp only [Yt,cJ];grind
theorem Zoo{o:List Nat}(h:∀d∈o,p d){x:Nat}(e:p x):∀d∈o ++ [x],p d:=λd a=>by grind
theorem Zbq{x:Nat}(a:2<=b)(h:k<(dg b x).length):b^k<=x:=(La a k x).1 h
theorem Fx{x:Nat}(a:2<=b)(h:(dg b x).length<=k):Yt b ((dg b x).take k)=x:=by grind [Mu,Lr]
theorem Zuq{a o:Nat}(d:a<1000000000)(e:b<1000000000)(g:o<1000000000)(f:c<1000000000):(o+c+a*b)/1000000000<1000000000/\o+c+a*b<=9223372036854775807:=by have h:a*b<=999999999*999999999:=aP O1 O1;omega
theorem Zyp{o:List Nat}{i V:Nat}(h:Yt 1000000000 o+c*1000000000^(i+k)=V+xs.getD i 0*1000000000^i*Yt 1000000000 (ys.take k))(a:i+k<o.length) :
  Yt 1000000000 (o.set (i+k) ((o.getD (i+k) 0+c+xs.getD i 0*ys.getD k 0)%1000000000))+(o.getD (i+k) 0+c+xs.getD i 0*ys.getD k 0)/1000000000*1000000000^(i+(k+1))=V+xs.getD i 0*1000000000^i*Yt 1000000000 (ys.take (k+1)):=by
 have d:=Zkv 1000000000 o _ _ ((o.getD (i+k) 0+c+xs.getD i 0*ys.getD k 0)%1000000000) a a;rw [cE O6]at d;grind [Qw,Nat.div_add_mod,Nat.pow_succ,Nat.pow_add,Nat.add_mul]
def Zkr(x y:Nat):Int:=if x<y then -1 else if y<x then 1 else 0
section
variable {P:Program} {N:Nat} {sc:Nat->Prop} {env env':Pw} {H H':Hp} {Q Q':Exit->Act->World->Prop} {M:Nat->Prop}
variable {o:Oper} {t t':TypeId} {x y:Operand} {m n:Nat}
theorem Zhh(a:o.op= .binOp .add t x y t')(d:ev env x=some (.int .i64 (m:Int)))(e:ev env y=some (.int .i64 (n:Int)))(h:m+n<=9223372036854775807):Lk P N sc o env H (.int .i64 ((m+n:Nat):Int)):=by have:=Ynw (P:=P) (N:=N) (sc:=sc) (H:=H) a d e ;grind
theorem n_mul(a:o.op= .binOp .mul t x y t')(d:ev env x=some (.int .i64 (m:Int)))(e:ev env y=some (.int .i64 (n:Int)))(h:m*n<=9223372036854775807):Lk P N sc o env H (.int .i64 ((m*n:Nat):Int)):=by have:=d_mul (P:=P) (N:=N) (sc:=sc) (H:=H) a d e (by exact⟨O1,O1⟩);grind
theorem Zm5(d:o.op= .binOp .quo t x y t')(e:ev env x=some (.int .i64 (m:Int)))(f:ev env y=some (.int .i64 (n:Int)))(h:m<=9223372036854775807)(a:0<n):Lk P N sc o env H (.int .i64 ((m/n:Nat):Int)):=by grind [Zff,Int.natCast_ediv]
theorem Zwe(d:o.op= .binOp .rem t x y t')(e:ev env x=some (.int .i64 (m:Int)))(f:ev env y=some (.int .i64 (n:Int)))(a:0<n):Lk P N sc o env H (.int .i64 ((m%n:Nat):Int)):=by grind [Zny,Int.natCast_emod]
end
end Go.Sky
namespace Go.Sky
variable{b a r k:Nat}{q:List Nat}
def Zdw{l:List Nat}{i:Nat}(h:l.length<=i):l.getD i 0=0:=O5
theorem Zxk{x y:Nat}(d:2<=b)(h:x<=y):(dg b x).length<=(dg b y).length:=by
 rcases aW (dg b y).length (dg b x).length with c|c
 .have:=Zbz d c;omega
 omega
theorem Ynm{n:Nat}(d:2<=b)(h:n<b)(c:n≠0):dg b n=[n]:=by grind [Zcu,Nat.mod_eq_of_lt,Nat.div_eq_of_lt,Gu]
theorem Ypw(c:2<=b)(f:a<b):tz (a::dg b r)=dg b (r*b+a):=by
 have h:∀d∈a::dg b r,d<b:=λd e=>by
  rcases aX.1 e with rfl|e
  .omega
  .exact Me c r d e
 rw [<-Ih c _ h];simp only [Yt,Lr c];grind
theorem Zx4 : Zkr a b<0↔a<b:=by unfold Zkr;split<;>(omega)<;>omega
theorem Yek : Zkr a b<=0↔a<=b:=by unfold Zkr;split<;>(omega)<;>omega
theorem Yel : 0<=Zkr a b↔b<=a:=by unfold Zkr;split<;>(omega)<;>omega
theorem Zzm{x:Nat}(c:0<k):x/1000000000^k*1000000000+x/1000000000^(k-1)%1000000000=x/1000000000^(k-1):=by
 have h:x/1000000000^k=x/1000000000^(k-1)/1000000000:=by simp_all [aQ,cJ]
 omega
theorem over_Q{y:Nat}(d:r<y)(c:a<1000000000):(r*1000000000+a)/y<1000000000:=by rw [bP O1];omega
theorem bl_m30{y m:Nat}(h:bl m<=30):bl (y*m)<=bl y+30:=by grind [Zof]
theorem Yt7{y:Nat}(g:r<y)(f:a<1000000000):bl (r*1000000000+a)<=bl y+30:=by
 have c:r*1000000000+a<y*1000000000:=by omega
 have d:=Pz (dH c);have e:=bl_m30 (y:=y) (m:=1000000000) ((Qs 30 _).2 O6);grind
theorem Zod (y:Nat)(n:Nat)(e:n<1000000000):bl (y*n)<=bl y+30:=by have c:=Zof y n;have d:bl n<=30:=(Qs 30 _).2 O1;omega
theorem Zhy{d:Nat}(c:0<k)(h:k<=q.length):Yt 1000000000 ((q.set (k-1) d).drop (k-1))=d+1000000000*Yt 1000000000 (q.drop k):=by rw [drop_set O1,show k-1+1=k by omega];rfl
theorem Yha(d:0<k)(h:k<=q.length)(c:q.getD (k-1) 0=0):Yt 1000000000 (q.drop (k-1))=1000000000*Yt 1000000000 (q.drop k):=by rw [Zdu 0 q _ O1,c,show k-1+1=k by omega];simp [Yt]
theorem Yh2{n:Nat}(c:2<=b)(h:n<b):tz [n]=dg b n:=by have:=Ih c [n] O5;simpa [Yt]using this.symm
theorem Zup{m:Nat}(h:m<9223372036854775809):tz [m%1000000000,m/1000000000%1000000000,m/1000000000/1000000000]=dg 1000000000 m:=by rw [<-Ih Pv _ O5];congr 1;simp only [Yt];omega
theorem sign9{x:Int}(h:(((dg 1000000000 x.natAbs).length:Nat):Int)=0):Value.int .i64 x.sign= .int .i64 0:=by have c:=(Om Pv x.natAbs).1 O1;grind
theorem Znh{x:Nat}(h:¬(((dg 1000000000 x).length:Nat):Int)=0):0<x:=by grind [Nat.eq_zero_or_pos,Gu]
theorem Yl0{s:Bool}{n:Nat}{z:Int}(c:n=z.natAbs)(hs:sg s z):(s && decide (0<n))=decide (z<0):=by
 cases s
 .have:=hs.2 rfl;grind
 .have:=hs.1 rfl;grind
theorem Zwu(n:Nat):decide ((0:Int)<(((dg 1000000000 n).length:Nat):Int))=decide (0<n):=by rw [bF];have:=Om Pv n;omega
def Yua{a b:Bool}(h:(a == b)=true):a=b:=O5
theorem Yp5{x y:Int}(c:y≠0):(x-x.tdiv y*y=x.tmod y):=by have:=iE x y;grind
def Zl7(x y:Int):x.natAbs/y.natAbs=(x.tdiv y).natAbs:=(lI x y).symm
theorem Yqk(x y:Int):sg (decide (x<0) != decide (y<0)) (x.tdiv y):=by
 have e:∀a b:Int,0<=a->0<=b->0<=a.tdiv b:=λa b i j=>Int.tdiv_nonneg i j;rcases gJ x 0 with h|h<;>rcases gJ y 0 with d|d
 .have c:=e (-x) (-y) O1 O1;rw [Int.neg_tdiv,Int.tdiv_neg]at c;simp only [sg,h,d,decide_true,bne_self_eq_false];grind
 .have c:=e (-x) y O1 d;rw [Int.neg_tdiv]at c;have:=O1;simp [sg,h,this];omega
 .have c:=e x (-y) h O1;rw [Int.tdiv_neg]at c;have:=O1;simp [sg,d,this];omega
 .have c:=e x y h d;have f:=O1;have g:=O1;simp [sg,f,g];omega
theorem Zl6(x:Int){y:Int}(c:y≠0):(x.tmod y).natAbs<y.natAbs:=by simp_all [Int.natAbs_tmod,bI]
theorem Yrd{x y:Int}(f:0<y)(h:x.tmod y<0):x/y=x.tdiv y-1/\x%y=x-(x.tdiv y-1)*y:=by have c:=Zl6 x (show y≠0 by omega);have d:=iE x y;have e:(x.tdiv y-1)*y=y*x.tdiv y-y:=O5;have:=Ze0 (x:=x) (y:=y) (q:=x.tdiv y-1) (r:=x-(x.tdiv y-1)*y) O1 O5 O1 O1;omega
theorem Yre{x y:Int}(f:y<0)(h:x.tmod y<0):x/y=x.tdiv y+1/\x%y=x-(x.tdiv y+1)*y:=by have c:=Zl6 x (show y≠0 by omega);have d:=iE x y;have e:(x.tdiv y+1)*y=y*x.tdiv y+y:=O5;have:=Ze0 (x:=x) (y:=y) (q:=x.tdiv y+1) (r:=x-(x.tdiv y+1)*y) O1 O5 O1 O1;omega
theorem Ykk{x y:Int}(c:y≠0)(h:¬x.tmod y<0):x/y=x.tdiv y/\x%y=x.tmod y:=by have d:=Zl6 x c;have e:=iE x y;exact Ze0 c O1 O1 O1
theorem Yt6(x y:Int):bl (x.tdiv y).natAbs<=bl x.natAbs:=by rw [lI];exact Pz (dS _ _)
theorem Yaz(x y:Int):bl (x.tdiv y*y).natAbs<=bl x.natAbs:=by rw [bT,lI];exact Pz (mD _ _)
section
variable {P:Program} {N:Nat} {sc:Nat->Prop} {env env':Pw} {H H':Hp} {Q Q':Exit->Act->World->Prop} {M:Nat->Prop}
variable {o:Oper} {t t':TypeId} {x y:Operand} {m n:Nat}
theorem Zzp(e:o.op= .binOp .quo t x y t')(g:ev env x=some (.int .i64 (-(m:Int))))(i:ev env y=some (.int .i64 (n:Int)))(h:m<=9223372036854775808)(d:1<n):Lk P N sc o env H (.int .i64 (-((m/n:Nat):Int))):=Eh e g i λw=>by
 have c:(-(m:Int)).tdiv (n)=-((m/n:Nat)):=O6;have j:=by have:=mB (show 2<=n from d) O6 (a:=m);omega
 generalize m/n=q at *;have f:Nc (-(q)):=⟨O1,O6⟩;simp [binOp,Op.intDiv,c,Zb8 f];omega
theorem Ylm(d:o.op= .binOp .rem t x y t')(e:ev env x=some (.int .i64 (-(m:Int))))(f:ev env y=some (.int .i64 (n:Int)))(g:0<n):Lk P N sc o env H (.int .i64 (-((m%n:Nat):Int))):=Eh d e f λw=>by
 have c:(-(m:Int)).tmod (n)=-((m%n:Nat)):=by rw [Int.neg_tmod,Int.ofNat_tmod]
 simp [binOp,Op.intDiv,c];omega
theorem Ylq(c:o.op= .unOp .neg t x)(e:ev env x=some (.int .i64 (-(m:Int))))(h:m<=9223372036854775807):Lk P N sc o env H (.int .i64 (m:Int)):=λa w hs=>by have d:Nc (m):=⟨O6,O1⟩;simp [execOp,c,hs.ev e,Op.unary,Op.intArith,Zb8 d]
end
end Go.Sky
namespace Go.Sky
variable{i k m:Nat}{p:Pc}{r:List Pc}{bs ts ks:List Nat}{x y:Operand}{v u:Value}{ops:Array Oper}{listed:Array Bool}{zs:List (Int×SL)}{z:Int×SL}{o:Oper}{t:TypeId}{w0:World}{M0:Nat->Prop}
def Yg6(n:Nat):n/256^((dg 256 n).length-0)=0:=cT ((Xw O6 _ n).1 O6)
theorem Zqa{n:Nat}(h:i<(dg 256 n).length):n/256^((dg 256 n).length-i)*256+n/256^((dg 256 n).length-1-i)%256=n/256^((dg 256 n).length-(i+1)):=by
 rw [show(dg 256 n).length-1-i=(dg 256 n).length-(i+1) by omega];have a:n/256^((dg 256 n).length-i)=n/256^((dg 256 n).length-(i+1))/256:=by rw [aQ,<-cJ,show((dg 256 n).length-(i+1)).succ=(dg 256 n).length-i by omega]
 omega
theorem Yp1{p xs:List Nat}{r:Nat}(a:0<k)(b:k<=p.length)(d:k<=xs.length)(c:Yt 1000000000 (p.drop k)*256+r=Yt 1000000000 (xs.drop k)) :
  Yt 1000000000 ((p.set (k-1) ((r*1000000000+xs.getD (k-1) 0)/256)).drop (k-1))*256+(r*1000000000+xs.getD (k-1) 0)%256=Yt 1000000000 (xs.drop (k-1)):=by
 rw [Zhy a b,Zdu 0 xs _ O1];simp only [Yt];grind
theorem Yh4{r a:Nat}(c:r<256)(b:a<1000000000):(r*1000000000+a)/256<1000000000:=by omega
theorem Yp2{n:Nat}(a:Yt 256 bs+256^bs.length*m=n):Yt 256 (bs ++ [m%256])+256^(bs ++ [m%256]).length*(m/256)=n:=by rw [Mm,bG];simp only [Yt,eI,gE,cJ,cH,gW,eJ,gG,kN];grind [Nat.div_add_mod]
theorem to_ge{n:Nat}(b:Yt 256 bs+256^bs.length*m=n)(a:0<m):256^bs.length<=n:=by have:=dJ (256^bs.length) a;omega
theorem to_len{n:Nat}(h:256^bs.length<=n):bs.length<=bl n:=by grind [Zbq,La,Zjc]
theorem Yni(a:0<k)(h:k<=bs.length):(bs.drop k).reverse ++ [bs.getD (k-1) 0]=(bs.drop (k-1)).reverse:=by grind [Zdu]
theorem Yt1{n:Nat}(h:bs=dg 256 n):(⟨((bs.drop 0).reverse.map UInt8.ofNat).toArray⟩:ByteArray)=Qp n:=by rw [h];rfl
def Zvy(a b:Int):Prop:=65536<bl a.natAbs\/65536<bl b.natAbs
instance (a b:Int):Decidable (Zvy a b):=by unfold Zvy;infer_instance
def qn(a b:Int):Int:=if Zvy a b then 0 else a
def qd(a b:Int):Int:=if Zvy a b then 0 else b
def qe(a b:Int):Int:=if Zvy a b then 7 else 0
def Yr7{x y:Int}(h:y<0):Qi x y=-(Int.gcd x y:Int):=aM h
def Yda{x y:Int}(h:¬y<0):Qi x y=(Int.gcd x y:Int):=aK h
def Zic(x y:Int):bl ((Int.gcd x y:Int)).natAbs<=max (bl x.natAbs) (bl y.natAbs):=Zog _ _
open Go.RowKit Below
variable {P:Program} {N:Nat} {sc:Nat->Prop} {env env':Pw} {H H':Hp} {Q Q':Exit->Act->World->Prop} {M:Nat->Prop}
abbrev Yae (w:Bool×ByteArray):Value:= .agg #[.bool w.1,.string w.2]
abbrev My (z:Int×SL):Value:= .agg #[.bool (decide (z.1<0)),Xk z.2]
abbrev Nn {α:Type} (z:SL×α):Value:=Xk z.1
abbrev qI (z:Int×SL):Pc:=Pn (Xk z.2) z.1.natAbs
abbrev pp (v:Value) (zs:List (Int×SL)):Pc:=Xn 2 My qI v zs
abbrev Zb (zs:List (Int×SL)):List Int:=zs.map Prod.fst
abbrev I0:Int×SL:=(0,none,0,0)
theorem Zh(zs:List (Int×SL)):(Zb zs).length=zs.length:=O6
theorem Pa(zs:List (Int×SL))(i:Nat):(zs.getD i I0).1=cf (Zb zs) i:=by
 simp only [cf,List.getD,Zb,iJ]
 all_goals grind
def Zv1{β:Type}{enc:β->Value}{q:β->Pc}{zs:List β}{al:Bool}{z:β}(i:Nat)(hi:lk H i=some (Xn k enc q v zs))(d:Nat.beq i 0=false)(a:z∈zs)(h:PreOk H al r):PreOk H al (q z::r):=
 ⟨⟨i,_,λe=>O11,hi,λw h=>h.2 z a,λb c=> .inr ⟨z,a,c⟩,λ_=>rfl⟩,h⟩
def Yg3{β:Type}{enc:β->Value}{q:β->Pc}{zs:List β}{z:β}(i:Nat)(hi:lk H i=some (Xn k enc q v zs))(d:Nat.beq i 0=false)(a:z∈zs)(f:(q z).own=false)(h:Give H true r):Give H true (q z::r):=
 ⟨⟨f,.inl ⟨i,_,λe=>O11,hi,λw h=>h.2 z a,λb c=> .inr ⟨z,a,c⟩,λh=>O5⟩⟩,h⟩
theorem Yf1{β:Type}{enc:β->Value}{q:β->Pc}{zs:List β}(i j n:Nat)(hi:lk H i=some (Xn k enc q v zs))(d:Nat.beq i 0=false)(f:n<=zs.length):∀a w,Sat N sc env H a w->Sat N sc env ((j,Xn k enc q (Ic v n) (zs.take n))::H) a w:=
 Zcz i j hi d rfl (λw h=>⟨⟨Zej n f h.1.1,λb c=>h.1.2 b (Zno c)⟩,λz e=>h.2 z (fG e)⟩) (λb c=>by
  rcases c with c|⟨z,e,c⟩
  .exact .inl (Zno c)
  .right;grind) rfl
theorem Zks{n:Nat}{α:Type}{p:α->Prop}(b:∀a w,Sat N sc env H a w->∃x,p x)(h:∀x,p x->A P N sc M ops ts Q n listed env H):A P N sc M ops ts Q n listed env H:=λa w hs=>by obtain⟨x,c⟩:=b a w hs;exact h x c a w hs
theorem Fp(i:Nat):∀a w,Sat N sc env H a w->Sat N sc env ((i,pp (.slice none 0 0) [])::H) a w:=λa w hs=>
 hs.add i _ ⟨Ag 2 _ w,λz d=>O5⟩ (λf g _ _ Ff b c e=>by
  rcases c with c|⟨z,d,_⟩
  all_goals grind) (λb c=>by
  rcases c with c|⟨z,d,_⟩
  all_goals grind)
theorem Zw8{β:Type}{enc:β->Value}{q:β->Pc}{zs:List β}(i:Nat)(hi:lk H i=some (Xn k enc q v zs)):∀a w,Sat N sc env H a w->Ic v zs.length=v:=λa w hs=>by obtain⟨b,c,h,_⟩:=(hs.hold i _ hi).1.1;rw [h];rfl
def Zip(zs:List (Int×SL))(k:Nat):Zb (zs.take k)=(Zb zs).take k:=O6
def Qa{al:Bool}(i:Nat)(hi:lk H i=some (pp v zs))(a:Nat.beq i 0=false)(b:z∈zs)(h:PreOk H al r):PreOk H al (Pn (Xk z.2) z.1.natAbs::r):=Zv1 (z:=z) i hi a b h
theorem Ysj(i:Nat)(hi:lk H i=some (pp v zs))(a:Nat.beq i 0=false)(c:z∈zs)(b:Pn (Xk z.2) z.1.natAbs=p)(h:Give H true r):Give H true (p::r):=by subst b;exact Yg3 (z:=z) i hi a c rfl h
theorem t_appM {α:Type}   {e:TypeId} {i2 j h d:Nat}  {enc:α->Value} {xs ys:List α}  {ti:TypeInfo} {z:Value}  
  (ho:o.op= .call { callee:= .builtin .append,args:=#[x,y],argTypes:=#[t,t] }) (hd:o.dst=some d) (hN:Nat.blt d N=true)
  (hx:ev env x=some v) (hy:ev env y=some u) (hH:lk H i=some (Oe k e enc v xs)) (Z:i≠0) (hj:lk H j=some p) (hr:Rd p k enc u ys) (a9:ys≠[])
  (ht:P.underlying t=some (.slice e)) (hi:P.info? e=some ti) (hz:ti.zero=some z) (n:Enc P e k enc) (a0:ti.size=k) (W:ti.bytes=h) (a4:z.cells.size=k)
  (l:(xs.length+ys.length)*h<=140737488355328) (s:0<h)
  (h0:lk H 0=some (Yy w0 M0)) (hw:∀b,w0.heap.size<=b->sc b) (hM:∀b,(Oe k e enc v xs).fp b->M b) :
  T P N sc M o env H (G:=Value) (λ_=>True) (λv'=>(d,v')::env) (λv'=>(i,Oe k e enc v' (xs ++ ys))::H):=λa w hs K Q hK=>by
 have I:=hs.hold i _ hH;obtain⟨ad,c,rfl,h1,h2,h3⟩:=hr w (hs.hold j p hj);rcases h3 with rfl|⟨g,S,rfl,h3⟩
 .grind
 have a3:∀q u,(cellsOf enc ys)[q]? = some u->w.cell? ((⟨g,S,none⟩:Addr).add q)=some u:=λq u hq=>by
  have a7:q<ys.length*k:=by rw [<-Xm n.cells ys];grind
  have a5:=n.pos;have Y:q/k<ys.length:=iL O5;have D:=aO Y;have a1:q%k<(enc ys[q/k]).cells.toList.length:=by rw [eY,n.cells];simp_all [bI]
  have hu:=aO a1;have h4:=Gh n.cells ys _ _ D _ _ hu;grind [Nat.mul_comm,Nat.div_add_mod,Nat.add_assoc,Ov]
 have F:∀u∈cellsOf enc ys,u.oneCell'=true:=λu hu=>by obtain⟨y,_,hy⟩:=jQ.1 hu;exact n.one y u hy
 have a6:=aB (dJ _ s) l;obtain⟨v',w',R,a8,f,V⟩:=Zfa (P:=P) t o.type e ti z k h ht hi hz a0 W a4 n.pos v xs.length (cellsOf enc xs) I ⟨g,S,none⟩ ys.length c (cellsOf enc ys)
  (Xm n.cells ys) a3 F (by simp only [maxLen];omega) l
 have a2:(execOp a.eval o).run P w= .ok (.value v') w':=by simp only [execOp,ho,resolve,invoke,builtin,Sem.run_bind,Sem.run_pure,Result.andThen_ok,fS,bZ,gV,hs.ev hx,hs.ev hy,R]
 unfold Oper.wp;rw [a2];show K (a.put o.dst _) _;rw [hd];have B:Chg _ w w':=⟨f.os,f.tape,f.output,f.size,λb l hn=>f.block b l (λe=>hn e.symm)⟩;refine hK v' _ _ aA ((hs.upd hH rfl Z B ?_ (λb l=>V b l) h0 hw).put d _ hN) ⟨f.os,f.tape,f.output,f.size,λb l hn=>f.block b l (λe=>hn (hM b e.symm))⟩;show w'.ownsRow 0 e k v' (xs ++ ys).length (cellsOf enc (xs ++ ys));grind [Iw,List.length_append]
theorem Cg (i:Nat)(j:Nat)(l:Nat) {α:Type}   {e:TypeId} {d:Nat}  {enc:α->Value} {xs ys:List α}  {ti:TypeInfo} {z:Value}  
  (ho:o.op= .call { callee:= .builtin .append,args:=#[x,y],argTypes:=#[t,t] }) (hd:o.dst=some d) (hN:Nat.blt d N=true)
  (hx:ev env x=some v) (hy:ev env y=some u) (Y:lk H i=some (Oe k e enc v xs)) (I:i≠0) (hj:lk H j=some p) (hr:Rd p k enc u ys)
  (ht:P.underlying t=some (.slice e)) (hi:P.info? e=some ti) (hz:ti.zero=some z) (he:Enc P e k enc) (a2:ti.size=k) (a1:ti.bytes=l) (a4:z.cells.size=k)
  (Z:(xs.length+ys.length)*l<=140737488355328) (D:0<l)
  (h0:lk H 0=some (Yy w0 M0)) (hw:∀b,w0.heap.size<=b->sc b) (hM:∀b,(Oe k e enc v xs).fp b->M b) :
  T P N sc M o env H (G:=Value) (λ_=>True) (λv'=>(d,v')::env) (λv'=>(i,Oe k e enc v' (xs ++ ys))::H):=by
 by_cases V:ys=[]
 .subst V;intro a w hs K Q hK;have f:w.ownsRow 0 e k v xs.length (cellsOf enc xs):=hs.hold i _ Y;obtain⟨W,c,rfl,h1,h2,h3⟩:=hr w (hs.hold j p hj);have R:∃h n s,v= .slice h n s/\n=xs.length/\n<=s:=by
   rcases f.2 with⟨rfl,hn⟩|⟨g,a5,a6,rfl,_,_,B,_⟩
   all_goals grind
  obtain⟨h,n,s,rfl,rfl,B⟩:=R;have S:(Builtin.append_ #[t,t] o.type #[.slice h xs.length s,.slice W ([]:List α).length c]).run P w= .ok (.slice h xs.length s) w:=by
   have F:(Builtin.firstCells ti.size 0 (.slice W 0 c)).run P w= .ok #[] w:=by
    cases W with
    | none=>rfl
    | some q=>simp [Builtin.firstCells,loadCells,loadCellsFrom]
   cases h with
   | none=>simp [Builtin.append_,run_underlying ht,sizeOf,typeInfo,hi,Builtin.lenOf,F,B]
   | some q=>simp [Builtin.append_,run_underlying ht,sizeOf,typeInfo,hi,Builtin.lenOf,F,B,storeCells]
  have a3:(execOp a.eval o).run P w= .ok (.value (.slice h xs.length s)) w:=by simp only [execOp,ho,resolve,invoke,builtin,Sem.run_bind,Sem.run_pure,Result.andThen_ok,fS,bZ,gV,hs.ev hx,hs.ev hy,S]
  unfold Oper.wp;rw [a3];show K (a.put o.dst _) _;rw [hd];refine hK _ _ _ aA ((Sat.upd hs Y rfl I (q:=Oe k e enc (.slice h xs.length s) (xs ++ [])) (Chg.refl _ w) ?_ (λb Z=> .inl Z) h0 hw).put d _ hN) (Chg.refl _ w);rw [jA];exact f
 .exact t_appM (i2:=0) ho hd hN hx hy Y I hj hr V ht hi hz he a2 a1 a4 Z D h0 hw hM
theorem Za5  {G:Type} {φ:G->Prop} {c:G->Pw} {g:G->Hp} {d:Hp}   (i:Nat) (hi:lk H i=some p) (F:p.own=true) (D:ks.all (λk=>!Nat.beq k i)=true) (n:Agr d H ks)
  (h:(∀b,p.fp b->Off d ks b)->T P N sc (Off d ks) o env H φ c g):T P N sc (Off d ks) o env H φ c g:=λa w hs=>
 h (λb s k j q l B=>by
  rw [<-n.mem k j]at l;have f:i≠k:=λe=>by subst e;have:=cI.1 D i j;simp_all
  exact hs.sep i k p q f hi l F b s B) a w hs
def eaf(v:Value)(i k q:Nat):Addr:=(ead v i k).add q
theorem Mb (ii:Nat) {α:Type}    {f:Nat} {d:Array Field} {b:Field} {I q:Nat}   {enc:α->Value} {xs:List α} (s:o.op= .fieldAddr t x f)
  (G:ev env x=some (.pointer (some (ead v i k)))) (h:lk H ii=some p) (D:Rd p k enc v xs) (F:P.underlying t=some (.struct d)) (j:d[f]? = some b) (l:∀w,(sizeOf b.type).run P w= .ok (I+1) w) (B:b.offset=q) (n:i<xs.length:=by omega) :
  Lk P N sc o env H (.pointer (some (eaf v i k q))):=λa w hs=>by
 obtain⟨S,c,rfl,V,W,e⟩:=D w (hs.hold ii p h);rcases e with rfl|⟨g,R,rfl,e⟩
 .grind
 .subst B;simp [execOp,s,hs.ev G,Instr.fieldAt,run_underlying F,j,Instr.sureAddr,fieldPlace,l,Ov,eaf,ead]
theorem Mj (ii:Nat) {α:Type}    {q:Nat}   {enc:α->Value} {xs:List α} (d:α) (n:o.op= .load t x)
  (e:ev env x=some (.pointer (some (eaf v i k q)))) (f:lk H ii=some p) (s:Rd p k enc v xs) (j:∀w,(isAgg t).run P w= .ok false w) (B:(enc (xs.getD i d)).cells.toList[q]? = some u) (l:i<xs.length:=by omega):Lk P N sc o env H u:=λa w hs=>by
 obtain⟨F,c,rfl,G,I,b⟩:=s w (hs.hold ii p f);rcases b with rfl|⟨g,D,rfl,b⟩
 .grind
 .have hi:xs[i]? = some (xs.getD i d):=O5;have h:=b i _ hi q u B;simp only [eaf,ead,Ov]at e;simp [execOp,n,hs.ev e,Instr.loadAt,Instr.sureAddr,loadVar,j,load,Sem.run,h]
end Go.Sky
namespace Go.Sky
variable{o:Oper}{r pre:List Pc}{f:FuncId}{xs:List Operand}{a:Act}{w:World}{c x:Operand}{ats:Array TypeId}{vs:List Value}{M0:Nat->Prop}{b:Nat}{t:TypeId}{cs:Array Value}
abbrev rq (z:Int×Int):Value:= .agg #[.bool (decide (z.1<0)),.string (Qp z.1.natAbs),.bool (decide (z.2<0)),.string (Qp z.2.natAbs)]
abbrev encQ (z:(Bool×ByteArray)×(Bool×ByteArray)):Value:= .agg #[.bool z.1.1,.string z.1.2,.bool z.2.1,.string z.2.2]
def Yz (d:Value){P:Program}{N:Nat}{sc:Nat->Prop}{env:Pw}{H:Hp}{r:Value}(h:Lk P N sc o env H r)(e:r=d):Lk P N sc o env H d:=e▸h
open Go.RowKit Below
variable {P:Program} {N:Nat} {sc:Nat->Prop} {env env':Pw} {H H':Hp} {Q Q':Exit->Act->World->Prop} {M:Nat->Prop}
theorem Zxq (vs:List Value)(d:List Value){ys:List Operand}(h:o.op= .makeFunc (.func f) xs.toArray ys.toArray)(j:EvL env xs vs)(i:EvL env ys d):Lk P N sc o env H (.func (.func f) vs.toArray d.toArray):=λa w hs=>by have e:=j.map hs;have g:=i.map hs;simp [execOp,h,Instr.makeFunc,e,g]
theorem Ze9   (hs:Sat N sc env H a w)      {e g:List Value} (j:o.op= .call { callee:= .value c,args:=xs.toArray,argTypes:=ats })
  (h:ev env c=some (.func (.func f) e.toArray g.toArray)) (d:EvL env xs vs):(execOp a.eval o).run P w=(callFunc f (e ++ vs ++ g).toArray).run P w:=by
 have i:=d.map hs;simp [execOp,j,resolve,invoke,hs.ev h,Deferred.ofValue,i]
theorem Ybj (n:Nat)(h:List Value)(vs:List Value)(k:List Value)      {d:Nat}   {al:Bool} {G:Type} {φ:G->Prop} {Yt:G->Value} {j:G->List Pc} {w0:World} 
  (B:Cal P f (h ++ vs ++ k).toArray pre al φ Yt j)
  (V:o.op= .call { callee:= .value c,args:=xs.toArray,argTypes:=ats }) (D:ev env c=some (.func (.func f) h.toArray k.toArray)) (F:o.dst=some d) (z:Nat.blt d N=true)
  (p:EvL env xs vs) (e:∀args w,(callFunc f args).run P w= .ok (.enter f args) w) (i:PreOk H al pre)
  (u:lk H 0=some (Yy w0 M0)) (R:∀b,w0.heap.size<=b->sc b) :
  T P N sc M o env H φ (λg=>(d,Yt g)::env) (λg=>adds n (j g) H):=λa w hs K Q y=>by
 have I:(execOp a.eval o).run P w= .ok (.enter f (h ++ vs ++ k).toArray) w:=by grind [Ze9]
 let o2:={ o with op:= .call { callee:= .value (.func f),args:=((h ++ vs ++ k).map Operand.const).toArray,argTypes:=ats } };have q:∀l,EvL env (l.map Operand.const) l:=λl=>by
  induction l with
  | nil=>trivial
  | cons v r S=>exact⟨rfl,S⟩
 have s:(execOp a.eval o2).run P w= .ok (.enter f (h ++ vs ++ k).toArray) w:=by grind [Gm]
 have m:=Xe _ B (o:=o2) rfl F z (q _) e i u R a w hs K Q y;unfold Oper.wp at m ⊢;rw [s]at m;rw [I];exact m
def Zi4(i:Nat)(hi:lk H i=some (box b t cs))(g:Nat.beq i 0=false)(h:PreOk H false r):PreOk H false (Ku b t cs::r):=
 ⟨⟨i,_,λe=>O11,hi,λw h=>h,λb d=>d,λh=>O5⟩,h⟩
theorem Sat.rboxc(hs:Sat N sc env H a w){i:Nat}(d:lk H i=some (Ku b t cs))(j:Nat):w.cell? ⟨b,j,none⟩=cs[j]?:=by have h:w.heap[b]? = some _:=hs.hold i _ d;simp [World.cell?,h]
theorem d_lra   {q:TypeId} {i j k:Nat}   (l:o.op= .load t x)
  (p:ev env x=some (.pointer (some ⟨b,j,none⟩))) (e:lk H i=some (Ku b q cs)) (m:∀w,(isAgg t).run P w= .ok true w) (g:∀w,(sizeOf t).run P w= .ok k w)
  (h:vs.length=k) (v:∀n u,vs[n]? = some u->cs[j+n]? = some u):Lk P N sc o env H (.agg vs.toArray):=λa w hs=>by
 have d:=run_loadCells_list (P:=P) w ⟨b,j,none⟩ vs (λn u s=>by rw [Ov,hs.rboxc e];grind);rw [h]at d;simp [execOp,l,hs.ev p,Instr.loadAt,Instr.sureAddr,loadVar,m,g,d]
theorem Ztf{m:Int}(d:o.op= .unOp .neg t x)(e:ev env x=some (.int .i64 m))(h:Nc (-m):=by exact⟨O1,O1⟩):Lk P N sc o env H (.int .i64 (-m)):=λa w hs=>by simp [execOp,d,hs.ev e,Op.unary,Op.intArith,Zb8 h]
theorem fill24{n p q s d e g h j k l m:Value}:Instr.fill (λi=>some (i*4,4)) ((List.range (2*4)).map ((Value.agg #[n,p,q,s]).cells[· % (Value.agg #[n,p,q,s]).cells.size]!)).toArray [(0,.agg #[d,e,g,h]),(1,.agg #[j,k,l,m])]=some #[d,e,g,h,j,k,l,m]:=by simp [Instr.fill,Value.cells,List.range,List.range.loop]
end Go.Sky
namespace Go.Sky
open Go.RowKit Below
variable{f:FuncId}{c:Operand}{xs:List Operand}{ats:Array TypeId}{p:Pc}{pre:List Pc}{w0:World}{M0:Nat->Prop}{fn:Func}{vs:List Value}
variable {P:Program} {N:Nat} {sc:Nat->Prop} {env env':Pw} {H H':Hp} {Q Q':Exit->Act->World->Prop} {M:Nat->Prop}
abbrev iq (z:(Int×Int)×(Int×Int)):Value:= .agg #[.bool (decide (z.1.1<0)),.string (Qp z.1.1.natAbs),.bool (decide (z.1.2<0)),.string (Qp z.1.2.natAbs),.bool (decide (z.2.1<0)),.string (Qp z.2.1.natAbs),.bool (decide (z.2.2<0)),.string (Qp z.2.2.natAbs)]
def Yug(P:Program)(f:FuncId)(args:Array Value)(pre:List Pc)(p:Pc){G:Type}(φ:G->Prop)(Yt:G->Value)(q:G->Pc):Prop:=
 ∀w,(∀r∈pre,r.holds w/\∀k,p.fp k->¬r.fp k)->p.holds w->Calls P f args w λe a=>∃g,e= .returned (Yt g)/\φ g/\Chg p.fp w a/\(q g).holds a/\∀k,(q g).fp k->p.fp k\/w.heap.size<=k
theorem Ybi (i:Nat)(u:List Value)(vs:List Value)(F:List Value) {o:Oper}     {d:Nat}    {G:Type} {φ:G->Prop} {Yt:G->Value} {q:G->Pc}  
  (Z:Yug P f (u ++ vs ++ F).toArray pre p φ Yt q)
  (ho:o.op= .call { callee:= .value c,args:=xs.toArray,argTypes:=ats }) (a0:ev env c=some (.func (.func f) u.toArray F.toArray)) (hd:o.dst=some d) (W:Nat.blt d N=true)
  (x:EvL env xs vs) (y:∀args w,(callFunc f args).run P w= .ok (.enter f args) w) (v:lk H i=some p) (l:p.own=true) (z:i≠0) (s:PreOk (drp i H) false pre)
  (R:lk H 0=some (Yy w0 M0)) (hw:∀b,w0.heap.size<=b->sc b) (V:∀b,p.fp b->M b) :
  T P N sc M o env H φ (λg=>(d,Yt g)::env) (λg=>(i,q g)::H):=λa w hs K Q S=>by
 have hr:(execOp a.eval o).run P w= .ok (.enter f (u ++ vs ++ F).toArray) w:=by grind [Ze9]
 unfold Oper.wp;rw [hr];refine(Z w (λr hp=>by obtain⟨j,I,_,t,n,m,_⟩:=s.mem r hp;obtain⟨D,t⟩:=Cb _ _ _ _ t;exact⟨n w (hs.hold j I t),λk B Y=>hs.sep i j _ I (iH D) v t l k B (m k Y)⟩) (hs.hold i _ v)).mono ?_
 rintro e w' ⟨g,rfl,hg,h,hq,m⟩;rw [hd];exact S g _ _ hg (Sat.put (hs.upd v l z h hq m R hw) d _ W) ⟨h.os,h.tape,h.output,h.size,λk B hn=>h.block k B (λe=>hn (V k e))⟩
def Ypg(P:Program)(fn:Func)(w0:World)(p:Pc){G:Type}(φ:G->Prop)(Yt:G->Value)(q:G->Pc):Exit->Act->World->Prop:=
 bodyPost P fn λe a=>∃g,e= .returned (Yt g)/\φ g/\Chg p.fp w0 a/\(q g).holds a/\∀k,(q g).fp k->p.fp k\/w0.heap.size<=k
theorem Yev   {c:Code}    {G:Type} {φ:G->Prop} {Yt:G->Value} {q:G->Pc} {N:Nat}
  (y:P.funcs[f]? = some fn) (u:fn.body=some c) (W:fn.ntmps=N) (m:Nat.ble vs.length N=true) (n:AllRo pre)
  (h:∀w0 (sc:Nat->Prop),(∀k,w0.heap.size<=k->sc k)->(∀k,sc k->w0.heap.size<=k\/p.fp k\/∃q∈pre,q.fp k)->
   E P N sc c (Ypg P fn w0 p φ Yt q) (Qz 0 vs) ((0,Yy w0 p.fp)::(1,p)::Xd 2 pre)) :
  Yug P f vs.toArray pre p φ Yt q:=λw Y x=>by
 refine calls_of_wp y u (h w _ (λk b=> .inl b) (λk b=>b) _ w ?_);have m:vs.length<=N:=O11;have a:∀i r,lk ((0,Yy w p.fp)::(1,p)::Xd 2 pre) i=some r->(i=0/\r=Yy w p.fp)\/(i=1/\r=p)\/(i≠0/\i≠1/\r∈pre/\r.own=false):=λi r hi=>by
   by_cases o:0=i
   .grind [Ys]
   .rw [Zx _ _ o]at hi;by_cases d:1=i
    .grind [Ys]
    .rw [Zx _ _ d]at hi;obtain⟨_,g⟩:=Mp pre 2 i r hi;exact .inr (.inr ⟨λe=>o e.symm,λe=>d e.symm,g,n.mem r g⟩)
 refine⟨O5,rfl,λt v R=>?_,λi r hi=>?_,λi j r S F hi B I k b l=>?_,λi r z hi k b=>?_⟩
 .have d:vs.toArray[t]? = some v:=by simpa using(Ft vs 0 t v R).2
  have D:=(aS.1 d).1;simp_all [bM,eF]
 .rcases a i r hi with⟨_,rfl⟩|⟨_,rfl⟩|⟨_,_,g,_⟩
  .exact Chg.refl _ w
  all_goals grind
 .rcases a i r hi with⟨_,rfl⟩|⟨d,rfl⟩|⟨_,_,g,s⟩
  .cases I
  .rcases a j S B with⟨_,rfl⟩|⟨V,rfl⟩|⟨_,_,g,_⟩
   .exact l.2 b
   all_goals grind
  grind
 grind
theorem Yhp    {G:Type} {φ:G->Prop} {Yt:G->Value} {q:G->Pc}  {e:Exit} (B:e= .ret\/e= .normal) (u:∀k,sc k->w0.heap.size<=k\/p.fp k\/∃q∈pre,q.fp k)
  (g:G) {v:Value} (m:∀a w,Sat N sc env H a w->(results fn a.tmps).run P w= .ok v w) (R:Yt g=v) (D:φ g) (i:Nat) (hi:lk H i=some (q g)) (z:lk H 0=some (Yy w0 p.fp)) (b:Nat.beq i 0=false) (d:(q g).own=true) (l:PreOk (drp i H) false pre) :
  X N sc e (Ypg P fn w0 p φ Yt q) env H:=λa w hs=>by
 have b:i≠0:=λe=>O11;have x:a.defers=[]/\∃v,(results fn a.tmps).run P w= .ok v w/\(∃g,Ending.returned v= .returned (Yt g)/\φ g/\Chg p.fp w0 w/\(q g).holds w/\∀k,(q g).fp k->p.fp k\/w0.heap.size<=k):=by
  refine⟨hs.defers,v,m a w hs,g,O5,D,hs.hold 0 _ z,hs.hold i _ hi,λk y=>?_⟩;rcases u k (hs.scope i _ b hi k y)with h|h|⟨r,F,t⟩
  .omega
  .grind
  .obtain⟨j,I,_,o,_,n,_⟩:=l.mem r F;obtain⟨s,o⟩:=Cb _ _ _ _ o;exact(hs.sep i j _ I (iH s) hi o d k y (n k t)).elim
 rcases B with rfl|rfl<;>exact x
def gb{α:Type}(b:Nat)(t:TypeId)(k:Nat)(e:TypeId)(enc:α->Value)(v:Value)(xs:List α):Pc:=
 {own:=true,fp:=λc=>c=b\/v.ownBlock=some c,holds:=λw=>(box b t #[v]).holds w/\(Oe k e enc v xs).holds w/\v.ownBlock≠some b
  lt:=λw c h a=>by
   rcases a with rfl|a
   .exact(box c t #[v]).lt w c h.1 rfl
   .exact(Oe k e enc v xs).lt w c h.2.1 a
  stable:=λw l h a=>⟨(box b t #[v]).stable w l h.1 ⟨a.os,a.tape,a.output,a.size,λk g i=>a.block k g (λd=>i (λj=>d (.inl j)))⟩,
   (Oe k e enc v xs).stable w l h.2.1 ⟨a.os,a.tape,a.output,a.size,λk g i=>a.block k g (λd=>i (λj=>d (.inr j)))⟩,h.2.2⟩ }
end Go.Sky
namespace Go.Sky
open Go.Proofs
def pU:Enc Tryz.prog 232 1 Lj:=Enc.flat Tryz.sizeOf232 Tryz.isAgg232 (λ_=>rfl)
def pB:Enc Tryz.prog 5 1 Zkq:=Enc.flat Tryz.sizeOf5 Tryz.isAgg5 (λ_=>rfl)
def pN:Enc Tryz.prog 3 1 Ij:=Enc.flat Tryz.sizeOf3 Tryz.isAgg3 (λ_=>rfl)
def pZ:Enc Tryz.prog 3 1 Yj:=Enc.flat Tryz.sizeOf3 Tryz.isAgg3 (λ_=>rfl)
def Zjn(args:Array Value)(w:World):(callFunc 269 args).run Tryz.prog w=((add64Entry args).run Tryz.prog w).andThen λv w'=> .ok (.value v) w':=
 run_callFunc_extern Tryz.func269 O8 O8 O8 O8 args w
def Yfo(args:Array Value)(w:World):(callFunc 270 args).run Tryz.prog w=((Zfp args).run Tryz.prog w).andThen λv w'=> .ok (.value v) w':=
 run_callFunc_extern Tryz.func270 O8 O8 O8 O8 args w
end Go.Sky
theorem Go.Proofs.Tryz.ti232:Go.Proofs.Tryz.prog.info? 232=some Go.Proofs.Tryz.t232:=Go.Sky.O8
namespace Go.Sky
open Go.Proofs
end Go.Sky
theorem Go.Proofs.Tryz.ti5:Go.Proofs.Tryz.prog.info? 5=some Go.Proofs.Tryz.t5:=Go.Sky.O8
namespace Go.Sky
open Go.Proofs
end Go.Sky
theorem Go.Proofs.Tryz.ti3:Go.Proofs.Tryz.prog.info? 3=some Go.Proofs.Tryz.t3:=Go.Sky.O8
namespace Go.Sky
open Go.Proofs
variable{a b:Bool}
def pW:Enc Tryz.prog 80 2 Yae:=Enc.agg O4 Tryz.sizeOf80 Tryz.isAgg80 (λx=>⟨[.bool x.1,.string x.2],rfl,rfl,O12⟩)
def pV:Enc Tryz.prog 80 2 wv:=Enc.agg O4 Tryz.sizeOf80 Tryz.isAgg80 (λx=>⟨[.bool (decide (x<0)),.string (Qp x.natAbs)],rfl,rfl,O12⟩)
def pI:Enc Tryz.prog 89 2 My:=Enc.agg O4 Tryz.sizeOf89 Tryz.isAgg89 (λx=>⟨[.bool (decide (x.1<0)),Xk x.2],rfl,rfl,O12⟩)
def pS{α:Type} : Enc Tryz.prog 40 1 (Nn (α:=α)):=Enc.flat Tryz.sizeOf40 Tryz.isAgg40 (λ_=>rfl)
def pY:Enc Tryz.prog 276 8 iq:=Enc.agg O4 Tryz.sizeOf276 Tryz.isAgg276 (λx=>⟨[.bool (decide (x.1.1<0)),.string (Qp x.1.1.natAbs),.bool (decide (x.1.2<0)),.string (Qp x.1.2.natAbs),.bool (decide (x.2.1<0)),.string (Qp x.2.1.natAbs),.bool (decide (x.2.2<0)),.string (Qp x.2.2.natAbs)],rfl,rfl,O12⟩)
def pQ:Enc Tryz.prog 82 4 rq:=Enc.agg O4 Tryz.sizeOf82 Tryz.isAgg82 (λx=>⟨[.bool (decide (x.1<0)),.string (Qp x.1.natAbs),.bool (decide (x.2<0)),.string (Qp x.2.natAbs)],rfl,rfl,O12⟩)
def pR:Enc Tryz.prog 82 4 encQ:=Enc.agg O4 Tryz.sizeOf82 Tryz.isAgg82 (λx=>⟨[.bool x.1.1,.string x.1.2,.bool x.2.1,.string x.2.2],rfl,rfl,O12⟩)
def sh80:Tryz.prog.stoodInHeld 80=false:=O8
def sh82:Tryz.prog.stoodInHeld 82=false:=O8
def eg80:Tryz.prog.eqGuardType Tryz.prog.depth 80=false:=O8
def Yne:Tryz.prog.eqGuardType Tryz.prog.depth 82=false:=O8
theorem Ysg(d:Nat)(w:World)(a:Bool)(s:ByteArray)(b:Bool)(t:ByteArray):(Op.equalIn (d+2) 80 (.agg #[.bool a,.string s]) (.agg #[.bool b,.string t])).run Tryz.prog w= .ok (eqW a s b t) w:=by
 have c:Tryz.prog.underlying 80=some (.struct (Tryz.prog.fieldsOf 80)):=by unfold Program.fieldsOf;rw [Tryz.underlying80]
 rw [run_equalIn_agg w (d+1) 80 _ _ c sh80];unfold Program.fieldsOf;rw [Tryz.underlying80];simp [Op.eqFields,part,Tryz.isAgg4,Tryz.isAgg9,run_equalIn_bool' _ _ _ _ _ Tryz.underlying4,run_equalIn_string _ _ _ _ _ Tryz.underlying9];unfold eqW;cases hab:(a == b)
 .simp_all
 .by_cases h:s.toList=t.toList<;>simp_all
theorem eql80(w:World){s:ByteArray}{t:ByteArray}:(binOp .eql 80 (.agg #[.bool a,.string s]) (.agg #[.bool b,.string t])).run Tryz.prog w= .ok (.bool (eqW a s b t)) w:=by rw [run_eql_struct,Ysg];rfl
theorem neq80(w:World){s:ByteArray}{t:ByteArray}:(binOp .neq 80 (.agg #[.bool a,.string s]) (.agg #[.bool b,.string t])).run Tryz.prog w= .ok (.bool (!eqW a s b t)) w:=by rw [run_neq_struct,Ysg];rfl
theorem in82(d:Nat)(w:World)(a:Bool)(s:ByteArray)(c:Bool)(f:ByteArray)(b:Bool)(t:ByteArray)(e:Bool)(t2:ByteArray):(Op.equalIn (d+3) 82 (.agg #[.bool a,.string s,.bool c,.string f]) (.agg #[.bool b,.string t,.bool e,.string t2])).run Tryz.prog w= .ok (eqW a s b t && eqW c f e t2) w:=by
 have g:Tryz.prog.underlying 82=some (.struct (Tryz.prog.fieldsOf 82)):=by unfold Program.fieldsOf;rw [Tryz.underlying82]
 rw [run_equalIn_agg w (d+2) 82 _ _ g sh82];unfold Program.fieldsOf;rw [Tryz.underlying82];simp [Op.eqFields,part,Tryz.isAgg80,Tryz.sizeOf80,Ysg];cases hab:eqW a s b t<;>cases hab2:eqW c f e t2<;>simp_all
theorem Zxb(w:World){s:ByteArray}{c:Bool}{e:ByteArray}{t:ByteArray}{d:Bool}{t2:ByteArray}:(binOp .eql 82 (.agg #[.bool a,.string s,.bool c,.string e]) (.agg #[.bool b,.string t,.bool d,.string t2])).run Tryz.prog w= .ok (.bool (eqW a s b t && eqW c e d t2)) w:=by rw [run_eql_struct,in82];rfl
end Go.Sky
theorem Go.Proofs.Tryz.ti33:Go.Proofs.Tryz.prog.info? 33=some Go.Proofs.Tryz.t33:=Go.Sky.O8
namespace Go.Sky
open Go.Proofs
end Go.Sky
theorem Go.Proofs.Tryz.ti35:Go.Proofs.Tryz.prog.info? 35=some Go.Proofs.Tryz.t35:=Go.Sky.O8
namespace Go.Sky
open Go.Proofs
end Go.Sky
theorem Go.Proofs.Tryz.ti38:Go.Proofs.Tryz.prog.info? 38=some Go.Proofs.Tryz.t38:=Go.Sky.O8
namespace Go.Sky
open Go.Proofs
end Go.Sky
theorem Go.Proofs.Tryz.ti40:Go.Proofs.Tryz.prog.info? 40=some Go.Proofs.Tryz.t40:=Go.Sky.O8
namespace Go.Sky
open Go.Proofs
end Go.Sky
theorem Go.Proofs.Tryz.ti47:Go.Proofs.Tryz.prog.info? 47=some Go.Proofs.Tryz.t47:=Go.Sky.O8
namespace Go.Sky
open Go.Proofs
end Go.Sky
theorem Go.Proofs.Tryz.ti80:Go.Proofs.Tryz.prog.info? 80=some Go.Proofs.Tryz.t80:=Go.Sky.O8
namespace Go.Sky
open Go.Proofs
end Go.Sky
theorem Go.Proofs.Tryz.ti82:Go.Proofs.Tryz.prog.info? 82=some Go.Proofs.Tryz.t82:=Go.Sky.O8
namespace Go.Sky
open Go.Proofs
end Go.Sky
theorem Go.Proofs.Tryz.ti89:Go.Proofs.Tryz.prog.info? 89=some Go.Proofs.Tryz.t89:=Go.Sky.O8
namespace Go.Sky
open Go.Proofs
end Go.Sky
theorem Go.Proofs.Tryz.ti91:Go.Proofs.Tryz.prog.info? 91=some Go.Proofs.Tryz.t91:=Go.Sky.O8
namespace Go.Sky
open Go.Proofs
end Go.Sky
theorem Go.Proofs.Tryz.ti130:Go.Proofs.Tryz.prog.info? 130=some Go.Proofs.Tryz.t130:=Go.Sky.O8
namespace Go.Sky
open Go.Proofs
end Go.Sky
theorem Go.Proofs.Tryz.ti23:Go.Proofs.Tryz.prog.info? 23=some Go.Proofs.Tryz.t23:=Go.Sky.O8
namespace Go.Sky
open Go.Proofs
variable{v0 v1:Value}
theorem Yuc{a:Value}(b:v0.oneCell'=true)(c:v1.oneCell'=true)(d:a.oneCell'=true):Tryz.prog.built 23 [(0,v0),(1,v1),(2,a)]=some #[v0,v1,a]:=by refine Pm Tryz.ti23 Tryz.underlying23 rfl (pl:=[(0,1),(1,1),(2,1)]) (by simp [Tryz.ti3];try decide) ?_;simp [Instr.fill,Ye b,Ye c,Ye d,show(Value.agg #[.int .i64 0,.int .i64 0,.int .i64 0]).cells=#[.int .i64 0,.int .i64 0,.int .i64 0]from rfl]
theorem b35_:Tryz.prog.built 35 []=some #[.int .i64 0,.int .i64 0,.int .i64 0,.slice none 0 0,.slice none 0 0,.slice none 0 0]:=by refine Pm Tryz.ti35 Tryz.underlying35 rfl (pl:=[(0,1),(1,1),(2,1),(3,1),(4,1),(5,1)]) (by simp [Tryz.ti3,Tryz.ti33];try decide) ?_;simp [Instr.fill,show(Value.agg #[.int .i64 0,.int .i64 0,.int .i64 0,.slice none 0 0,.slice none 0 0,.slice none 0 0]).cells=#[.int .i64 0,.int .i64 0,.int .i64 0,.slice none 0 0,.slice none 0 0,.slice none 0 0]from rfl]
theorem b35_01(a:v0.oneCell'=true)(b:v1.oneCell'=true):Tryz.prog.built 35 [(0,v0),(1,v1)]=some #[v0,v1,.int .i64 0,.slice none 0 0,.slice none 0 0,.slice none 0 0]:=by refine Pm Tryz.ti35 Tryz.underlying35 rfl (pl:=[(0,1),(1,1),(2,1),(3,1),(4,1),(5,1)]) (by simp [Tryz.ti3,Tryz.ti33];try decide) ?_;simp [Instr.fill,Ye a,Ye b,show(Value.agg #[.int .i64 0,.int .i64 0,.int .i64 0,.slice none 0 0,.slice none 0 0,.slice none 0 0]).cells=#[.int .i64 0,.int .i64 0,.int .i64 0,.slice none 0 0,.slice none 0 0,.slice none 0 0]from rfl]
theorem Zok{a b c d:Value}(e:v0.oneCell'=true)(f:v1.oneCell'=true)(g:a.oneCell'=true)(h:b.oneCell'=true)(i:c.oneCell'=true)(j:d.oneCell'=true):Tryz.prog.built 35 [(0,v0),(1,v1),(2,a),(3,b),(4,c),(5,d)]=some #[v0,v1,a,b,c,d]:=by refine Pm Tryz.ti35 Tryz.underlying35 rfl (pl:=[(0,1),(1,1),(2,1),(3,1),(4,1),(5,1)]) (by simp [Tryz.ti3,Tryz.ti33];try decide) ?_;simp [Instr.fill,Ye e,Ye f,Ye g,Ye h,Ye i,Ye j,show(Value.agg #[.int .i64 0,.int .i64 0,.int .i64 0,.slice none 0 0,.slice none 0 0,.slice none 0 0]).cells=#[.int .i64 0,.int .i64 0,.int .i64 0,.slice none 0 0,.slice none 0 0,.slice none 0 0]from rfl]
end Go.Sky
theorem Go.Proofs.Tryz.ti64:Go.Proofs.Tryz.prog.info? 64=some Go.Proofs.Tryz.t64:=Go.Sky.O8
namespace Go.Sky
open Go.Proofs
def b64_:Tryz.prog.built 64 []=some #[.int .i64 0,.int .i64 0,.int .i64 0,.int .i64 0]:=by refine Pm Tryz.ti64 Tryz.underlying64 rfl (pl:=[(0,1),(1,1),(2,1),(3,1)]) (by simp [Tryz.ti3];try decide) ?_;simp [Instr.fill,show(Value.agg #[.int .i64 0,.int .i64 0,.int .i64 0,.int .i64 0]).cells=#[.int .i64 0,.int .i64 0,.int .i64 0,.int .i64 0]from rfl]
def Zoj{a b c d:Value}(e:a.oneCell'=true)(f:b.oneCell'=true)(g:c.oneCell'=true)(h:d.oneCell'=true):Tryz.prog.built 64 [(0,a),(1,b),(2,c),(3,d)]=some #[a,b,c,d]:=by refine Pm Tryz.ti64 Tryz.underlying64 rfl (pl:=[(0,1),(1,1),(2,1),(3,1)]) (by simp [Tryz.ti3];try decide) ?_;simp [Instr.fill,Ye e,Ye f,Ye g,Ye h,show(Value.agg #[.int .i64 0,.int .i64 0,.int .i64 0,.int .i64 0]).cells=#[.int .i64 0,.int .i64 0,.int .i64 0,.int .i64 0]from rfl]
end Go.Sky
theorem Go.Proofs.Tryz.ti4:Go.Proofs.Tryz.prog.info? 4=some Go.Proofs.Tryz.t4:=Go.Sky.O8
namespace Go.Sky
open Go.Proofs
end Go.Sky
theorem Go.Proofs.Tryz.ti9:Go.Proofs.Tryz.prog.info? 9=some Go.Proofs.Tryz.t9:=Go.Sky.O8
namespace Go.Sky
open Go.Proofs
variable{v0 v1 c0_0 c0_1 c1_0 c1_1:Value}
theorem b80_:Tryz.prog.built 80 []=some #[.bool false,.string ⟨#[]⟩]:=by refine Pm Tryz.ti80 Tryz.underlying80 rfl (pl:=[(0,1),(1,1)]) (by simp [Tryz.ti4,Tryz.ti9];try decide) ?_;simp [Instr.fill,show(Value.agg #[.bool false,.string ⟨#[]⟩]).cells=#[.bool false,.string ⟨#[]⟩]from rfl]
theorem Ya3(a:v0.oneCell'=true)(b:v1.oneCell'=true):Tryz.prog.built 80 [(0,v0),(1,v1)]=some #[v0,v1]:=by refine Pm Tryz.ti80 Tryz.underlying80 rfl (pl:=[(0,1),(1,1)]) (by simp [Tryz.ti4,Tryz.ti9];try decide) ?_;simp [Instr.fill,Ye a,Ye b,show(Value.agg #[.bool false,.string ⟨#[]⟩]).cells=#[.bool false,.string ⟨#[]⟩]from rfl]
theorem Zif:Tryz.prog.built 82 []=some #[.bool false,.string ⟨#[]⟩,.bool false,.string ⟨#[]⟩]:=by refine Pm Tryz.ti82 Tryz.underlying82 rfl (pl:=[(0,2),(2,2)]) (by simp [Tryz.ti80];try decide) ?_;simp [Instr.fill,show(Value.agg #[.bool false,.string ⟨#[]⟩,.bool false,.string ⟨#[]⟩]).cells=#[.bool false,.string ⟨#[]⟩,.bool false,.string ⟨#[]⟩]from rfl]
theorem Zoi : Tryz.prog.built 82 [(0,.agg #[c0_0,c0_1]),(1,.agg #[c1_0,c1_1])]=some #[c0_0,c0_1,c1_0,c1_1]:=by refine Pm Tryz.ti82 Tryz.underlying82 rfl (pl:=[(0,2),(2,2)]) (by simp [Tryz.ti80];try decide) ?_;simp [Instr.fill,show(Value.agg #[c0_0,c0_1]).cells=#[c0_0,c0_1]from rfl,show(Value.agg #[c1_0,c1_1]).cells=#[c1_0,c1_1]from rfl,show(Value.agg #[.bool false,.string ⟨#[]⟩,.bool false,.string ⟨#[]⟩]).cells=#[.bool false,.string ⟨#[]⟩,.bool false,.string ⟨#[]⟩]from rfl]
theorem Zyc:Tryz.prog.built 89 []=some #[.bool false,.slice none 0 0]:=by refine Pm Tryz.ti89 Tryz.underlying89 rfl (pl:=[(0,1),(1,1)]) (by simp [Tryz.ti33,Tryz.ti4];try decide) ?_;simp [Instr.fill,show(Value.agg #[.bool false,.slice none 0 0]).cells=#[.bool false,.slice none 0 0]from rfl]
theorem Yox(a:v0.oneCell'=true)(b:v1.oneCell'=true):Tryz.prog.built 89 [(0,v0),(1,v1)]=some #[v0,v1]:=by refine Pm Tryz.ti89 Tryz.underlying89 rfl (pl:=[(0,1),(1,1)]) (by simp [Tryz.ti33,Tryz.ti4];try decide) ?_;simp [Instr.fill,Ye a,Ye b,show(Value.agg #[.bool false,.slice none 0 0]).cells=#[.bool false,.slice none 0 0]from rfl]
theorem Zad : Tryz.prog.built 91 [(0,.agg #[c0_0,c0_1]),(1,.agg #[c1_0,c1_1])]=some #[c0_0,c0_1,c1_0,c1_1]:=by refine Pm Tryz.ti91 Tryz.underlying91 rfl (pl:=[(0,2),(2,2)]) (by simp [Tryz.ti89];try decide) ?_;simp [Instr.fill,show(Value.agg #[c0_0,c0_1]).cells=#[c0_0,c0_1]from rfl,show(Value.agg #[c1_0,c1_1]).cells=#[c1_0,c1_1]from rfl,show(Value.agg #[.bool false,.slice none 0 0,.bool false,.slice none 0 0]).cells=#[.bool false,.slice none 0 0,.bool false,.slice none 0 0]from rfl]
theorem Zol{a:Value}(b:v0.oneCell'=true)(c:v1.oneCell'=true)(d:a.oneCell'=true):Tryz.prog.built 130 [(0,v0),(1,v1),(2,a)]=some #[v0,v1,a]:=by refine Pm Tryz.ti130 Tryz.underlying130 rfl (pl:=[(0,1),(1,1),(2,1)]) (by simp [Tryz.ti3,Tryz.ti40];try decide) ?_;simp [Instr.fill,Ye b,Ye c,Ye d,show(Value.agg #[.int .i64 0,.int .i64 0,.slice none 0 0]).cells=#[.int .i64 0,.int .i64 0,.slice none 0 0]from rfl]
end Go.Sky
theorem Go.Proofs.Tryz.ti162:Go.Proofs.Tryz.prog.info? 162=some Go.Proofs.Tryz.t162:=Go.Sky.O8
namespace Go.Sky
open Go.Proofs
def Zqm{a b c d e f g h:Value} : Tryz.prog.built 162 [(0,.agg #[a,b]),(1,.agg #[c,d]),(2,.agg #[e,f]),(3,.agg #[g,h])]=some #[a,b,c,d,e,f,g,h]:=by refine Pm Tryz.ti162 Tryz.underlying162 rfl (pl:=[(0,2),(2,2),(4,2),(6,2)]) (by simp [Tryz.ti80];try decide) ?_;simp [Instr.fill,show(Value.agg #[a,b]).cells=#[a,b]from rfl,show(Value.agg #[c,d]).cells=#[c,d]from rfl,show(Value.agg #[e,f]).cells=#[e,f]from rfl,show(Value.agg #[g,h]).cells=#[g,h]from rfl,show(Value.agg #[.bool false,.string ⟨#[]⟩,.bool false,.string ⟨#[]⟩,.bool false,.string ⟨#[]⟩,.bool false,.string ⟨#[]⟩]).cells=#[.bool false,.string ⟨#[]⟩,.bool false,.string ⟨#[]⟩,.bool false,.string ⟨#[]⟩,.bool false,.string ⟨#[]⟩]from rfl]
end Go.Sky
theorem Go.Proofs.Tryz.ti219:Go.Proofs.Tryz.prog.info? 219=some Go.Proofs.Tryz.t219:=Go.Sky.O8
namespace Go.Sky
open Go.Proofs
end Go.Sky
theorem Go.Proofs.Tryz.ti217:Go.Proofs.Tryz.prog.info? 217=some Go.Proofs.Tryz.t217:=Go.Sky.O8
namespace Go.Sky
open Go.Proofs
def Iq{a b:Value}(c:a.oneCell'=true)(d:b.oneCell'=true):Tryz.prog.built 219 [(0,a),(1,b)]=some #[a,b]:=by refine Pm Tryz.ti219 Tryz.underlying219 rfl (pl:=[(0,1),(1,1)]) (by simp [Tryz.ti217,Tryz.ti4];try decide) ?_;simp [Instr.fill,Ye c,Ye d,show(Value.agg #[.bool false,.slice none 0 0]).cells=#[.bool false,.slice none 0 0]from rfl]
end Go.Sky
theorem Go.Proofs.Tryz.ti276:Go.Proofs.Tryz.prog.info? 276=some Go.Proofs.Tryz.t276:=Go.Sky.O8
namespace Go.Sky
open Go.Proofs
variable{N:Nat}{sc:Nat->Prop}{o:Oper}{env:Pw}{r:Value}{t:TypeId}
theorem Yub{a b c d e f g h:Value} : Tryz.prog.built 276 [(0,.agg #[a,b,c,d]),(1,.agg #[e,f,g,h])]=some #[a,b,c,d,e,f,g,h]:=by refine Pm Tryz.ti276 Tryz.underlying276 rfl (pl:=[(0,4),(4,4)]) (by simp [Tryz.ti82];try decide) ?_;simp [Instr.fill,show(Value.agg #[a,b,c,d]).cells=#[a,b,c,d]from rfl,show(Value.agg #[e,f,g,h]).cells=#[e,f,g,h]from rfl,show(Value.agg #[.bool false,.string ⟨#[]⟩,.bool false,.string ⟨#[]⟩,.bool false,.string ⟨#[]⟩,.bool false,.string ⟨#[]⟩]).cells=#[.bool false,.string ⟨#[]⟩,.bool false,.string ⟨#[]⟩,.bool false,.string ⟨#[]⟩,.bool false,.string ⟨#[]⟩]from rfl]
def J{α:Sort _}{a:α} : a=a:=rfl
abbrev Qe (P:Program) (f:FuncId) (a:Array Value) (p:List Pc) (v:Value):Prop:=Cal P f a p false (G:=Unit) (λ_=>True) (λ_=>v) (λ_=>[])
abbrev rX (x y:Int):Value:= .agg #[.bool (decide (x<0)),.string (Qp x.natAbs),.bool (decide (y<0)),.string (Qp y.natAbs)]
def vB{a b:Bool}(h:a=b):Value.bool a=Value.bool b:=aD _ h
def dF{P:Program}{H:Hp}(h:Lk P N sc o env H r)(e:r= .bool false):Lk P N sc o env H (.bool false):=Yz _ h e
def dT{P:Program}{H:Hp}(h:Lk P N sc o env H r)(e:r= .bool true):Lk P N sc o env H (.bool true):=Yz _ h e
def K1{t0:Sort _}{a:t0} : a=a/\True:=⟨rfl,aA⟩
def K2{t0:Sort _}{a:t0}{t1:Sort _}{b:t1} : a=a/\b=b/\True:=⟨rfl,rfl,aA⟩
def K3{t0:Sort _}{a:t0}{t1:Sort _}{b:t1}{t2:Sort _}{c:t2} : a=a/\b=b/\c=c/\True:=⟨rfl,rfl,rfl,aA⟩
def K4{t0:Sort _}{a:t0}{t1:Sort _}{b:t1}{t2:Sort _}{c:t2}{t3:Sort _}{d:t3} : a=a/\b=b/\c=c/\d=d/\True:=⟨rfl,rfl,rfl,rfl,aA⟩
def K5{t0:Sort _}{a:t0}{t1:Sort _}{b:t1}{t2:Sort _}{c:t2}{t3:Sort _}{d:t3}{t4:Sort _}{e:t4} : a=a/\b=b/\c=c/\d=d/\e=e/\True:=⟨rfl,rfl,rfl,rfl,rfl,aA⟩
def K6{t0:Sort _}{a:t0}{t1:Sort _}{b:t1}{t2:Sort _}{c:t2}{t3:Sort _}{d:t3}{t4:Sort _}{e:t4}{t5:Sort _}{f:t5} : a=a/\b=b/\c=c/\d=d/\e=e/\f=f/\True:=⟨rfl,rfl,rfl,rfl,rfl,rfl,aA⟩
def K7{t0:Sort _}{a:t0}{t1:Sort _}{b:t1}{t2:Sort _}{c:t2}{t3:Sort _}{d:t3}{t4:Sort _}{e:t4}{t5:Sort _}{f:t5}{t6:Sort _}{g:t6} : a=a/\b=b/\c=c/\d=d/\e=e/\f=f/\g=g/\True:=⟨rfl,rfl,rfl,rfl,rfl,rfl,rfl,aA⟩
def K8{t0:Sort _}{a:t0}{t1:Sort _}{b:t1}{t2:Sort _}{c:t2}{t3:Sort _}{d:t3}{t4:Sort _}{e:t4}{t5:Sort _}{f:t5}{t6:Sort _}{g:t6}{t7:Sort _}{h:t7} : a=a/\b=b/\c=c/\d=d/\e=e/\f=f/\g=g/\h=h/\True:=⟨rfl,rfl,rfl,rfl,rfl,rfl,rfl,rfl,aA⟩
def K10{t0:Sort _}{a:t0}{t1:Sort _}{b:t1}{t2:Sort _}{c:t2}{t3:Sort _}{d:t3}{t4:Sort _}{e:t4}{t5:Sort _}{f:t5}{t6:Sort _}{g:t6}{t7:Sort _}{h:t7}{t8:Sort _}{i:t8}{t9:Sort _}{j:t9} : a=a/\b=b/\c=c/\d=d/\e=e/\f=f/\g=g/\h=h/\i=i/\j=j/\True:=⟨rfl,rfl,rfl,rfl,rfl,rfl,rfl,rfl,rfl,rfl,aA⟩
def K12{t0:Sort _}{c:t0}{t1:Sort _}{d:t1}{t2:Sort _}{e:t2}{t3:Sort _}{f:t3}{t4:Sort _}{g:t4}{t5:Sort _}{h:t5}{t6:Sort _}{i:t6}{t7:Sort _}{j:t7}{t8:Sort _}{k:t8}{t9:Sort _}{l:t9}{t10:Sort _}{a:t10}{t11:Sort _}{b:t11} : c=c/\d=d/\e=e/\f=f/\g=g/\h=h/\i=i/\j=j/\k=k/\l=l/\a=a/\b=b/\True:=⟨rfl,rfl,rfl,rfl,rfl,rfl,rfl,rfl,rfl,rfl,rfl,rfl,aA⟩
def K13{t0:Sort _}{d:t0}{t1:Sort _}{e:t1}{t2:Sort _}{f:t2}{t3:Sort _}{g:t3}{t4:Sort _}{h:t4}{t5:Sort _}{i:t5}{t6:Sort _}{j:t6}{t7:Sort _}{k:t7}{t8:Sort _}{l:t8}{t9:Sort _}{m:t9}{t10:Sort _}{a:t10}{t11:Sort _}{b:t11}{t12:Sort _}{c:t12} : d=d/\e=e/\f=f/\g=g/\h=h/\i=i/\j=j/\k=k/\l=l/\m=m/\a=a/\b=b/\c=c/\True:=⟨rfl,rfl,rfl,rfl,rfl,rfl,rfl,rfl,rfl,rfl,rfl,rfl,rfl,aA⟩
def Ki:=@Go.Proofs.Tryz.call202
def iA3:=@Go.Proofs.Tryz.isAgg3
def Ii:=@Go.Proofs.Tryz.sizeOf232
def Kx:=@Go.Proofs.Tryz.sizeOf3
def Zc7:=@Go.Proofs.Tryz.sizeOf33
def Ir:=@Go.Proofs.Tryz.sizeOf35
def Ks:=@Go.Proofs.Tryz.sizeOf80
def Za2:=@Go.Proofs.Tryz.sizeOf89
def Zbj:=@Go.Proofs.Tryz.underlying121
def Zl5:=@Go.Proofs.Tryz.underlying130
def Zo7:=@Go.Proofs.Tryz.underlying166
def An:=@Go.Proofs.Tryz.underlying193
def Zjq:=@Go.Proofs.Tryz.underlying197
def Oi:=@Go.Proofs.Tryz.underlying217
def Ybd:=@Go.Proofs.Tryz.underlying230
def Zbi:=@Go.Proofs.Tryz.underlying232
def Zl4:=@Go.Proofs.Tryz.underlying242
def Zo6:=@Go.Proofs.Tryz.underlying243
def Zo5:=@Go.Proofs.Tryz.underlying268
def uT3:=@Go.Proofs.Tryz.underlying3
def Py:=@Go.Proofs.Tryz.underlying33
def Dl:=@Go.Proofs.Tryz.underlying35
def Lz:=@Go.Proofs.Tryz.underlying38
def Ypu:=@Go.Proofs.Tryz.underlying39
def Lc:=@Go.Proofs.Tryz.underlying40
def Zim:=@Go.Proofs.Tryz.underlying46
def Ko:=@Go.Proofs.Tryz.underlying47
def uT5:=@Go.Proofs.Tryz.underlying5
def Zkg:=@Go.Proofs.Tryz.underlying50
def Yfk:=@Go.Proofs.Tryz.underlying61
def uT9:=@Go.Proofs.Tryz.underlying9
open Go.ChangeShapes Go.WideShapes Go.ChangeAt Go.RowKit Go.Joins Go.Deep
variable {P:Program} {W:World} {H:Type} {enc:TypeId×Value->H}
theorem Zkc{α:Type}[Inhabited α]{p:Nat->α->Prop} : ∀n,(∀i,i<n->∃x,p i x)->∃xs:List α,xs.length=n/\∀i x,xs[i]? = some x->p i x
 | 0,_=>⟨[],rfl,λi x h=>by simp at h⟩
 | n+1,h=>by
  obtain⟨xs,c,d⟩:=Zkc n λi hi=>h i O1;obtain⟨x,e⟩:=h n O1;refine⟨xs ++ [x],by simp [c],λi y a=>?_⟩;rcases aW i n with hi|hi
  .rw [eN O1]at a;exact d i y a
  .rw [fT O1,c]at a;rcases aU (i-n)with b|b
   .rw [b]at a;simp at a;subst a;rw [show i=n by omega];exact e
   .rw [bX O9]at a;cases a
theorem Zm1{r:Reach}{i:Nat}{e:TypeId}{a:Addr}{g c:Nat}(hs:P.underlying t=some (.slice e))(b:Value.okWide P W r i t (.slice (some a) g c)):a.spot=none/\a.block<W.heap.size:=by
 unfold Value.okWide at b;rw [hs]at b;simp only at b;unfold Cell.okWide at b;rw [hs]at b;simp only at b;unfold Cell.ok at b;rw [hs]at b;simp only at b;obtain⟨_,_,_,j,k,d,f,_⟩:=b;refine⟨j,?_⟩;unfold World.shape? at f;rcases aW a.block W.heap.size with h|h
 .exact h
 .rw [Array.getElem?_eq_none h]at f;simp at f
end Go.Sky
namespace Go.Sky
variable{P:Program}{f:FuncId}{args:Array Value}{pre:List Pc}{φ:Value×List (Int×SL)->Prop}{x:Int}{R:List Int}
theorem Cal.toS     {al:Bool} 
  (h:Cal P f args pre al (G:=Value×List (Int×SL)) φ (λr=>r.1) (λr=>[pp r.1 r.2])) :
  Cal P f args pre al (G:=SL×List (Int×SL)) (λr=>φ (Xk r.1,r.2)) (λr=>Xk r.1) (λr=>[pp (Xk r.1) r.2]):=λw l=>by
 refine(h w l).mono λe n ⟨g,k,m,j,hi⟩=>?_;obtain⟨v,z⟩:=g;have b:=(hi _ (bR ..)).1;obtain⟨a,c,d,_⟩:=Zc n b;have i:v=Xk (a,z.length,c):=d;subst i;exact⟨((a,z.length,c),z),k,m,j,hi⟩
abbrev qT (z:SL×List (Int×SL)):Pc:=pp (Xk z.1) z.2
abbrev T0:SL×List (Int×SL):=((none,0,0),[])
abbrev Bo (zs:List (SL×List (Int×SL))):List (List Int):=zs.map λz=>Zb z.2
set_option maxRecDepth 20000
theorem Zib{K:Nat}{f:Nat->Int}{n:Nat}(h:∀i,i<n->bl (f i).natAbs<=K)(a:n<=1023):bl (Yl f n).natAbs<=K+10:=by rw [Qs];have b:=Ya0 h;have c:n*(2^K-1)<=1023*(2^K-1):=aJ _ a;grind
def Ln(zs:List (Int×SL))(z:Int×SL):Zb (zs ++ [z])=Zb zs ++ [z.1]:=O6
def Yrq(p q:List Int):tzl (mk (max p.length q.length) λt=>cf p t+cf q t)=Gb p q:=rfl
theorem Zzg(p:List Int)(c:Int):tzl (mk p.length λt=>cf p t*c)=Zt p c:=by rw [Zsc p (· * c)];rfl
def Yrk(p q:List Int):tzl (mk (p.length+q.length-1) λt=>Yl (λk=>cf p k*cf q (t-k)) (t+1))=Qx p q:=rfl
theorem Fh{m:Nat}(h:bl x.natAbs<=m)(n:Nat):bl (x^n).natAbs<=n*m+1:=by
 rcases aU n with a|a
 .rw [a,dC];have:bl (1:Int).natAbs=1:=by rfl
  omega
 .have:=Fl x h n a;omega
theorem Ok(p:List Int)(c:Int):(Zt p c).length<=p.length:=by unfold Zt;grind [Ns,List.length_map]
theorem Yk6(p q:List Int):(Gb p q).length<=max p.length q.length:=by unfold Gb;grind [Ns,Xa]
theorem bl_i1{i:Nat}(h:i<=1000):bl ((i:Int)+1).natAbs<=1000000000:=by have a:=Pz (show((i:Int)+1).natAbs<=1001 by omega);have b:bl 1001<=10:=O4;omega
theorem Ym8{p:List Int}{y:Int}(hs:Sz 1000000 p)(a:∀k,bl (x^k).natAbs<=k*1000000+1)(b:∀k,bl (y^k).natAbs<=k*1000000+1)(j:p.length<=30)(t:Nat):bl (cf p t*(x^t*y^(p.length-1-t))).natAbs<=100000000:=by
 rcases aW t p.length with h|h
 .have c:=a t;have d:=b (p.length-1-t);have e:=Zy (x^t) (y^(p.length-1-t));have g:=Zy (cf p t) (x^t*y^(p.length-1-t));have i:=hs t;omega
 .rw [Yr h,cK];decide
theorem Nz{y:Int}(h:y≠0):∀n:Nat,y^n≠0
 | 0=>O6
 | n+1=>by rw [dD];exact bB (Nz h n) h
theorem Zzt(xs ys:List Int):xs.map wr=ys.map wr↔xs=ys:=by refine⟨λh=>?_,λh=>O5⟩;exact List.map_inj_right (λx y h=>Yhr (aD Prod.fst h) (aD Prod.snd h)) |>.1 h
theorem Cal.imp2{m p q:Pc}{al:Bool}{G:Type}{φ:G->Prop}{Yt:G->Value}{i:G->List Pc}(h:Cal P f args (m::p::pre) al φ Yt i)(y:∀w,q.holds w->p.holds w)(u:∀b,p.fp b->q.fp b) :
  Cal P f args (m::q::pre) al φ Yt i:=λw k=>by
 refine(h w λr a=>?_).mono ?_
 .rcases aX.1 a with rfl|a
  .exact k _ (bR ..)
  .rcases aX.1 a with rfl|a
   .exact y w (k q (bH _ (bR ..)))
   .exact k r (bH _ (bH _ a))
 .rintro e B ⟨g,t,v,j,d⟩;refine⟨g,t,v,j,λz l=>?_⟩;obtain⟨n,o,s⟩:=d z l;refine⟨n,o,λb j=>?_⟩;rcases s b j with h|⟨h,r,a,c⟩
  .exact .inl h
  .refine .inr ⟨h,?_⟩;rcases aX.1 a with rfl|a
   .exact⟨r,bR ..,c⟩
   .rcases aX.1 a with rfl|a
    .exact⟨q,bH _ (bR ..),u b c⟩
    .exact⟨r,bH _ (bH _ a),c⟩
def shm(q:List Int)(c:Int)(s i:Nat):List Int:=mk (s+i) λt=>if t<s then 0 else c*cf q (t-s)
theorem Zgq(q:List Int)(c:Int)(s:Nat):List.replicate s 0=shm q c s 0:=by rw [Zrj];unfold shm;simp_all [Ba,aM]
theorem Zgr(q:List Int)(c:Int)(s i:Nat):shm q c s i ++ [c*cf q i]=shm q c s (i+1):=by unfold shm;rw [show s+(i+1)=s+i+1 by rfl,Fk,aK O6,show s+i-s=i by simp]
theorem Ztw(q:List Int)(c:Int)(s t:Nat):cf (shm q c s q.length) t=if s<=t/\t<s+q.length then c*cf q (t-s)else 0:=by unfold shm;rw [Ml];omega
section
variable {p q:List Int}
theorem Zfs(c:0<q.length)(b:q.length<=p.length):∀j,j<=p.length-q.length+1->∀t,p.length-j<=t->cf (Pq p q j) t=0
 | 0,_,t,d=>Yr ‹_›
 | j+1,e,t,d=>by
  rcases aW t _ with h|h
  .unfold Pq;rw [Zh8 (by exact h)];by_cases a:t=p.length-1-j
   .subst a;rw [show p.length-1-j-(p.length-1-j-(q.length-1))=q.length-1 by omega];omega
   .rw [Zfs c b j O1 t O1,cK,aK O1];rfl
  grind [Yr,Ob]
theorem Zdf(b:0<q.length)(a:q.length<=p.length){j:Nat} : ∀k,j+k<=p.length-q.length+1->(∀t,p.length-(j+k)<=t->cf (Pq p q j) t=0)->∀t,cf (Pq p q (j+k)) t=cf (Pq p q j) t*cf q (q.length-1)^k
 | 0,_,_,t=>O6
 | k+1,e,c,t=>by
  have d:=Zdf b a k O1 (λt g=>c t O1);rcases aW t p.length with h|h
  .show cf (Zgw q (Pq p q (j+k)) _) t=_;rw [Zh8 (by grind [Ob]),d _]
   all_goals grind
  simp_all [Yr,Ob,cK]
def Co(p q R:List Int)(j:Nat):Prop:=Tr R/\∀t,cf R t=cf (Pq p q j) t*cf q (q.length-1)^(p.length-q.length+1-j)
theorem Zrh:Co p q (Zt p (cf q (q.length-1)^(p.length-q.length+1))) 0:=⟨Ql _ _,λt=>by rw [Yo];rfl⟩
theorem Zy6{j:Nat}(l:0<q.length)(i:q.length<=p.length)(a:cf q (q.length-1)≠0)(m:j<=p.length-q.length+1)(h:Co p q R j)(r:q.length<=R.length):j<=p.length-R.length/\p.length-R.length<=p.length-q.length/\R.length<=p.length/\Co p q R (p.length-R.length):=by
 have k:=λn=>Nz a n;have b:=h.1.mem (λe=>O5);have c:R.length-1<p.length-j:=by
  rcases aW _ _ with c|c
  .omega
  .rw [h.2,Zfs l i j m _ c]at b;omega
 have g:j<=p.length-R.length:=O1;refine⟨g,O1,O1,h.1,λt=>?_⟩;have o:∀t,p.length-(j+(p.length-R.length-j))<=t->cf (Pq p q j) t=0:=λt s=>by have d:=h.2 t;grind [Yr,Int.mul_eq_zero]
 have d:=Zdf l i _ O1 o t;rw [show j+(p.length-R.length-j)=p.length-R.length by omega]at d;rw [d,h.2,fF,<-Int.pow_add];grind
theorem Zj0(a:cf q (q.length-1)≠0)(h:Co p q R (p.length-R.length))(d:0<q.length)(b:q.length<=R.length)(c:R.length<=p.length):cf R (R.length-1)/cf q (q.length-1)=cf (Pq p q (p.length-R.length)) (R.length-1)*cf q (q.length-1)^(p.length-q.length-(p.length-R.length)):=by rw [h.2,show p.length-q.length+1-(p.length-R.length)=p.length-q.length-(p.length-R.length)+1 by omega,dD,<-fF];simp_all
theorem Zri(a:cf q (q.length-1)≠0)(h:Co p q R (p.length-R.length))(d:0<q.length)(b:q.length<=R.length)(c:R.length<=p.length) :
  Co p q (Ek R (shm q (cf R (R.length-1)/cf q (q.length-1)) (R.length-q.length) q.length)) (p.length-R.length+1):=by
 refine⟨Zaj _ _,λt=>?_⟩;rw [Im,Ztw,Zj0 a h d b c,h.2];rcases aW t p.length with e|e
 .show _=cf (Zgw q _ _) t*_;rw [Zh8 (by grind [Ob])];rw [show p.length-q.length+1-(p.length-R.length)=p.length-q.length-(p.length-R.length)+1 by omega];split<;>grind
 .rw [Yr (by grind [Ob]),Yr (p:=Pq p q (p.length-R.length+1)) (by grind [Ob]),if_neg O1];simp
theorem Zvq{j:Nat}(d:0<q.length)(c:q.length<=p.length)(b:cf q (q.length-1)≠0)(i:j<=p.length-q.length+1)(h:Co p q R j)(g:R.length<q.length):R=Qu p q:=by
 unfold Qu;rw [aK O1];refine h.1.ext (Qn _) λt=>?_;have e:∀t,p.length-(j+(p.length-q.length+1-j))<=t->cf (Pq p q j) t=0:=λt k=>by have a:=h.2 t;grind [Yr,Int.mul_eq_zero,Nz]
 have a:=Zdf d c _ O1 e t;rw [show j+(p.length-q.length+1-j)=p.length-q.length+1 by omega]at a;rw [Ly,a,h.2]
theorem Zy7{j:Nat}(g:j<=p.length-q.length+1)(h:Co p q R j):Sz (Qc p+(p.length-q.length+1)*(Qc q+1)+1) R:=λt=>by
 rw [h.2];have a:=Ae p q j t;have b:=Fh (Pd q (q.length-1)) (p.length-q.length+1-j);have c:=Zy (cf (Pq p q j) t) (cf q (q.length-1)^(p.length-q.length+1-j));have d:(p.length-q.length+1-j)*Qc q<=(p.length-q.length+1-j)*(Qc q+1):=bC _ O6;have e:j*(Qc q+1)+(p.length-q.length+1-j)*(Qc q+1)=(p.length-q.length+1)*(Qc q+1):=by rw [<-cN];grind
 omega
theorem Zvp{j:Nat}(h:Co p q R j):R.length<=p.length:=by
 rcases aW p.length R.length with a|a
 .have b:=h.1.mem (λe=>O5);rw [h.2,Yr (by grind [Ob])]at b;omega
 omega
end
end Go.Sky
namespace Go.Sky
variable{c:Int}{p q R:List Int}
section
variable {P:Program} {N:Nat} {sc:Nat->Prop} {env env':Pw} {H H':Hp}
theorem Ar(n k:Nat):∀a w,Sat N sc env H a w->Sat N sc env ((n,Nf qI (List.replicate k I0))::H) a w:=λa w hs=>by
 have e:∀z,z∈List.replicate k I0->z=I0:=λz e=>(List.mem_replicate.1 e).2;refine hs.add n _ (λz h=>by rw [e z h];exact Ag 1 _ w) (λj l _ _ Ff b g i=>?_) (λb g=>?_)
 .obtain⟨z,f,d⟩:=g;rw [e z f]at d;cases d.2
 .obtain⟨z,f,d⟩:=g;rw [e z f]at d;cases d.2
end
theorem Ye1{r l:Int}{n A B:Nat}(h:c=r*l^n)(e:bl r.natAbs<=A)(b:bl l.natAbs<=B):bl c.natAbs<=A+(n*B+1):=by
 rw [h];have d:=Zy r (l^n);rcases aU n with a|a
 .rw [a];grind
 .have:=Fl l b n a;omega
theorem Yq8(e:q.length<=R.length)(b:q.length<=p.length)(d:R.length<=p.length) :
  Qc p+(p.length-R.length)*(Qc q+1)+((p.length-q.length-(p.length-R.length))*Qc q+1)<=Qc p+(p.length-q.length+1)*(Qc q+1):=by
 have a:(p.length-R.length)*(Qc q+1)+(p.length-q.length-(p.length-R.length))*(Qc q+1)=(p.length-q.length)*(Qc q+1):=by rw [<-cN];grind
 grind
theorem Yjz{r:Int}(h:c=r*cf q (q.length-1)^(p.length-q.length-(p.length-R.length)))(a:bl r.natAbs<=Qc p+(p.length-R.length)*(Qc q+1))(hs:Sz (Qc q) q)(j:q.length<=R.length)(g:q.length<=p.length)(i:R.length<=p.length)(t:Nat) :
  bl (c*cf q t).natAbs<=Qc p+(p.length-q.length+1)*(Qc q+1)+1:=by
 have b:=Ye1 h a (hs _);have d:=Zy c (cf q t);have e:=hs t;have f:(p.length-R.length)*(Qc q+1)+(p.length-q.length-(p.length-R.length))*(Qc q+1)=(p.length-q.length)*(Qc q+1):=by rw [<-cN];grind
 grind
theorem Zqz{s i n:Nat}(h:∀t,bl (c*cf q t).natAbs<=n):Sz n (shm q c s i):=by
 refine Bm λt _=>?_;split
 .exact bE _
 grind
end Go.Sky
namespace Go.Sky
variable{q p:List Int}{k M m i:Nat}{x:Int}{P:Program}{sc:Nat->Prop}{ops:Array Oper}{rest:List (Nat×Nat)}
theorem Yme(zs:List (Int×SL))(k:Nat)(z:Int×SL):Zb (zs.set k z)=(Zb zs).set k z.1:=by simp [Zb,List.map_set]
theorem Ys5{D:List Int}(h:k+q.length<=D.length):Ek (tzl D) (tzl (shm q (cf D (k+q.length-1)/cf q (q.length-1)) k q.length))=tzl (Zhx q D k):=by
 refine(Zaj _ _).ext (Qn _) λt=>?_;rw [Im,Ly,Ly,Ly,Ztw];unfold Zhx;rw [Ml];by_cases a:t<D.length
 .rw [aM a];rfl
 .rw [aK a,aK O1,Yr O1];rfl
theorem div_c{A:Nat}(c:cf q (q.length-1)≠0)(b:x%cf q (q.length-1)=0)(a:bl x.natAbs<=A)(t:Nat):bl (x/cf q (q.length-1)*cf q t).natAbs<=A+(Qc q+1):=by have d:=Hi (fK b) a;have e:=Zy (x/cf q (q.length-1)) (cf q t);have f:=Pd q t;omega
def Zxf(p q:List Int)(j:Nat):Xu p q (j+1)=Zhx q (Xu p q j) (p.length-q.length-j):=rfl
theorem Ynk{j:Nat}(h:q.length<=p.length)(a:j<=p.length-q.length):Ek (tzl (Xu p q j)) (tzl (shm q (cf (Xu p q j) (p.length-q.length-j+q.length-1)/cf q (q.length-1)) (p.length-q.length-j) q.length))=tzl (Xu p q (j+1)):=by rw [Zxf];exact Ys5 (by rw [Fd];omega)
def Yhc{j:Nat}(a:j<p.length-q.length+1):(Zh1 p q j).set (p.length-q.length-j) (cf (Xu p q j) (p.length-q.length-j+q.length-1)/cf q (q.length-1))=Zh1 p q (j+1):=Zxg a
theorem div_sz{j:Nat}(a:j<=p.length-q.length+1)(b:∀k,p.length-q.length<k+j->k<=p.length-q.length->Ms p q k)(e:Qc p+(p.length-q.length+1)*(Qc q+1)<=M)(t:Nat):bl (cf (Xu p q j) t).natAbs<=M:=by have c:=Zbl p q j a b t;have d:j*(Qc q+1)<=(p.length-q.length+1)*(Qc q+1):=aJ _ a;omega
theorem Ys4{j:Nat}(e:j<=p.length-q.length)(b:∀k,p.length-q.length<k+j->k<=p.length-q.length->Ms p q k)(d:Qc p+(p.length-q.length+1)*(Qc q+1)<=M)(t:Nat):bl (cf (Xu p q j) t).natAbs+(Qc q+1)<=M:=by have c:=Zbl p q j O1 b t;have a:(j+1)*(Qc q+1)<=(p.length-q.length+1)*(Qc q+1):=aJ _ O1;rw [dG]at a;omega
theorem Ys2(c:Qc p+(p.length-q.length+1)*(Qc q+1)<=M)(a:∀k,k<=p.length-q.length->Ms p q k){j:Nat}:Sz M (Zh1 p q j):=by
 refine Bm λt e=>?_;split
 .unfold Zxp dq;have b:=div_sz (p:=p) (q:=q) (j:=p.length-q.length-t) O1 (λk _ d=>a k d) c (t+q.length-1);exact Hi (fK (a t O1)) b
 .simp [Ip]
theorem Yro(c:p≠[])(a:q.length<=p.length)(d:∀k,k<=p.length-q.length->Ms p q k){n:Nat}(b:n=(tzl (Xu p q (p.length-q.length+1))).length):decide (n=0)=decide (pdv p q):=by
 subst b;refine bF.2 ⟨λh=> .inr ⟨a,d,aC h⟩,λh=>?_⟩;rcases h with h|⟨_,_,h⟩
 .exact absurd h c
 .rw [h];rfl
theorem pdv_no(e:p≠[])(d:k<=p.length-q.length)(h:¬Ms p q k):decide (pdv p q)=false:=aI λc=>by
 rcases c with a|⟨_,b,_⟩
 .exact e a
 .exact h (b k d)
theorem Yrn(c:p≠[])(h:p.length<q.length):decide (pdv p q)=false:=aI λb=>by
 rcases b with a|⟨d,_,_⟩
 .exact c a
 .omega
def Yrm(a:p=[]):decide (pdv p q)=true:=aG (.inl a)
def Dr(a b:Int):Nat->List Int
 | 0=>[1]
 | i+1=>Qx (Dr a b i) (tzl [a,b])
def Zvf(p:List Int)(a b d:Int):Nat->List Int
 | 0=>[]
 | i+1=>Gb (Zvf p a b d i) (Zt (Dr a b i) (cf p i*d^(p.length-1-i)))
def hs(f:Nat->PS):Nat->PS
 | 0=>0
 | n+1=>hs f n+f n
theorem Zw3{f g:Nat->PS} : ∀{n:Nat},(∀k,k<n->f k=g k)->hs f n=hs g n
 | 0,_=>rfl
 | n+1,h=>by show hs f n+f n=hs g n+g n;rw [Zw3 λk a=>h k O1,h n O1]
theorem Zw2(f:Nat->PS):∀n,hs f (n+1)=f 0+hs (λk=>f (k+1)) n
 | 0=>by show(0)+f 0=f 0+0;grind
 | n+1=>by show hs f _+f _=f 0+(hs _ n+f _);rw [Zw2 f n,PS.add_assoc']
theorem Ymi(f:Nat->PS)(c:PS):∀n,hs (λk=>f k*c) n=hs f n*c
 | 0=>by show(0)=0*c;rw [PS.zero_mul']
 | n+1=>by show hs _ n+f n*c=(hs f n+f n)*c;rw [Ymi f c n,PS.distrib_r]
theorem Zrr(p:List Int):ps (tzl p)=ps p:=PS.ext' λi=>Ly p i
theorem Yty(a b:Int)(i:Nat):cf [a,b] i=if i=0 then a else if i=1 then b else 0:=by
 rcases i with _|_|i
 all_goals rfl
theorem Zuv{f:Nat->Int} : ∀{n:Nat},(∀k,k<n->f k=0)->Yl f n=0
 | 0,_=>rfl
 | n+1,h=>by rw [Yp,Zuv λk a=>h k O1,h n O1];rfl
theorem Yc5(f:PS)(a b:Int)(t:Nat):(f*ps [a,b]).c t=f.c t*a+if t=0 then 0 else f.c (t-1)*b:=by
 rw [PS.mul_c];simp only [Md,Yty];rw [Yp,fE,aM rfl];rcases t with _|t
 .simp [Yl]
 .rw [Yp,show t+1-t=1 by simp,aK O6,aM rfl,Zuv λk c=>O5,kD];omega
theorem Ykn:ps [1]=1:=PS.ext' λi=>by
 rcases i with _|i
 all_goals rfl
theorem ps_nil:ps []=0:=PS.ext' λi=>by grind [Md,PS.zero_c,Yr]
theorem C_c(n:Int)(i:Nat):(PS.C n).c i=if i=0 then n else 0:=by rfl
theorem Zfb(a b:Int)(i:Nat):ps (Dr a b (i+1))=ps (Dr a b i)*ps [a,b]:=by show ps (Qx _ _)=_;rw [Zk9,Zrr]
theorem Zrs(p:List Int)(a b d:Int)(j:Nat):ps (Kl p a b d (j+1))=ps (Kl p a b d j)*ps [a,b]+PS.C (cf p (p.length-2-j)*d^(j+1)):=PS.ext' λt=>by
 rw [PS.add_c,Yc5,C_c,Md,Zqh,Ml,Md,Md];by_cases h:t<(Kl p a b d j).length+1
 .omega
 .rw [aK h,Yr O1,Yr O1,aK O1,aK O1];simp
theorem Ycn(p:List Int)(a b d:Int):∀j,j<=p.length-1->ps (Kl p a b d j)=hs (λk=>PS.C (cf p (p.length-1-j+k)*d^(j-k))*ps (Dr a b k)) (j+1)
 | 0,_=>by
  show _=(0)+PS.C _*ps [1];rw [Ykn,dC,fH,show(0)+PS.C _*1=PS.C _ by rw [PS.mul_one',PS.zero_add']];refine PS.ext' λt=>?_;rcases t with _|t
  all_goals rfl
 | j+1,h=>by
  rw [Zrs,Ycn p a b d j O1,<-Ymi,Zw2 _ (j+1)];have c:hs (λk=>PS.C (cf p (p.length-1-j+k)*d^(j-k))*ps (Dr a b k)*ps [a,b]) (j+1)=hs (λk=>PS.C (cf p (p.length-1-(j+1)+(k+1))*d^(j+1-(k+1)))*ps (Dr a b (k+1))) _:=Zw3 λk e=>by grind [Zfb,PS.mul_assoc']
  show _+_=PS.C _*ps [1]+_;grind [Ykn,PS.mul_one',PS.add_comm']
theorem Ycm(p:List Int)(a b d:Int):∀n,ps (Zvf p a b d n)=hs (λk=>PS.C (cf p k*d^(p.length-1-k))*ps (Dr a b k)) n
 | 0=>ps_nil
 | n+1=>by show ps (Gb _ _)=hs _ n+_;rw [Yrg,Ycm p a b d n,Zi3]
def Ypx(p:List Int)(a b d:Int):∀n,Tr (Zvf p a b d n)
 | 0=>Tr.nil
 | n+1=>Ybg _
theorem Yqw(p:List Int)(a b d:Int):Zvf p a b d p.length=Lv p a b d:=by
 unfold Lv;split
 .rename_i h;rw [h];rfl
 .refine(Ypx p a b d _).ps_inj (Qn _) ?_;rw [Zrr,Ycm,Ycn p a b d _ (aF _),show p.length-1+1=p.length by omega];simp
theorem Ziw(a b:Int):∀i,(Dr a b i).length<=i+1
 | 0=>aF _
 | i+1=>by have c:=Ziw a b i;have d:(tzl [a,b]).length<=2:=Ns _;have e:(Dr a b (i+1)).length<=(Dr a b i).length+(tzl _).length-1:=aB (Ns _) (by rw [Xa];exact aF _);omega
theorem Zmj{a b:Int}{m:Nat}(d:bl a.natAbs<=m)(e:bl b.natAbs<=m):∀i,Sz (i*(m+1)+1) (Dr a b i)
 | 0=>λt=>by
  rcases t with _|t
  .show bl 1<=_;grind [Yor]
  .show bl (cf [1] _).natAbs<=_;grind [Yr,Ip]
 | i+1=>λt=>by have c:=Zmj d e i;rw [<-Md,Zfb,Yc5,Md,Md];have f:=c t;have g:=c (t-1);grind [Zy,Lp,Ip]
theorem Zt5 (k:Nat){d:Int}{A:Nat}(c:bl x.natAbs<=A)(b:bl d.natAbs<=m):bl (x*d^k).natAbs<=A+k*m:=by
 have h:=Zia 0 k (n:=1) (d:=d) (m:=max m 1) c (by grind [Yor]) O1;rcases aU k with a|a
 .grind
 .have e:=Zy x (d^k);have f:=Fl d b k a;omega
theorem Zpj (p:List Int){a b d:Int}(c:bl a.natAbs<=m)(e:bl b.natAbs<=m)(f:bl d.natAbs<=m)(hi:i<p.length)(t:Nat) :
  bl (cf (Zt (Dr a b i) (cf p i*d^(p.length-1-i))) t).natAbs<=Qc p+p.length*(m+1)+1:=by
 rw [Yo];have g:=Zy (cf (Dr a b i) t) (cf p i*d^(p.length-1-i));have h:=Zmj c e i t;have j:=Zt5 (p.length-1-i) (Pd p i) f;have l:i*(m+1)+(p.length-1-i)*(m+1)+(m+1)=p.length*(m+1):=by rw [<-cN,<-dG];grind
 grind
theorem Yb2 (p:List Int){a b d:Int}{m:Nat}(c:bl a.natAbs<=m)(e:bl b.natAbs<=m)(f:bl d.natAbs<=m):∀i,i<=p.length->Sz (Qc p+p.length*(m+1)+1+i) (Zvf p a b d i)
 | 0,_=>Sz.nil _
 | i+1,h=>λt=>by have g:=Yb2 p c e f i O1 t;have j:=Zpj p c e f (i:=i) O1 t;show bl (cf (Gb _ _) t).natAbs<=_;rw [Dh];grind [Lp]
theorem Zve{p:List Int}{a b d:Int} : ∀i,(Zvf p a b d i).length<=i+1
 | 0=>bE _
 | i+1=>by have c:=Yk6 (Zvf p a b d i) (Zt (Dr a b i) (cf p i*d^(p.length-1-i)));have e:=Zve (p:=p) (a:=a) (b:=b) (d:=d) i;have f:=Ziw a b i;have g:(Zt (Dr a b i) (cf p i*d^(p.length-1-i))).length<=(Dr a b i).length:=aB (Ns _) O6;show(Gb _ _).length<=_;omega
abbrev RW:=List (Bool×ByteArray)
abbrev qR (z:SL×RW):Pc:=Yx 2 Yae (Xk z.1) z.2
abbrev qZ (z:SL×List Int):Pc:=Yx 2 wv (Xk z.1) z.2
abbrev R0:SL×RW:=((none,0,0),[])
def short1(r:RW):Bool:=(decide (r.length<=14) || decide (r.length=26)) && r.all λc=>decide (c.2.size<=16)
def shortb(a:List RW):Bool:=a.all short1
def Zfu  {N:Nat}  {M:Nat->Prop} {env:Pw} {H:Hp}  {F:Pw->Hp->Prop}   {o:Oper} {G:Type} {φ:G->Prop} {a:G->Pw} {d:G->Hp} {j e:Nat} {b:Bool} (r:ops[i]? = some o) (l:o.guard=some (j,b)) (n:(ops[j]?).bind (·.dst)=some e) (f:lk env e=some (.bool b)) (c:Nat.blt e N=true) (s:T P N sc M o env H φ a d)
  (h:∀g,φ g->LD P N sc M ops F rest (a g) (d g)) :
  LD P N sc M ops F ((i,1)::rest) env H:=r1g s r l n f c h
end Go.Sky

