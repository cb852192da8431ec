/- Rules, arithmetic and contracts: part 16. No conditions but those that each theorem names. -/
import Derived.Test.YteikicbnfbgpnaaGreatEa214
set_option linter.all false
set_option maxHeartbeats 4000000
namespace Go.Sky
variable{zs ys:List (Int×SL)}{ov ov2 o:Int}{x y z x2 y2 z2 Y Z c xs q p:List Int}{i f:Nat}{w v u:Value}{a b:List Zk}{r:SL×SL×SL}
theorem i_le{l:List Int}(h:Zb zs=l){n:Nat}(d:l.length<=n):zs.length<=n:=by grind
theorem Ze5{l:List Int}(h:Zb zs=l)(d:Vp l):Sz 1000000 (Zb zs):=by rw [h];exact d.sz.mono O1
def Bx{l:List Int}(h:Zb zs=l)(e:Vp l){n:Nat}(d:25<=n):zs.length<=n:=i_le h (aB e.len d)
abbrev TzT:=SL×List (Int×SL)
def sqF(ov ov2:Int)(x y z x2 y2 z2:List Int)(i:Nat):List Int:=sqP (Zs i x y z) (Zs i x2 y2 z2) ov ov2
def sqR(ov ov2:Int)(x y z x2 y2 z2:List Int):Nat->List (List Int)
 | 0=>[]
 | i+1=>sqR ov ov2 x y z x2 y2 z2 i ++ [sqF ov ov2 x y z x2 y2 z2 i]
theorem sqR_s{d:List TzT}{e:TzT}(h:d.map (λz=>Zb z.2)=sqR ov ov2 x y z x2 y2 z2 i)(g:Zb e.2=sqF ov ov2 x y z x2 y2 z2 i):(d ++ [e]).map (λz=>Zb z.2)=sqR ov ov2 x y z x2 y2 z2 (i+1):=by rw [dB,h,bZ,g];rfl
theorem sqR_at{d:List TzT}(h:d.map (λz=>Zb z.2)=sqR ov ov2 x y z x2 y2 z2 3):d.length=3/\Zb (d.getD 0 T0).2=sqF ov ov2 x y z x2 y2 z2 0/\Zb (d.getD 1 T0).2=sqF ov ov2 x y z x2 y2 z2 1/\Zb (d.getD 2 T0).2=sqF ov ov2 x y z x2 y2 z2 2:=by
 have e:=aD List.length h;rw [bA]at e;have e:d.length=3:=e
 match d,e with
 | [a,b,c],_=>
  have g:[Zb a.2,Zb b.2,Zb c.2]=[sqF ov ov2 x y z x2 y2 z2 0,sqF ov ov2 x y z x2 y2 z2 1,sqF ov ov2 x y z x2 y2 z2 2]:=h;grind
def ovW(ov ov2:Int):Int:=ov*ov2*(ov*ov2)
def rfL(e d ov ov2:Int)(x y z x2 y2 z2:List Int):List Int:=Gb (Zt (Gb (sqF ov ov2 x y z x2 y2 z2 0) (sqF ov ov2 x y z x2 y2 z2 1)) (d*d)) (Zt (sqF ov ov2 x y z x2 y2 z2 2) (e*e))
def rfW(d e ov ov2:Int):Int:=d*d*(e*e)*ovW ov ov2
def rfZ(e g d ov ov2:Int)(x y z x2 y2 z2:List Int):List Int:=Ek (rfL g d ov ov2 x y z x2 y2 z2) (tzl [rfW e d ov ov2])
theorem Yir(p q:List Int)(a b k:Int):sqK p q a b k=Zt (sqP p q a b) (k*k):=by unfold sqK dfK sqP;grind [Yf0]
theorem Ytz(w:Int):cf [w] 0=w:=rfl
theorem ab_one{w:Int}{M:Nat}(h:w.natAbs<=M):Ab M (tzl [w]):=λi=>by
 rw [Ly]
 match i with
 | 0=>assumption
 | i+1=>simp [Yr,bE]
theorem Ygj(w:Int)(i:Nat):cf [w] i=-(cf [-1] i*w):=by
 all_goals grind [Ytz,Yr]
theorem rf_eq(d h g ov ov2:Int)(x y z x2 y2 z2:List Int):rfZ d h g ov ov2 x y z x2 y2 z2=smZ d h g ov ov2 x y z x2 y2 z2 3:=by
 have k:Tr (smZ d h g ov ov2 x y z x2 y2 z2 3):=by exact Qn _
 refine(Zaj _ _).ext k λi=>?_;unfold rfL smZ;simp only [smP];rw [Im,Dh,Yo,Dh,Yo,Dh,Dh,Dh,Ly];unfold fqZ;rw [Yir,Yir,Yir,Yo,Yo,Yo];have e:cf (cnZ d g ov ov2) i=cf [-1] i*d*d*g*g*ov*ov*ov2*ov2:=by unfold cnZ;simp only [ngC,Yo,List.getD_cons_zero,lZ]
 have j:=Ygj (rfW d g ov ov2) i;rw [j];unfold rfW ovW sqF;simp only [Zs];grind
structure RfX (zd zn ze ov ov2:Int) (x y z x2 y2 z2:List Int):Prop where
 v0:∀i,Vp (sqF ov ov2 x y z x2 y2 z2 i)
 v1:Vp (Gb (sqF ov ov2 x y z x2 y2 z2 0) (sqF ov ov2 x y z x2 y2 z2 1))
 v2:Vp (Zt (Gb (sqF ov ov2 x y z x2 y2 z2 0) (sqF ov ov2 x y z x2 y2 z2 1)) (ze*ze))
 v3:Vp (Zt (sqF ov ov2 x y z x2 y2 z2 2) (zn*zn))
 v4:Vp (rfL zn ze ov ov2 x y z x2 y2 z2)
 v5:Vp (tzl [rfW zd ze ov ov2])
 v6:Vp (rfZ zd zn ze ov ov2 x y z x2 y2 z2)
 wb:bl (rfW zd ze ov ov2).natAbs<=1000000
 ob:bl (ov*ov2).natAbs<=1000
 oW:bl (ovW ov ov2).natAbs<=1000
 eb:bl (ze*ze).natAbs<=1000
 nb:bl (zn*zn).natAbs<=1000
 db:bl (zd*zd).natAbs<=1000
 xb:bl (zd*zd*(ze*ze)).natAbs<=1000
theorem ov_b{fr j e g:Int}(h:Sgo fr j ov x y z)(d:Sgo e g ov2 x2 y2 z2):bl (ov*ov2).natAbs<=1000000000:=by have k:=h.o1;have l:=h.o2;have m:=d.o1;have n:=d.o2;exact sm_bl (aB (Ylr _ _ 4294967296 4294967296 O1 O1) O1) O1
theorem Yq1{k m l:Int}(h:Zb zs=rfZ k m l ov ov2 x y z x2 y2 z2):zs.length≠0->Yv (Zb zs)≠0:=λd=>by
 have g:Zb zs≠[]:=λe=>d O11;have j:Tr (Zb zs):=by rw [h];unfold rfZ;grind [Zaj]
 have:=Zxx j g;intro e;simp_all
theorem rf_fin{d g e:Int}(h:Zb ys=Yb (Zb zs))(j:Zb zs=rfZ d g e ov ov2 x y z x2 y2 z2):Zb ys=fmZ d g e ov ov2 x y z x2 y2 z2:=by rw [h,j,rf_eq];rfl
def tpI(n k:Nat):Nat:=n/1000000000^k
theorem Ypy(n:Nat):tpI n (dg 1000000000 n).length=0:=by unfold tpI;exact cT ((Xw O4 _ n).1 (aF _))
theorem tpI_s(n k:Nat):tpI n (k+1)*1000000000+(dg 1000000000 n).getD k 0=tpI n k:=by unfold tpI;rw [Hz O4,cJ,<-aQ];omega
theorem Yh3(n:Nat):tpI n 0=n:=by unfold tpI;rw [gG,lW]
def tpI_le(n k:Nat):tpI n k<=n:=dS _ _
theorem Ydk{g:Int}(d:0<=g)(l:List Int):∀k,k<=l.length->Mh g (l.take k)=(Int.gcd g (Yv (l.take k)):Int)
 | 0,_=>by rw [eE];show g=((Int.gcd g 0:Nat):Int);rw [mR];omega
 | k+1,e=>by rw [Ah (g:=g) O1,Lu O1,Ydk d l k O1,Int.gcd_assoc]
def gcR(o:Int)(X Y Z:List Int):Nat->Int
 | 0=>o
 | i+1=>(Int.gcd (gcR o X Y Z i) (Yv (Zs i X Y Z)):Int)
theorem Zz2{o:Int}(d:0<o)(X Y Z:List Int):∀i,i<=3->gcR o X Y Z i=Mh o (Lh i X Y Z)/\0<=gcR o X Y Z i
 | 0,_=>⟨rfl,dY d⟩
 | i+1,hi=>by obtain⟨e,g⟩:=Zz2 d X Y Z i O1;refine⟨?_,kH _⟩;show((Int.gcd (gcR o X Y Z i) (Yv (Zs i X Y Z)):Nat):Int)=_;rw [Ee X Y Z O1,Gi,<-e];have:=Ydk g (Zs i X Y Z) (Zs i X Y Z).length (aF _);rw [bL]at this;exact this.symm
def gcR_A{X:List Int}(h:Mdh o X Y Z):gcR o X Y Z 3=Kw o X Y Z:=(Zz2 h.o X Y Z 3 (aF _)).1
theorem Zhs{X:List Int}(h:Mdh o X Y Z)(hi:i<=3):bl (gcR o X Y Z i).natAbs<=1000:=by rw [(Zz2 h.o X Y Z i hi).1];have:=h.fc i 0;rw [eE]at this;exact this
structure Row3 (ws:List TzT) (X Y Z:List Int):Prop where
 l:ws.length=3
 e:∀i,i<3->Zb (ws.getD i T0).2=Zs i X Y Z
theorem Zvj{d:List TzT}{t:Nat}{g:TzT}{f:Nat->List Int}(k:d.length=i)(h:∀t,t<i->Zb (d.getD t T0).2=f t)(m:Zb g.2=f i)(l:t<i+1):Zb ((d ++ [g]).getD t T0).2=f t:=by
 rcases aY.1 l with j|j
 .have e:(d ++ [g]).getD t T0=d.getD t T0:=by rw [aL,aL,eN O1]
  rw [e];exact h t j
 .subst j;have e:(d ++ [g]).getD t T0=g:=by rw [aL,fT O1,k,fE];rfl
  rw [e];exact m
theorem Yb5{e:List TzT}{a b d:Int}(g:e.length=3)(h:∀t,t<3->Zb (e.getD t T0).2=Pe (Zs t x y z) a b d):Row3 e (Pe x a b d) (Pe y a b d) (Pe z a b d):=⟨g,λi hi=>by
 rw [h i hi]
 match i,hi with
 | 0,_=>rfl
 | 1,_=>rfl
 | 2,_=>rfl⟩
theorem Ym7(h:AxC c ov)(j:Zb zs=tzl c):5-max 0 ((zs.length:Int)-1)=((6-c.length:Nat):Int):=by
 have k:=h.l;have e:zs.length=(tzl c).length:=by rw [<-Zh,j]
 rcases Yo2 h with d|d
 .rw [e,d];omega
 .subst d;have g:(tzl [(0:Int)]).length=0:=O4;rw [e,g];decide
theorem Zlo(g:∀a∈c,Nc a)(h:c.length<=6)(d:Zb zs=tzl c):zs.length<=30/\Qc (Zb zs)+zs.length*(30+1)+1+zs.length+1+30<=900000:=by have e:zs.length<=6:=i_le d (aB (Ns c) h);have m:=Qy (p:=Zb zs) (n:=64) (by rw [d];exact(Yfd g).sz O4);have:=aJ 31 e;exact⟨O1,O1⟩
def Zva(fr d:Int)(g:Zk)(r:SL×SL×SL):Zk:=((cA fr g,cB d g,cO g/cG fr d g),(r.1,Gc (cX fr d g g.2.1.2) (cG fr d g)),(r.2.1,Gc (cX fr d g g.2.2.1.2) (cG fr d g)),(r.2.2,Gc (cX fr d g g.2.2.2.2) (cG fr d g)))
theorem cut_un{fr e:Int}{g:Zk}(h:Zd0 fr e g=true):Gx (Zva fr e g r)=Zf5 fr e g:=by have d:cO g/cG fr e g<=4294967296:=cC h;unfold Zf5 Gx Zva mdO;rw [aM d,Zhl d,Zhl d,Zhl d]
theorem cutI_y{fr d:Int}{ps zs:List Zk}{k:Nat}{x g:Zk}(h:Ztm fr d ps k zs)(e:(ps.filter (Kq fr d))[k]? = some x)(m:Zd0 fr d x=true)(n:Gx g=Zf5 fr d x):Ztm fr d ps (k+1) (zs ++ [g]):=by
 obtain⟨j,l⟩:=h;refine⟨?_,?_⟩
 .rw [dB,j,Zio e,dB,bZ,gV,bZ,gV,n]
 .rw [Zio e,lJ,l];simp [m]
theorem Yby{g:Zk}(h:seB g=true)(i:Nat):AxC (Zs i g.2.1.2 g.2.2.1.2 g.2.2.2.2) g.1.2.2:=by obtain⟨d,e,j⟩:=Zyz h;exact Cr (p:=λl=>AxC l g.1.2.2) d e j
theorem Yec{fr d:Int}{g:Zk}(e:SgG g)(h:Kq fr d g=true):g.1.1<=cA fr g/\cA fr g<cB d g/\cB d g<=g.1.2.1:=by have:=cC h;exact⟨Int.le_max_right _ _,this,Int.min_le_right _ _⟩
theorem fl_le(ps:List Zk)(p:Zk->Bool)(i:Nat):((ps.take i).filter p).length<=i:=by have:=jO p (ps.take i);have d:=List.length_take_le i ps;omega
theorem cut_t{fr d:Int}{ps:List Zk}(h:Zxv fr d ps=0):Pu fr d ps=true:=by
 cases hb:Pu fr d ps with
 | true=>rfl
 | false=>rw [Yal hb]at h;exact absurd h O4
open Go.Proofs.Tryz
open Go.Proofs
set_option synthInstance.maxHeartbeats 0
set_option synthInstance.maxSize 100000
set_option maxRecDepth 20000
set_option linter.unusedSimpArgs false
theorem Ych(x:Int)(B:x.natAbs<=9223372036854775807):Qe prog 279 #[.agg #[.bool (decide (x<0)),v]] [Pn v x.natAbs] (.int .i64 x):=by
 refine Zg func279 ntmps279 λF D t h=>?_;refine Pi (Mi (i:=1) J Zr) λj=>go 2 ?_;refine Yd (Yk 2) λn _=>?_;refine go 19 ⟨O1,?_⟩;refine lp (G:=Nat) [1] [0,1,2] (λk=>[(4,.int .i64 ((k:Int)-1)),(3,.int .i64 (tpI x.natAbs k:Int))]) (λk=>[]) (λk=>k<=(dg 1000000000 x.natAbs).length) (λk=>k) (dg 1000000000 x.natAbs).length (aF _) ⟨J,(by rw [Ypy];rfl),aA⟩ aA ?_;rintro k s;have l:=tpI_le x.natAbs (k-1);have d:=tpI_s x.natAbs (k-1);refine go 7<|Ze J (λe=>?_) (λe=>?_)
 .refine go 10 ⟨⟨O1,by rw [show k-1+1=k by omega]at d;omega⟩,?_⟩;refine dt (Zv 1 (k-1) J J J J Zr Py Kx)<|go 11 ⟨O1,⟨O1,by rw [show k-1+1=k by omega]at d;omega⟩,O1,?_⟩;exact Yh (k-1) O2 O2 ⟨(aD (λq:Int=>some (Value.int .i64 q)) (show(k:Int)-1-1=((k-1:Nat):Int)-1 by omega)),(aD (λq:Int=>some (Value.int .i64 q)) (show(tpI x.natAbs k:Int)*1000000000+(((dg 1000000000 x.natAbs).getD (k-1) 0:Nat):Int)=((tpI x.natAbs (k-1):Nat):Int) by rw [show k-1+1=k by omega]at d;omega)),aA⟩ aA
 .obtain rfl:k=0:=O1;have m:=Yh3 x.natAbs;refine go 12<|Ze J (λg=>?_) (λg=>?_)
  .refine go 3 ?_;refine dt (Ztf J J)<|go 5 ?_;exact Xh h () results279 (by rw [Yh3];congr 1;omega) aA Za
  .refine go 9 ?_;exact Xh h () results279 (by rw [Yh3];congr 1;omega) aA Za
theorem Zpq{ps:List Zk}(g:1<=ps.length):Qe prog 54 #[v] [Xn 6 Xv qG v ps] (.int .i64 (spF ps)):=by refine Zg func54 ntmps54 λk j h d=>?_;refine Pi (Mi (i:=1) J Zc) (λe=>?_);refine go 9 ⟨O1,?_⟩;refine dt (Mb 1 J J J Zc Dl J Kx J)<|dt (Mj 1 G0 J J J Zc iA3 J)<|go 4 ?_;exact Xh d () results54 J aA Za
theorem Yci{ps:List Zk}(g:1<=ps.length):Qe prog 53 #[v] [Xn 6 Xv qG v ps] (.int .i64 (spL ps)):=by refine Zg func53 ntmps53 λk j h d=>?_;refine Pi (Mi (i:=1) J Zc) (λe=>?_);refine go 11 ⟨O1,?_⟩;refine dt (Zv 1 (ps.length-1) J J J J Zc Lz Ir)<|dt (Mb 1 J J J Zc Dl J Kx J)<|dt (Mj 1 G0 J J J Zc iA3 J)<|go 4 ?_;exact Xh d () results53 J aA Za
theorem Yoh(g:Tr xs)(d:xs≠[])(hs:Sz 320 xs)(e:xs.length<=11):Zac 13 xs/\Sz 335 (sqf 13 xs)/\(sqf 13 xs).length<=11:=by grind [chG]
theorem Zpd(h:Vp xs)(j:xs≠[])(hs:Sz 320 xs)(I:xs.length<=11) :
  Vp (Xj xs)/\Vp (Xi (Xj xs))/\eok 13 (Xj xs) (Xi (Xj xs))/\Kd (Yb (eu 13 (Xj xs) (Xi (Xj xs))))=Nq 13 (Xj xs) (Xi (Xj xs))/\
  Vp (Nq 13 (Xj xs) (Xi (Xj xs)))/\Nq 13 (Xj xs) (Xi (Xj xs))≠[]/\pdv (Xj xs) (Nq 13 (Xj xs) (Xi (Xj xs)))/\
  Qc (Xj xs)<=320/\Qc (Nq 13 (Xj xs) (Xi (Xj xs)))<=335/\(Xj xs).length<=11/\Vp (sqf 13 xs)/\sqf 13 xs≠[]/\Xj (sqf 13 xs)=sqf 13 xs/\(Nq 13 (Xj xs) (Xi (Xj xs))).length<=11:=by
 have n:=Zqu hs;have N:=Pt h.tr;have k:Tr (Xj xs):=Ng (Yu h.tr);have F:=Gz n O1;have M:=Og (Xj xs);have d:=Nt k;have Q:=Qy n;have S:=aH.2 j;obtain⟨D,R,P⟩:=Yoh h.tr j hs I;have g:=D.1.2.2.1;have e:eok 13 _ _:=
  (Ydz 5 331 O1 k d (n.mono O6) F O1 O6 (Ylk O1 O1 O6) (aB (aP (show(Xj xs).length+1<=12 by omega) (show 325+1<=400 by simp)) O1) O1).1
 obtain⟨f1,f2,f3,f4,f5,f6⟩:=Ow _ h.tr j g;have G:=Zed 13 k d;have B:=Zi8 h.tr j;have H:fcs 0 13<=2^15*2^15:=O4;have s:=Fv _ 24 G f2 n B k O1 O1 H (by grind [Ca]);have m:=Zym h;have l:Vp _:=⟨F.mono O6,d,O1⟩;have t:=Ox f2 G f3 f5;rw [<-f4]at t;have V:=aH.2 f3;exact⟨m,l,e,Ysk k d e g,Ybb m l g,f5,f1,Q,Qy s,O1,Zlz h j D.1,f3,f6,O1⟩
structure RI (xs q:List Int):Prop where
 v:Vp q
 ne:q≠[]
 s:Sz 220 q
 l:q.length<=11
 d:Dp xs (Xj q)
def RI.start(h:Cvd xs)(d:xs≠[]):RI xs xs:=⟨h.v,d,h.s.mono O6,h.l,Dp.start h.v.tr d⟩
theorem Yic{n:Nat}{e:Int}(d:e=1\/e=-1)(h:Sz n q):Sz n (Zt q e):=λi=>by rw [Yo];have:=h i;grind
theorem RI.step(h:Cvd xs)(B:xs≠[])(g:RI xs q) :
  Tr (sqf 13 q)/\Qc (sqf 13 q)<=235/\(sqf 13 q).length<=11/\0<(sqf 13 q).length/\Yv q≠0/\Sz 220 (Zt (Yb q) 1)/\Tr (Zt (Yb q) 1)/\(Zt (Yb q) 1).length=q.length/\pdv (Zt (Yb q) 1) (sqf 13 q)/\
  Vp (Nh 13 q)/\Nh 13 q≠[]/\Sz 220 (Nh 13 q)/\(Nh 13 q).length<=11/\Yv (Nh 13 q)≠0/\Yb (Nh 13 q)=Nh 13 q/\
  Tr (sqf 13 (Nh 13 q))/\Qc (sqf 13 (Nh 13 q))<=235/\(sqf 13 (Nh 13 q)).length<=11/\0<(sqf 13 (Nh 13 q)).length/\pdv (sqf 13 q) (sqf 13 (Nh 13 q))/\Sz 600 (Kg (sqf 13 q) (sqf 13 (Nh 13 q)))/\(Kg (sqf 13 q) (sqf 13 (Nh 13 q))).length<=11/\
  pdv (Nh 13 q) (sqf 13 (Nh 13 q))/\RI xs (Au 13 q)/\((sqf 13 q).length≠1->(Au 13 q).length<q.length):=by
 have hl:=h.l;have D:=g.d;have j:=(D.ok h.v.tr B h.s O6 O1 (show xs.length<=13+1 by omega)).2;have t:De 13 q:=by unfold De at j ⊢;rwa [D.2.2.1]at j
 have k:=D.next j;have V:On 13 (Xj q)=On 13 q:=Zlh D.2.2.1;have a2:sqf 13 (Xj q)=sqf 13 q:=Ch D.2.2.1;rw [V]at k;have d:=(k.ok h.v.tr B h.s O6 O1 (show xs.length<=13+1 by omega)).2;have S:=k.next d;obtain⟨⟨e,he,r1,r2,r3,r4,r5,r6⟩,r7,r8,r9,M,a3,a4⟩:=Zmm g.v.tr g.ne t d;obtain⟨-,-,-,-,-,-,-,-,-,-,-,l,m,N,-,n,-,-⟩:=Zek h B D;obtain⟨-,-,-,-,-,-,-,-,-,-,-,s,P,Q,-,F,a5,-⟩:=Zek h B k;rw [a2]at l m N n;have a1:sqf 13 (Nh 13 q)=sqf 13 (On 13 q):=Ch (by rw [r7,k.2.2.1]);obtain⟨g1,g2⟩:=Zh0 h B k;obtain⟨g3,g4⟩:=Zh0 h B S;have G:Sz 220 (Nh 13 q):=by grind [r3,Yic]
 have R:(Nh 13 q).length<=11:=by grind [r3,Ok]
 have H:Vp (Nh 13 q):=⟨G.mono O6,r9,O1⟩;have I:Sz 220 (Au 13 q):=by grind [Yic]
 have a6:(Au 13 q).length<=(On 13 (On 13 q)).length:=by grind [Ok]
 obtain⟨o1,o2,o3,o4⟩:=Cy g.v.tr g.ne t d;have hK:fcs 0 13<=2^15*2^15:=O4;have a0:=Fv 13 24 o3 s.tr m n l.tr O1 O1 hK o2;have W:=Ox o3 s.tr o4 F;rw [<-o2]at W;have lb:=aH.2 F;have la:=aH.2 n;have hm:Zt (Yb q) 1=Yb q:=by refine(Ql _ _).ext (Yu g.v.tr) λi=>?_;rw [Yo,fH]
 have hx:=Pp g.v.tr g.ne t;have a8:=Pp k.1 k.2.1 d;rw [a1];refine⟨l.tr,Qy m,O1,la,g.v.ne g.ne,by rw [hm];exact Gf g.s,Ql _ _,by grind [Yc],O5,H,M,G,R,H.ne M,r4,s.tr,Qy P,Q,lb,o1,a0.mono O6,?_,r5,⟨⟨I.mono O6,a3,O1⟩,a4,I,O1,O5⟩,λa7=>?_⟩
 .show(Bl 13 q).length<=11;omega
 omega
theorem rodd_1{F:Nat}(h:(sqf F p).length=1):Zdi F f p=sqf F p:=by
 cases f with
 | zero=>rfl
 | succ f=>unfold Zdi;grind
theorem rodd_s{F:Nat}(h:(sqf F p).length≠1):Zdi F (f+1) p=Qx (Kg (sqf F p) (sqf F (Nh F p))) (Zdi F f (Au F p)):=by
 conv=>lhs;unfold Zdi
 grind
theorem Ykz{F n:Nat}(H:Tr p)(t:p≠[])(hs:Sz n p)(G:n<=220)(D:p.length<=11)(B:p.length<=F+1):∀(f:Nat) (q:List Int),Dp p q->q.length<=f->∃a:List Int,Tr a/\q=Qx a (Bh F f q):=by
 intro f
 induction f with
 | zero=>intro q d l;have:=aH.2 d.2.1;omega
 | succ f W=>
  intro q d l;have e:=(d.ok H t hs G D B).2;have h:=d.next e;have g:=(h.ok H t hs G D B).2;have k:=h.next g;unfold Bh;by_cases j:(sqf F q).length=1
  .rw [aM j];obtain⟨s1,s2,s3⟩:=Zgm d.1 d.2.1 e j;refine⟨[1],.inr (show cf [1] 0≠0 by decide),d.1.ext (Qo _ _) λi=>Nv (λx=>?_) i⟩;rw [Xb,s1,Yrv d.1 d.2.2.1 s2,Oh];simp
  .rw [aK j];have lq:2<=q.length:=by obtain⟨f1,f2,f3,f4,f5,f6⟩:=Ow F d.1 d.2.1 e;obtain⟨I,M,m,s,N⟩:=Pp d.1 d.2.1 e;grind [List.length_pos_iff]
   have a0:=Znl d.1 d.2.1 e lq;obtain⟨I,M,m,s,N⟩:=Pp d.1 d.2.1 e;obtain⟨b1,b2,b3,P,b5⟩:=Pp h.1 h.2.1 g;obtain⟨-,t2,t3,-,-,-⟩:=Ow F h.1 h.2.1 g;have lb:=aH.2 t3;obtain⟨A,hA,hB⟩:=W _ k O1;obtain⟨-,o2,o3,o4⟩:=Cy d.1 d.2.1 e g;rw [d.2.2.1]at s;rw [m]at P;refine⟨Qx (Qx (sqf F (On F q)) (sqf F (On F q))) A,Qo _ _,d.1.ext (Qo _ _) λi=>Nv (λx=>?_) i⟩;have Q:Zi q x=Zi (sqf F q) x*Zi (On F q) x:=by grind [Xb]
   have R:Zi (sqf F q) x=Zi (Bl F q) x*Zi (sqf F (On F q)) x:=by grind [Xb]
   have S:Zi (On F q) x=Zi (sqf F (On F q)) x*Zi (On F (On F q)) x:=by grind [Xb]
   have V:Zi (On F (On F q)) x=Zi A x*Zi (Bh F f (On F (On F q))) x:=by grind [Xb]
   rw [Xb,Xb,Xb,Xb,Q,R,S,V];show _=_*(Zi (Bl F q) x*_);grind
theorem RI.size(h:Cvd xs)(j:xs≠[])(k:RI xs q)(M:q.length<=f):Tr (Zdi 13 f q)/\Sz 460 (Zdi 13 f q)/\(Zdi 13 f q).length<=11:=by
 have N:=h.l;have d:=k.d;have e:Zdi 13 f q=Bh 13 f (Xj q):=by rw [Yb6 h.v.tr j h.s O6 O1 O1 f q k.v.tr k.ne d];exact Zmx d.2.2.1.symm f
 have G:=Pt k.v.tr;obtain⟨A,s,D⟩:=Ykz h.v.tr j h.s O6 O1 (show xs.length<=13+1 by omega) f _ d O1;obtain⟨t,I⟩:=Zh0 h j d;have g:=(d.ok h.v.tr j h.s O6 O1 (show xs.length<=13+1 by omega)).2;have m:=Zla xs (f:=f) d.1 d.2.1 g;rw [e];have F:fcs 0 13<=2^15*2^15:=O4;have H:Bh 13 f (Xj q)≠[]:=λB=>d.2.1 (by grind [Zcn]);have n:A≠[]:=λB=>d.2.1 (by grind [Fr]);have l:=Ox s m n H;rw [<-D]at l;have:=aH.2 n;exact⟨m,(Fv _ 24 m s t d.2.1 d.1 O1 O1 F (by grind [Ca])).mono O6,O1⟩
theorem Yf5(h:Cvd xs)(d:xs≠[]):Zdi 13 xs.length xs=Ix xs:=by have e:=h.l;exact(Ylg h.v.tr d h.s O6 O1 (show xs.length<=13+1 by omega)).symm
theorem r3_rem(F:Nat)(hl:zs.length<=30)(hk:ys.length<=30)(c8:0<ys.length)(b7:Tr (Zb zs))(ht:Tr (Zb ys))(c2:zs.length<ys.length+F)(b4:Qc (Zb zs)+F*(Qc (Zb ys)+1)<=900000):Cal prog 312 #[v,u] [pp v zs,pp u ys] true (G:=Value×List (Int×SL)) (λr=>Zb r.2=Fa F (Zb zs) (Zb ys)) (λr=>r.1) (λr=>[pp r.1 r.2]):=by
 refine Zg func312 ntmps312 λw0 sc M b5=>?_;have c4:=Zh zs;have e:=Zh ys;have j:=Pa ys (ys.length-1);have h:=Ye0 (Zb ys);refine go 11 ⟨O1,?_⟩;refine dt (Zv 2 (ys.length-1) J J J J Zc Ko Za2)<|dt (Yw 2 I0 J J J Zc pI)<|Yd (Zw 85) λb _=>go 1 ?_;refine Xg (Nd 2 91 (ys.getD (ys.length-1) I0) J J (Zd O1) J)<|go 4<|Zf (Xs 1 80 J J J) ?_;refine lp (G:=Value×List (Int×SL)×Nat) [1,5] [0,1,2,85,91] (λq=>[(0,q.1)]) (λq=>[(80,pp q.1 q.2.1)]) (λq=>(Fa q.2.2 (Zb q.2.1) (Zb ys)=Fa F (Zb zs) (Zb ys))/\((Zb q.2.1).length<(Zb ys).length+q.2.2)/\(Tr (Zb q.2.1))/\(Qc (Zb q.2.1)+q.2.2*(Qc (Zb ys)+1)<=900000)/\(q.2.1.length<=30)) (λq=>q.2.2) (_,zs,F) ⟨J,O10,b7,b4,hl⟩ ⟨J,aA⟩ ⟨J,aA⟩ ?_;rintro⟨vr,d,f⟩ ⟨hE,hL,hT,hS,hW⟩;dsimp only at hE hL hT hS hW;dsimp only;have s:=Zh d;have n:=Pa d (d.length-1);refine go 10<|Ze J (λb0=>?_) (λb0=>?_)
 .obtain⟨f1,rfl,W,a0,a2,a1,c3⟩:=Yf4 O1 O1 hL hT hS;have hB:Qc (Zb d)+(Qc (Zb ys)+1)<=900000:=by rw [dG]at hS;omega
  have k:=bl_rb (Zb d) (Zb ys);refine go 4<|Pj [80,85] [10] ?_;refine Zj 4 [(0,0),(1,0),(2,0),(3,0),(4,0),(5,0),(6,0)]<|go 5 ⟨O1,?_⟩;refine Xc J J (Ga (Zv 80 (d.length-1) J J J J Zc Ko Za2) K2)<|Xc J J (Ga (Yw 80 I0 J J J Zc pI) K2)<|go 1 ?_;refine Qq 3 7 8 ?_ ?_
  .refine Px (Qf 95) λa6 ho=>?_;refine Zj 0 [(8,1),(9,1),(10,3)]<|Yn (Qf 96) λa7 c5=>go 3 ?_;refine Zo<|go 1 ?_;refine jn (G:=Value×Value) [0,1,5,6,7] [0,80,1,2,85,91] (λq=>[]) (λq=>[(95,box a6 89 #[.bool (decide ((Ev (Zb ys))<0)),q.1]),(96,box a7 89 #[.bool (decide ((rb (Zb d) (Zb ys))<0)),q.2]),(93,Pn q.1 (Ev (Zb ys)).natAbs),(94,Pn q.2 (rb (Zb d) (Zb ys)).natAbs)]) (λq=>True) ?_ ?_
   .refine go 1<|Zf (Nd 80 92 (d.getD (d.length-1) I0) J J (Zd O1) J)<|go 2 ?_;refine cl 2 [91] (Bg (by rw [j];have:=Pd (Zb ys) (ys.length-1);omega)) λ_ _=>go 3<|Ze J (λb1=>?_) (λb1=>?_)
    .refine Pj [96] [5]<|Zj 0 [(2,0),(0,1),(1,1),(3,1),(4,1),(5,3)]<|go 2 ?_;refine Yn (Zl 3 [91] (Zj1 (by rw [j];have:=Pd (Zb ys) (ys.length-1);omega))) λv _=>Yn (Zl 4 [92] (Zj1 (by rw [n];have:=Pd (Zb d) (d.length-1);omega))) λc9 _=>go 3<|Zo ?_;have h:=Yj4 e j ‹_›;have k:=rb_n (x:=Zb d) (y:=Zb ys) e s j n ‹_›;exact Zp (Xs 3 93 J J J)<|Zp (Xs 4 94 J J J)<|Oc (_,_) aA aA ⟨by rw [h];rfl,by rw [k];rfl,by rw [h];rfl,by rw [k];rfl,aA⟩
    .refine go 1 ?_;have h:=Yj3 e j ‹_›;have k:=rb_p (x:=Zb d) (y:=Zb ys) e s j n ‹_›;exact Zp (Xs 91 93 J J J)<|Zp (Xs 92 94 J J J)<|Oc (_,_) aA aA ⟨by rw [h];rfl,by rw [k];rfl,by rw [h];rfl,by rw [k];rfl,aA⟩
   .rintro⟨va,vb⟩ -;dsimp only;refine go 7 ⟨O1,?_⟩;refine tt (Hl 70 (d.length-ys.length) 32 (enc:=My) I0 J J J J Ko ti89 J pI.cells pI.pos J J J M.h) λd0 _=>go 10 ?_;refine Zf (Ar 71 (d.length-ys.length))<|lp (G:=Nat×Value×List (Int×SL)) [0,1,5,6,7] [0,95,96,93,94,80,1,2,85,91] (λq=>[(9,.int .i64 (q.1:Int)),(8,q.2.1)]) (λq=>[(70,Oe 2 89 My q.2.1 q.2.2),(71,Nf qI q.2.2)]) (λq=>(q.1<=ys.length)/\(Zb q.2.2=shm (Zb ys) (rb (Zb d) (Zb ys)) ((Zb d).length-(Zb ys).length) q.1)/\(q.2.2.length=((Zb d).length-(Zb ys).length)+q.1)) (λq=>ys.length-q.1) (0,_,List.replicate (d.length-ys.length) I0) ⟨O2,by rw [<-Zgq,s,e];simp [Zb],by simp<;>omega⟩ K2 K2 ?_;rintro⟨i,vo,ms⟩ ⟨hi,l,Q⟩;dsimp only at hi l Q;dsimp only;have B:=Pa ys i;refine go 9<|Ze J (λb2=>?_) (λb2=>?_)
    .refine go 4<|Pj [2,96] [9] ?_;refine Zj 3 [(0,0),(1,0),(2,0),(3,0),(4,0),(5,0),(6,1)]<|go 4 ⟨O3,?_⟩;refine Xc J J (Ga (Yw 2 I0 J J J Zc pI O3) K2)<|go 1 ?_;refine Kp J (Xe 86 (Ni _ _ (by rw [B];have:=Pd (Zb ys) i;omega)) J J J K2 call69 (Qa 2 J J (Zd (i:=i) O1) (Zm 94 J J J Zn)) J M.h) λd1 _=>go 1 ?_;refine Zks (Xp 86 J Zr) (λsl b6=>?_);subst b6;refine Zj 0 [(7,1),(8,1),(9,3)]<|Kp J (Xx [(0,_)] 87 (enc:=My) [((ys.getD i I0).1*(rb (Zb d) (Zb ys)),sl)] J J K2 Ko ti89 J J J J J pI.cells J J M.h) (λd2 _=>?_);refine Kp J (Za5 70 J J J K2 (λm=>(Cg 70 87 32 (xs:=ms) (ys:=[_]) J J J J J J O4 J (Zz pI) Ko ti89 J pI J J J O9 O4 J M.h m))) λd3 _=>go 2 ?_;refine Zo<|go 7 ⟨O1,?_⟩;exact Zp (Zq (q:=qI) (z:=((ys.getD i I0).1*(rb (Zb d) (Zb ys)),sl)) 71 86 71 J J J J J)<|Yh (i+1,_,ms ++ [((ys.getD i I0).1*(rb (Zb d) (Zb ys)),sl)]) ⟨O2,by rw [Ln,l,<-Zgr];dsimp only;rw [B,gF],O9⟩ O2 K2 K2
    .refine go 5<|Zf (Xo 70 J J pI)<|Zf (Xq 70 71 72 J J J J)<|go 3 ?_;refine cl 5 [80,93] (Es _ ((Pd _).mono O1) O1) λg hg=>?_;have H:=aD List.length hg;rw [Zh]at H;have a5:=Ok (Zb d) (Ev (Zb ys));refine go 1 ?_;refine cl 6 [5,72] (Ziy (by rw [hg];exact(Zce (Pd _) h).mono O1) (by rw [l];exact sz_shm'.mono O1)) λS a3=>go 3<|Zp (Xs 6 80 J J J) ?_;have t:Zb S.2=Ds (Zb d) (Zb ys):=by rw [a3,hg,l,show i=(Zb ys).length by omega];rfl
     exact Yh (_,S.2,f1) ⟨by dsimp only;rw [t,<-W];exact hE,by dsimp only;rw [t];exact a0,by dsimp only;rw [t];exact a2,by dsimp only;rw [t];exact a1,by dsimp only;rw [<-Zh,t];omega⟩ (gP f1) K1 K1
  .refine Px (Qf 96) λa8 c6=>?_;refine Zj 0 [(7,1),(9,1),(10,3)]<|Yn (Qf 95) λa9 c7=>go 3 ?_;refine Zo<|go 1 ?_;refine jn (G:=Value×Value) [0,1,5,6,7] [0,80,1,2,85,91] (λq=>[]) (λq=>[(95,box a9 89 #[.bool (decide ((Ev (Zb ys))<0)),q.1]),(96,box a8 89 #[.bool (decide ((rb (Zb d) (Zb ys))<0)),q.2]),(93,Pn q.1 (Ev (Zb ys)).natAbs),(94,Pn q.2 (rb (Zb d) (Zb ys)).natAbs)]) (λq=>True) ?_ ?_
   .refine go 1<|Zf (Nd 80 92 (d.getD (d.length-1) I0) J J (Zd O1) J)<|go 2 ?_;refine cl 6 [91] (Bg (by rw [j];have:=Pd (Zb ys) (ys.length-1);omega)) λ_ _=>go 3<|Ze J (λN=>?_) (λN=>?_)
    .refine Pj [96] [5]<|Zj 0 [(2,0),(0,1),(1,1),(3,1),(4,1),(5,3)]<|go 2 ?_;refine Yn (Zl 7 [91] (Zj1 (by rw [j];have:=Pd (Zb ys) (ys.length-1);omega))) λd4 _=>Yn (Zl 8 [92] (Zj1 (by rw [n];have:=Pd (Zb d) (d.length-1);omega))) λd5 _=>go 3<|Zo ?_;have h:=Yj4 e j ‹_›;have k:=rb_n (x:=Zb d) (y:=Zb ys) e s j n ‹_›;exact Zp (Xs 7 93 J J J)<|Zp (Xs 8 94 J J J)<|Oc (_,_) aA aA ⟨by rw [h];rfl,by rw [k];rfl,by rw [h];rfl,by rw [k];rfl,aA⟩
    .refine go 1 ?_;have h:=Yj3 e j ‹_›;have k:=rb_p (x:=Zb d) (y:=Zb ys) e s j n ‹_›;exact Zp (Xs 91 93 J J J)<|Zp (Xs 92 94 J J J)<|Oc (_,_) aA aA ⟨by rw [h];rfl,by rw [k];rfl,by rw [h];rfl,by rw [k];rfl,aA⟩
   .rintro⟨va,vb⟩ -;dsimp only;refine go 7 ⟨O1,?_⟩;refine tt (Hl 70 (d.length-ys.length) 32 (enc:=My) I0 J J J J Ko ti89 J pI.cells pI.pos J J J M.h) λd6 _=>go 10 ?_;refine Zf (Ar 71 (d.length-ys.length))<|lp (G:=Nat×Value×List (Int×SL)) [0,1,5,6,7] [0,95,96,93,94,80,1,2,85,91] (λq=>[(9,.int .i64 (q.1:Int)),(8,q.2.1)]) (λq=>[(70,Oe 2 89 My q.2.1 q.2.2),(71,Nf qI q.2.2)]) (λq=>(q.1<=ys.length)/\(Zb q.2.2=shm (Zb ys) (rb (Zb d) (Zb ys)) ((Zb d).length-(Zb ys).length) q.1)/\(q.2.2.length=((Zb d).length-(Zb ys).length)+q.1)) (λq=>ys.length-q.1) (0,_,List.replicate (d.length-ys.length) I0) ⟨O2,by rw [<-Zgq,s,e];simp [Zb],by simp<;>omega⟩ K2 K2 ?_;rintro⟨i,vo,ms⟩ ⟨hi,l,Q⟩;dsimp only at hi l Q;dsimp only;have B:=Pa ys i;refine go 9<|Ze J (λP=>?_) (λP=>?_)
    .refine go 4<|Pj [2,96] [9] ?_;refine Zj 3 [(0,0),(1,0),(2,0),(3,0),(4,0),(5,0),(6,1)]<|go 4 ⟨O3,?_⟩;refine Xc J J (Ga (Yw 2 I0 J J J Zc pI O3) K2)<|go 1 ?_;refine Kp J (Xe 86 (Ni _ _ (by rw [B];have:=Pd (Zb ys) i;omega)) J J J K2 call69 (Qa 2 J J (Zd (i:=i) O1) (Zm 94 J J J Zn)) J M.h) λb8 _=>go 1 ?_;refine Zks (Xp 86 J Zr) (λI R=>?_);subst R;refine Zj 0 [(7,1),(8,1),(9,3)]<|Kp J (Xx [(0,_)] 87 (enc:=My) [((ys.getD i I0).1*(rb (Zb d) (Zb ys)),I)] J J K2 Ko ti89 J J J J J pI.cells J J M.h) (λb9 _=>?_);refine Kp J (Za5 70 J J J K2 (λm=>(Cg 70 87 32 (xs:=ms) (ys:=[_]) J J J J J J O4 J (Zz pI) Ko ti89 J pI J J J O9 O4 J M.h m))) λc0 _=>go 2 ?_;refine Zo<|go 7 ⟨O1,?_⟩;exact Zp (Zq (q:=qI) (z:=((ys.getD i I0).1*(rb (Zb d) (Zb ys)),I)) 71 86 71 J J J J J)<|Yh (i+1,_,ms ++ [((ys.getD i I0).1*(rb (Zb d) (Zb ys)),I)]) ⟨O2,by rw [Ln,l,<-Zgr];dsimp only;rw [B,gF],O9⟩ O2 K2 K2
    .refine go 5<|Zf (Xo 70 J J pI)<|Zf (Xq 70 71 72 J J J J)<|go 3 ?_;refine cl 9 [80,93] (Es _ ((Pd _).mono O1) O1) λc1 D=>?_;have H:=aD List.length D;rw [Zh]at H;have a5:=Ok (Zb d) (Ev (Zb ys));refine go 1 ?_;refine cl 10 [9,72] (Ziy (by rw [D];exact(Zce (Pd _) h).mono O1) (by rw [l];exact sz_shm'.mono O1)) λV a4=>go 3<|Zp (Xs 10 80 J J J) ?_;have t:Zb V.2=Ds (Zb d) (Zb ys):=by rw [a4,D,l,show i=(Zb ys).length by omega];rfl
     exact Yh (_,V.2,f1) ⟨by dsimp only;rw [t,<-W];exact hE,by dsimp only;rw [t];exact a0,by dsimp only;rw [t];exact a2,by dsimp only;rw [t];exact a1,by dsimp only;rw [<-Zh,t];omega⟩ (gP f1) K1 K1
 .have b3:=Yjo (f:=f) (x:=Zb d) (y:=Zb ys) O1;refine go 12 ?_;exact Xh b5 (_,d) results312 J (by rw [<-hE,b3]) (Ph 80 Za)
theorem Ycf(F:Vp (Zb zs))(Q:zs.length≠0):Cal prog 310 #[v] [pp v zs] true (G:=Value×List (Int×SL)) (λr=>Zb r.2=Xj (Zb zs)) (λr=>r.1) (λr=>[pp r.1 r.2]):=by
 refine Zg func310 ntmps310 λS R P D=>?_;have s:=Zh zs;have I:=F.len;refine go 8 ?_;refine cl 2 [1] (Hc (F.sz.mono O1) (λh=>F.ne (λe=>by have N:=aD List.length e;simp only [gE]at N;omega))) λg m=>go 5 ?_;have B:=aD List.length m;rw [Zh,Yc,s]at B;have H:=Pa g.2 (g.2.length-1);have j:(g.2.getD (g.2.length-1) I0).1=cf (Yb (Zb zs)) ((Yb (Zb zs)).length-1):=by rw [H,m,Yc,s,B]
 have t:=(Kf F).sz;refine go 5 ⟨O1,?_⟩;refine dt (Zv 2 (g.2.length-1) J J J J Zc Ko Za2)<|dt (Yw 2 I0 J J J Zc pI)<|tt (Xe 2 (Bg (by rw [j];have:=t ((Yb (Zb zs)).length-1);omega)) J J J K1 call130 (Qa 2 J J (Zd (zs:=g.2) (i:=g.2.length-1) (d:=I0) O1) Zn) J P.h) λ_ _=>go 3 ?_;refine Ze J (λk=>?_) (λk=>?_)
 .have l:=Zld (xs:=Zb zs) (by rw [Yc];omega) (by rw [<-j];exact Zeh.1 k);refine go 3 ?_;refine cl 3 [2] (Zq7 (by rw [m];exact t.mono O1)) λM n=>go 5 ?_;exact Xh D _ results310 J (by rw [n,m,l]) (Ph 3 Za)
 .have l:=Zlc (xs:=Zb zs) (λh=>k (Zeh.2 (by rw [j];exact h)));refine go 9 ?_;exact Xh D (_,g.2) results310 J (by rw [m,l]) (Ph 2 Za)
theorem Zzd(v:Value)(zs:List (Int×SL))(W:Vp (Zb zs))(V:zs.length≠0)(hs:Sz 320 (Zb zs))(hl:zs.length<=11:=by omega):Cal prog 297 #[v] [pp v zs] true (G:=Value×List (Int×SL)) (λr=>Zb r.2=sqf 13 (Zb zs)) (λr=>r.1) (λr=>[pp r.1 r.2]):=by
 refine Zg func297 ntmps297 λw0 sc hw P=>?_;have M:=Zh zs;have N:Zb zs≠[]:=λe=>V (by rw [<-M,e];rfl);obtain⟨Q,k2,k3,k4,k5,k6,k7,k8,k9,a4,H,R,S,a5⟩:=Zpd W N hs O1;have a7:=aH.2 k6;have I:=aH.2 R;have a6:=k2.len;have a0:=H.len;refine go 8 ?_;refine cl 2 [1] (Ycf W V) λg j=>go 4 ?_;have n:=aD List.length j;rw [Zh]at n;refine go 4 ?_;refine cl 3 [2] (Ziz (by rw [j];exact Q.sz.mono O1)) λa1 d=>?_;have m:=aD List.length d;rw [Zh]at m;refine cl 4 [2,3] (rp_gcd 13 (by rw [j];exact Q) (by rw [d,j];exact k2) (by rw [d,j];exact k3)) λs t=>?_;have h:Zb s.2=Nq 13 (Xj (Zb zs)) (Xi (Xj (Zb zs))):=by rw [t,d,j,k4]
 have F:=aD List.length h;rw [Zh]at F;refine cl 5 [2,4] (Zei (by rw [j];exact Q.tr) (by rw [h];exact k5.tr) (λ_=>by rw [j,h];have:=aP (show g.2.length-s.2.length+1<=12 by omega) (show Qc (Nq 13 (Xj (Zb zs)) (Xi (Xj (Zb zs))))+1<=336 by omega);omega)) λa2 B=>go 8 ?_;have k:=B (by rw [j,h];exact k7);rw [j,h]at k;have l:=aD List.length k;rw [Zh]at l;refine go 2 ?_;refine cl 6 [5] (Ycf (by rw [k];exact H) (by rw [l];exact Nat.ne_of_gt I)) λa3 D=>go 4 ?_;exact Xh P _ results297 J (by rw [D,k];exact S) (Ph 6 Za)
def pT{α:Type} : Enc Tryz.prog 47 1 (Nn (α:=α)):=Enc.flat Tryz.sizeOf47 Tryz.isAgg47 (λ_=>rfl)
theorem Zdg(hs:Sz 1000000 (Zb zs))(d:zs.length≠0->Yv (Zb zs)≠0)(e:zs.length<=1000:=by omega):Cal Tryz.prog 148 #[v] [pp v zs] true (G:=SL×List (Int×SL)) (λr=>Zb r.2=Yb (Zb zs)) (λr=>Xk r.1) (λr=>[pp (Xk r.1) r.2]):=
  (Hc (v:=v) (zs:=zs) hs d e).toS
def Yj7(g:Vp (Zb zs))(d:zs.length≠0)(hs:Sz 320 (Zb zs))(e:zs.length<=11):Cal Tryz.prog 297 #[v] [pp v zs] true (G:=SL×List (Int×SL)) (λr=>Zb r.2=sqf 13 (Zb zs)) (λr=>Xk r.1) (λr=>[pp (Xk r.1) r.2]):=
  (Zzd v zs g d hs e).toS
theorem Zi1(a b k:Int)(B:-4194304<=a/\a<=4194304)(D:-4194304<=b/\b<=4194304):Cal prog 125 #[.int .i64 a,.int .i64 b,.int .i64 k] [] true (G:=SL) (λr=>True) (λr=>Xk r) (λr=>[Yx 1 Yj (Xk r) (Be a b k)]):=by
 refine Zg func125 ntmps125 λH F h g=>?_;refine go 19 ⟨O1,?_⟩;refine Xf 13 J (λm=>?_) (λm=>?_)
 .refine go 9 ?_;refine tt (Xx [(0,_)] 1 (enc:=Yj) ([a]:List Int) J J K2 Py ti3 J J J J J pZ.cells J J h.h) λv _=>go 5 ?_;refine Zp (Xo 1 J J pZ)<|Zud (Xp 1 J Zr) (λe d=>?_);subst d;exact Xh g e results125 J aA (Ph 1 Za (aD (Yx 1 Yj (Xk e)) (tmL_0 a b k O1).symm))
 .refine go 5<|Ze J (λj=>?_) (λj=>?_)
  .refine go 3 ?_;refine tt (Xx [(0,_)] 2 (enc:=Yj) ([a]:List Int) J J K2 Py ti3 J J J J J pZ.cells J J h.h) λn _=>go 5 ?_;refine Zp (Xo 2 J J pZ)<|Zud (Xp 2 J Zr) (λe d=>?_);subst d;exact Xh g e results125 J aA (Ph 2 Za (aD (Yx 1 Yj (Xk e)) (tmL_0 a b k O1).symm))
  .refine go 9<|Ze J (λl=>?_) (λl=>?_)
   .refine go 4 ?_;refine tt (Xx [(0,_),(1,_)] 3 (enc:=Yj) ([a,b-a]:List Int) J J K4 Py ti3 J J J J J pZ.cells J J h.h) λs _=>go 5 ?_;refine Zp (Xo 3 J J pZ)<|Zud (Xp 3 J Zr) (λe d=>?_);subst d;exact Xh g e results125 J aA (Ph 3 Za (aD (Yx 1 Yj (Xk e)) (tmL_1 (a:=a) (b:=b) (k:=k) O1 O1).symm))
   .refine go 11 ⟨O1,O1,O1,?_⟩;refine tt (Xx [(0,_),(1,_),(2,_),(3,_),(4,_),(5,_)] 4 (enc:=Yj) ([a,0,0,10*(b-a),-15*(b-a),6*(b-a)]:List Int) J J K12 Py ti3 J J J J J pZ.cells J J h.h) λt _=>go 4 ?_;refine Zp (Xo 4 J J pZ)<|Zud (Xp 4 J Zr) (λe d=>?_);subst d;exact Xh g e results125 J aA (Ph 4 Za (aD (Yx 1 Yj (Xk e)) (tmL_2 (a:=a) (b:=b) (k:=k) O1 O1).symm))
theorem Zro(e g h j d l fr P k:Int)(t:-4194304<=e/\e<=4194304)(B:-4194304<=g/\g<=4194304)(D:-4194304<=h/\h<=4194304)(F:-4194304<=j/\j<=4194304)(m:-4194304<=d/\d<=4194304)(H:-4194304<=l/\l<=4194304):Cal prog 68 #[.agg #[.int .i64 e,.int .i64 g,.int .i64 h],.agg #[.int .i64 j,.int .i64 d,.int .i64 l],.int .i64 fr,.int .i64 P,.int .i64 k] [] true (G:=SL×SL×SL) (λr=>True) (λr=> .agg #[.int .i64 fr,.int .i64 P,.int .i64 1,Xk r.1,Xk r.2.1,Xk r.2.2]) (λr=>[Yx 1 Yj (Xk r.1) (Be e j k),Yx 1 Yj (Xk r.2.1) (Be g d k),Yx 1 Yj (Xk r.2.2) (Be h l k)]):=by refine Zg func68 ntmps68 λV S R I=>go 2 ?_;refine Yd (Yk 1) λbq _=>Yd (Yk 2) λM _=>Yd (Zw 3) λN _=>go 3<|Qb (λ_=>False) [(0,0),(1,0),(2,0),(3,0),(4,0),(5,0),(6,0),(8,0),(9,0),(10,0),(11,0),(12,0),(14,0),(15,0),(16,0),(17,0),(18,0),(7,1),(13,1),(19,1),(20,0),(21,3)]<|go 17<|Yn (Zl 4 [] (Zi1 e j k t F)) λQ _=>Yn (Zl 5 [] (Zi1 g d k B m)) λn _=>Yn (Zl 6 [] (Zi1 h l k D H)) λs _=>?_;refine Xc J J (Xl (Xy [(0,_),(1,_),(2,_),(3,_),(4,_),(5,_)] J K12 (λa w hs=>Zok ((Yg J) a w hs) ((Yg J) a w hs) ((Yg J) a w hs) ((Of 4 J Zr) a w hs) ((Of 5 J Zr) a w hs) ((Of 6 J Zr) a w hs))))<|go 4 ?_;exact Xh I (Q,n,s) results68 J aA (Ph 4 (Ph 5 (Ph 6 Za)))
def Yjs(hs:Sz 1000000 (Zb zs))(e:zs.length<=60)(g:Sz 1000000 (Zb ys))(d:ys.length<=60):Cal Tryz.prog 146 #[v,u] [pp v zs,pp u ys] true (G:=SL×List (Int×SL)) (λr=>Zb r.2=Qx (Zb zs) (Zb ys)) (λr=>Xk r.1) (λr=>[pp (Xk r.1) r.2]):=
 (Zy3 v u zs ys hs g d e).toS
theorem Zvx{fr R:Int}(o:Int){m:List TzT}{X:List Int}(l:Row3 m X Y Z)(e:Mdh o X Y Z)(I:¬o/(Kw o X Y Z)<=4294967296):Qe prog 253 #[.int .i64 fr,.int .i64 R,v,.agg #[.bool (decide (o<0)),w]] [Xn 1 (Nn (α:=List (Int×SL))) qT v m,Pn w (o).natAbs] (.tuple #[.agg #[.int .i64 0,.int .i64 0,.int .i64 0,.slice none 0 0,.slice none 0 0,.slice none 0 0],.bool false]):=by
 refine Zg func253 ntmps253 λw0 W V t=>?_;have P:=l.l;obtain⟨F,n,H⟩:=e.g;have M:=e.o;have h:=gcR_A e;have s:gcR o X Y Z 3∣o:=by rw [h];exact n
 have N:0<=o/Kw o X Y Z:=iZ O1 O1;refine go 2<|Yd (Yk 3) λbq _=>Yd (Zw 4) λD _=>go 6<|Yd (Zw 97) λj _=>go 10<|Zf (Xs 2 98 J J J) ?_;refine lp (G:=Nat×Value) [0,1,2,7,8,10] [0,1,2,3,4] (λq=>[(11,.int .i64 (q.1:Int))]) (λq=>[(97,box j 89 #[.bool (decide (gcR o X Y Z q.1<0)),q.2]),(98,Pn q.2 (gcR o X Y Z q.1).natAbs)]) (λq=>q.1<=3) (λq=>3-q.1) (0,w) O2 K1 K2 ?_;rintro⟨i,vs⟩ hi;dsimp only at hi;dsimp only;refine go 7<|Ze J (λk=>?_) (λk=>?_)
 .refine go 4<|Zf (Nd 1 41 (m.getD i T0) J J (Zd O1) J) ?_;have d:=l.e i O1;have Q:(m.getD i T0).2.length=(Zs i X Y Z).length:=by rw [<-Zh,d]
  refine Qb (λ_=>False) [(0,0),(1,0),(2,0),(3,0),(4,0),(5,1),(6,1),(7,3)]<|go 3 ?_;refine Xc J J (Xl (Zv 1 i J J J J Zc Zbj sizeOf47 J))<|Xc J J (Xl (Yw 1 T0 J J J Zc pT))<|Yn (Zl 5 [41] (Zft (by rw [d];exact(e.s i).mono O4) (by have:=e.l i;omega))) λv _=>Yn (Zl 6 [98,5] (Zpo (gcR o X Y Z i) (Yv (Zb (m.getD i T0).2)) (by rw [d];exact aB (Zbt _ (e.s i)) O4) (aB (Zhs e O1) O4))) λB _=>?_;refine go 9 ⟨O1,?_⟩;exact Zp (Xs 6 98 J J J)<|Yh (i+1,B) O2 O2 K1 ⟨by rw [d];rfl,by rw [d];rfl,aA⟩
 .obtain rfl:i=3:=O1;refine go 9 ?_;refine cl 85 [2,98] (Mt o (gcR o X Y Z 3) (aB e.b O4) (by rw [h];omega) (aB (Zhs e O4) O4)) λg _=>go 8<|Qb (λ_=>False) [(0,0),(1,1),(2,1),(3,0)]<|go 1<|Yn (Zl 7 [] (Qr 4294967296 ⟨O4,O4⟩)) λS _=>Yn (Zl 7 [85,7] (Gq (x:=o/(gcR o X Y Z 3)) 4294967296 (aB (Hi s e.b) O4))) λ_ _=>?_;refine Xc J J (Xl (dT (Zb0 J J J) (vB (aG ((sgp _).2 (by rw [h];omega))))))<|go 5 ?_;refine dt (Xy [] J aA (λa w hs=>b35_))<|go 6 ?_;exact Nm t () results253 J aA Za
@[reducible,instance] def encCI:EncT prog 33 1 (Nn (α:=List Int)):=⟨pC⟩
theorem Yki{fr to:Int}(o:Int){j:List TzT}{X:List Int}(I:Row3 j X Y Z)(e:Mdh o X Y Z)(a3:o/(Kw o X Y Z)<=4294967296):Cal prog 253 #[.int .i64 fr,.int .i64 to,v,.agg #[.bool (decide (o<0)),w]] [Xn 1 (Nn (α:=List (Int×SL))) qT v j,Pn w (o).natAbs] true (G:=SL×SL×SL) (λr=>True) (λr=> .tuple #[.agg #[.int .i64 fr,.int .i64 to,.int .i64 (o/(Kw o X Y Z)),Xk r.1,Xk r.2.1,Xk r.2.2],.bool true]) (λr=>[Yx 1 Yj (Xk r.1) (Gc X (Kw o X Y Z)),Yx 1 Yj (Xk r.2.1) (Gc Y (Kw o X Y Z)),Yx 1 Yj (Xk r.2.2) (Gc Z (Kw o X Y Z))]):=by
 refine Zg func253 ntmps253 λw0 sc n a4=>?_;have d5:=I.l;obtain⟨c2,a1,c3⟩:=e.g;have c5:=e.o;have d:=gcR_A e;have a2:gcR o X Y Z 3∣o:=by rw [d];exact a1
 have d4:0<=o/Kw o X Y Z:=iZ O1 O1;refine go 2<|Yd (Yk 3) λbq _=>Yd (Zw 4) λa7 _=>go 6<|Yd (Zw 97) λM _=>go 10<|Zf (Xs 2 98 J J J) ?_;refine lp (G:=Nat×Value) [0,1,2,7,8,10] [0,1,2,3,4] (λq=>[(11,.int .i64 (q.1:Int))]) (λq=>[(97,box M 89 #[.bool (decide (gcR o X Y Z q.1<0)),q.2]),(98,Pn q.2 (gcR o X Y Z q.1).natAbs)]) (λq=>q.1<=3) (λq=>3-q.1) (0,w) O2 K1 K2 ?_;rintro⟨i,vs⟩ hi;dsimp only at hi;dsimp only;refine go 7<|Ze J (λN=>?_) (λN=>?_)
 .refine go 4<|Zf (Nd 1 41 (j.getD i T0) J J (Zd O1) J) ?_;have h:=I.e i O1;have a5:(j.getD i T0).2.length=(Zs i X Y Z).length:=by rw [<-Zh,h]
  refine Qb (λ_=>False) [(0,0),(1,0),(2,0),(3,0),(4,0),(5,1),(6,1),(7,3)]<|go 3 ?_;refine Xc J J (Xl (Zv 1 i J J J J Zc Zbj sizeOf47 J))<|Xc J J (Xl (Yw 1 T0 J J J Zc pT))<|Yn (Zl 5 [41] (Zft (by rw [h];exact(e.s i).mono O4) (by have:=e.l i;omega))) λv _=>Yn (Zl 6 [98,5] (Zpo (gcR o X Y Z i) (Yv (Zb (j.getD i T0).2)) (by rw [h];exact aB (Zbt _ (e.s i)) O4) (aB (Zhs e O1) O4))) λa6 _=>?_;refine go 9 ⟨O1,?_⟩;exact Zp (Xs 6 98 J J J)<|Yh (i+1,a6) O2 O2 K1 ⟨by rw [h];rfl,by rw [h];rfl,aA⟩
 .obtain rfl:i=3:=O1;refine go 9 ?_;refine cl 85 [2,98] (Mt o (gcR o X Y Z 3) (aB e.b O4) (by rw [d];omega) (aB (Zhs e O4) O4)) λg _=>go 8<|Qb (λ_=>False) [(0,0),(1,1),(2,1),(3,0)]<|go 1<|Yn (Zl 7 [] (Qr 4294967296 ⟨O4,O4⟩)) λd6 _=>Yn (Zl 7 [85,7] (Gq (x:=o/(gcR o X Y Z 3)) 4294967296 (aB (Hi a2 e.b) O4))) λ_ _=>?_;refine Xc J J (Xl (dF (Zb0 J J J) (vB (aI (λh9=>absurd ((sgp _).1 h9) (by rw [d];omega))))))<|go 17 ?_;refine Zf (Qt 74 1 33 (Nn (α:=List Int)))<|Zf (Yi qC 75)<|lp (G:=Nat×Value×List (SL×List Int)) [0,1,2,7,8,10] [0,97,98,1,2,3,4,85,86,7] (λq=>[(13,.int .i64 (q.1:Int)),(12,q.2.1)]) (λq=>[(74,Oe 1 33 (Nn (α:=List Int)) q.2.1 q.2.2),(75,Nf qC q.2.2)]) (λq=>(q.1<=3)/\(q.2.2.length=q.1)/\(∀t,t<q.1->(q.2.2.getD t Z0).2=Gc (Zs t X Y Z) (Kw o X Y Z))) (λq=>3-q.1) (0,.slice none 0 0,[]) ⟨O2,rfl,λt R=>absurd R (bD t)⟩ K2 K2 ?_;rintro⟨i,vo,cs⟩ ⟨hi,m,D⟩;dsimp only at hi m D;dsimp only;have c4:=e.l i;refine go 7<|Ze J (λP=>?_) (λP=>?_)
  .refine go 5<|Zf (Nd 1 41 (j.getD i T0) J J (Zd O1) J) ?_;have h:=I.e i O1;have a5:(j.getD i T0).2.length=(Zs i X Y Z).length:=by rw [<-Zh,h]
   refine go 11<|Zf (Qt 70 1 3 Yj) ?_;refine lp (G:=Nat×Value) [0,1,2,7,8,10,12,13] [0,74,75,97,98,1,2,3,4,85,86,7,41] (λq=>[(15,.int .i64 (q.1:Int)),(14,q.2)]) (λq=>[(70,Oe 1 3 Yj q.2 (((Zs i X Y Z).take q.1).map (· / (gcR o X Y Z 3))))]) (λq=>q.1<=(Zs i X Y Z).length) (λq=>(Zs i X Y Z).length-q.1) (0,.slice none 0 0) O2 K2 ⟨by rw [eE];rfl,aA⟩ ?_;rintro⟨k,vp⟩ hk;dsimp only at hk;dsimp only;have l:((j.getD i T0).2.getD k I0).1=cf (Zs i X Y Z) k:=by rw [Pa,h]
   refine go 6 ?_;refine dt (Zv 1 i J J J J Zc Zbj sizeOf47 J)<|dt (Yw 1 T0 J J J Zc pT)<|go 4 ?_;refine Ze J (λQ=>?_) (λQ=>?_)
   .refine go 4 ?_;refine jn (G:=Value×Nat) [0,1,2,7,8,10,12,13,14,15] [0,70,74,75,97,98,1,2,3,4,85,86,7,41] (λq=>[(16,.pointer (some ⟨q.2,0,none⟩))]) (λq=>[(83,Pn q.1 (((j.getD i T0).2.getD k I0).1/(gcR o X Y Z 3)).natAbs),(95,box q.2 89 #[.bool (decide (((j.getD i T0).2.getD k I0).1/(gcR o X Y Z 3)<0)),q.1])]) (λq=>True) ?_ ?_
    .refine Pj [1,41,97] [15]<|Zj 8 [(0,0),(1,0),(2,0),(3,0),(4,0),(5,0),(6,0),(7,0)]<|go 2 ?_;refine Xc J J (Ga (Zv 1 i J J J J Zc Zbj sizeOf47 J) K3)<|Xc J J (Ga (Yw 1 T0 J J J Zc pT) K3)<|go 1 ?_;refine Xc J J (Ga (Zv 41 k J J J J Zc Ko Za2 J) K3)<|Xc J J (Ga (Yw 41 I0 J J J Zc pI) K3)<|go 2 ?_;refine Zd7 7 8 12 13 ?_ ?_ ?_
     .refine Lq J J (Xe 83 (Mt ((j.getD i T0).2.getD k I0).1 (gcR o X Y Z 3) (by rw [l];exact aB (e.s i k) O4) (by rw [d];omega) (aB (Zhs e O4) O4)) J J J K2 Ki (Qa 41 J J (Zd O1) (Zm 98 J J J Zn)) J n.h) (λb7 _=>?_);refine Zj 4 [(9,0),(10,0),(11,0)]<|go 4 ?_;refine Qq 3 12 13 ?_ ?_
      .refine Px (Qf 95) λa8 ho=>?_;refine Zj 0 [(13,1),(14,1),(15,3)]<|Yn (Qf 96) λa9 c6=>go 3 ?_;exact Zo<|Oc (_,_) aA K1 K2
      .refine Px (Qf 96) λb0 c7=>?_;refine Zj 0 [(12,1),(14,1),(15,3)]<|Yn (Qf 95) λb1 c8=>go 3 ?_;exact Zo<|Oc (_,_) aA K1 K2
     .refine Px (Qf 95) λb2 c9=>?_;refine Qq 6 8 13 ?_ ?_
      .refine Lq J J (Xe 83 (Mt ((j.getD i T0).2.getD k I0).1 (gcR o X Y Z 3) (by rw [l];exact aB (e.s i k) O4) (by rw [d];omega) (aB (Zhs e O4) O4)) J J J K2 Ki (Qa 41 J J (Zd O1) (Zm 98 J J J Zn)) J n.h) (λb8 _=>?_);refine Zj 0 [(9,0),(10,0),(11,0),(13,1),(14,1),(15,3)]<|go 3 ?_;refine Yn (Qf 96) λb3 d0=>go 3<|Zo ?_;exact Oc (_,_) aA K1 K2
      .refine Px (Qf 96) λS d1=>?_;refine Zj 0 [(8,1),(9,0),(10,0),(11,0),(14,1),(15,3)]<|Kp J (Xe 83 (Mt ((j.getD i T0).2.getD k I0).1 (gcR o X Y Z 3) (by rw [l];exact aB (e.s i k) O4) (by rw [d];omega) (aB (Zhs e O4) O4)) J J J K2 Ki (Qa 41 J J (Zd O1) (Zm 98 J J J Zn)) J n.h) λb9 _=>go 6 ?_;exact Zo<|Oc (_,_) aA K1 K2
     .refine Px (Qf 96) λV d2=>?_;refine Qq 6 8 12 ?_ ?_
      .refine Lq J J (Xe 83 (Mt ((j.getD i T0).2.getD k I0).1 (gcR o X Y Z 3) (by rw [l];exact aB (e.s i k) O4) (by rw [d];omega) (aB (Zhs e O4) O4)) J J J K2 Ki (Qa 41 J J (Zd O1) (Zm 98 J J J Zn)) J n.h) (λc0 _=>?_);refine Zj 0 [(9,0),(10,0),(11,0),(12,1),(14,1),(15,3)]<|go 3 ?_;refine Yn (Qf 95) λW d3=>go 3<|Zo ?_;exact Oc (_,_) aA K1 K2
      .refine Px (Qf 95) λa0 b4=>?_;refine Zj 0 [(8,1),(9,0),(10,0),(11,0),(14,1),(15,3)]<|Kp J (Xe 83 (Mt ((j.getD i T0).2.getD k I0).1 (gcR o X Y Z 3) (by rw [l];exact aB (e.s i k) O4) (by rw [d];omega) (aB (Zhs e O4) O4)) J J J K2 Ki (Qa 41 J J (Zd O1) (Zm 98 J J J Zn)) J n.h) λc1 _=>go 6 ?_;exact Zo<|Oc (_,_) aA K1 K2
    .rintro⟨qv,b6⟩ -;dsimp only;refine go 3 ?_;refine cl 7 [83] (Ych (((j.getD i T0).2.getD k I0).1/(gcR o X Y Z 3)) (by rw [l,d];exact e.fit a3 O1 k)) λ_ _=>?_;refine tt (Xx [(0,_)] 8 (enc:=Yj) ([((j.getD i T0).2.getD k I0).1/(gcR o X Y Z 3)]:List Int) J J K2 Py ti3 J J J J J pZ.cells J J n.h) (λd7 _=>?_);refine tt (Oa 70 8 8 J J J J J J O4 J (Zz pZ) Py ti3 J pZ J J J O9 O4 J n.h) (λd8 _=>?_);refine go 9 ⟨O1,?_⟩;exact Yh (k+1,_) O2 O2 K2 ⟨by rw [l,<-Zwi O1];rfl,aA⟩
   .obtain rfl:k=(Zs i X Y Z).length:=O1;rw [bL];refine go 13<|Ze J (λs=>?_) (λs=>?_)
    .have F:(Zs i X Y Z).length=0:=by rw [bA]at s;omega
     refine go 1 ?_;refine tt (Xx [(0,_)] 94 (enc:=Yj) ([0]:List Int) J J K2 Py ti3 J J J J J pZ.cells J J n.h) λd9 _=>go 3 ?_;refine Zf (Xo 94 J J pZ)<|Zby (Xp 94 J Zr) (λB H=>?_);subst H;refine Zf (Np 94 (q:=Yx 1 Yj (Xk B) (Gc (Zs i X Y Z) (Kw o X Y Z))) (aD (Yx 1 Yj (Xk B)) (dvL_0 F).symm) J J)<|go 3 ?_;refine tt (Xx [(0,_)] 9 (enc:=(Nn (α:=List Int))) ([(B,(Gc (Zs i X Y Z) (Kw o X Y Z)))]:List (SL×List Int)) J J K2 An ti33 J J J J J pC.cells J J n.h) (λe0 _=>?_);refine tt (Oa 74 9 24 J J J J J J O4 J (Zz pC) An ti33 J pC J J J O9 O4 J n.h) (λe1 _=>?_);refine go 9 ⟨O1,?_⟩;exact Zp (Zq (q:=qC) (z:=(B,(Gc (Zs i X Y Z) (Kw o X Y Z)))) 75 94 75 J J J J J)<|Yh (i+1,_,cs ++ [(B,(Gc (Zs i X Y Z) (Kw o X Y Z)))]) ⟨O2,by rw [bG,m];rfl,λt R=>Zhk (λt=>Gc (Zs t X Y Z) (Kw o X Y Z)) m D rfl R⟩ O2 K2 K2
    .have F:¬(Zs i X Y Z).length=0:=by rw [bA]at s;omega
     refine go 2<|Zf (Xo 70 J J pZ) ?_;refine Zby (Xp 70 J Zr) (λB H=>?_);subst H;refine Zf (Np 70 (q:=Yx 1 Yj (Xk B) (Gc (Zs i X Y Z) (Kw o X Y Z))) (aD (Yx 1 Yj (Xk B)) (by rw [d];exact(dvL_n F).symm)) J J)<|go 3 ?_;refine tt (Xx [(0,_)] 10 (enc:=(Nn (α:=List Int))) ([(B,(Gc (Zs i X Y Z) (Kw o X Y Z)))]:List (SL×List Int)) J J K2 An ti33 J J J J J pC.cells J J n.h) (λe2 _=>?_);refine tt (Oa 74 10 24 J J J J J J O4 J (Zz pC) An ti33 J pC J J J O9 O4 J n.h) (λb5 _=>?_);refine go 9 ⟨O1,?_⟩;exact Zp (Zq (q:=qC) (z:=(B,(Gc (Zs i X Y Z) (Kw o X Y Z)))) 75 70 75 J J J J J)<|Yh (i+1,_,cs ++ [(B,(Gc (Zs i X Y Z) (Kw o X Y Z)))]) ⟨O2,by rw [bG,m];rfl,λt R=>Zhk (λt=>Gc (Zs t X Y Z) (Kw o X Y Z)) m D rfl R⟩ O2 K2 K2
  .obtain rfl:i=3:=O1;obtain⟨s1,s2,s3,rfl⟩:=Ylx m D;refine go 6<|Zf (Za8 75 81 (s1,Gc X (Kw o X Y Z)) J J O6 J)<|Zf (Za8 75 82 (s2,Gc Y (Kw o X Y Z)) J J O6 J)<|Zf (Za8 75 83 (s3,Gc Z (Kw o X Y Z)) J J O6 J)<|Qb (λ_=>False) [(0,0),(1,0),(2,0),(4,0),(5,0),(6,0),(7,0),(8,0),(9,0),(10,0),(11,0),(12,0),(3,1),(13,0),(14,3),(15,3)]<|go 5 ⟨O6,?_⟩;refine Xc J J (Xl (Yw 74 Z0 J J J (Zz pC) pC O6))<|go 2 ⟨O6,?_⟩;refine Xc J J (Xl (Yw 74 Z0 J J J (Zz pC) pC O6))<|go 2 ⟨O6,?_⟩;refine Xc J J (Xl (Yw 74 Z0 J J J (Zz pC) pC O6))<|Yn (Zl 10 [85] (Ych (o/(gcR o X Y Z 3)) (by rw [d];omega))) λ_ _=>?_;refine Xc J J (Xl (Xy [(0,_),(1,_),(2,_),(3,_),(4,_),(5,_)] J K12 (λa w hs=>Zok ((Yg J) a w hs) ((Yg J) a w hs) ((Yg J) a w hs) ((Of 81 J Zr) a w hs) ((Of 82 J Zr) a w hs) ((Of 83 J Zr) a w hs))))<|go 5 ?_;exact Nm a4 (s1,s2,s3) results253 (by rw [d];rfl) aA (Ph 81 (Ph 82 (Ph 83 Za)))
def Zmk(y:Int)(hs:Sz 1000000 (Zb zs))(d:zs.length<=1000)(e:bl y.natAbs<=1000000):Cal Tryz.prog 79 #[v,.agg #[.bool (decide (y<0)),w]] [pp v zs,Pn w y.natAbs] true (G:=SL×List (Int×SL)) (λr=>Zb r.2=Zt (Zb zs) y) (λr=>Xk r.1) (λr=>[pp (Xk r.1) r.2]):=
 (Es (v:=v) (w:=w) (zs:=zs) y hs e d).toS
theorem Dy(n j:Int)(k:Nat)(F:j=(k:Int))(s:Nc n)(H:k<=5):Cal prog 154 #[.int .i64 n,.int .i64 j] [] true (G:=Value) (λr=>True) (λr=> .agg #[.bool (decide (n^k<0)),r]) (λr=>[Pn r (n^k).natAbs]):=by
 refine Zg func154 ntmps154 λP M I l=>?_;have g:=Li s;have h:=λk=>Fh g k;refine go 2<|Yd (Zw 1) λD _=>go 4 ?_;refine cl 98 [] (Qr 1 ⟨O4,O4⟩) λv _=>Yd (Zw 97) λd _=>go 10 ?_;refine lp (G:=Nat×Value) [0,1,4,5] [0,1] (λq=>[(6,.int .i64 (q.1:Int))]) (λq=>[(97,box d 89 #[.bool (decide (n^q.1<0)),q.2]),(98,Pn q.2 (n^q.1).natAbs)]) (λq=>q.1<=k) (λq=>k-q.1) (0,_) O2 K1 ⟨by rw [dC];rfl,by rw [dC];rfl,aA⟩ ?_;rintro⟨i,N⟩ hi;dsimp only at hi;dsimp only;have t:=h i;refine go 8<|Ze J (λe=>?_) (λe=>?_)
 .refine go 4<|Qb (λ_=>False) [(0,0),(1,0),(2,1),(3,1),(4,3)]<|go 2<|Yn (Zl 2 [] (Qr n s)) λB _=>Yn (Zl 3 [98,2] (Ni (n^i) n)) λm _=>?_;refine go 9 ⟨O1,?_⟩;exact Zp (Xs 3 98 J J J)<|Yh (i+1,m) O2 O2 K1 ⟨by rw [dD];rfl,by rw [dD];rfl,aA⟩
 .obtain rfl:i=k:=O1;refine go 12 ?_;exact Xh l _ results154 J aA (Ph 98 Za)
theorem Zvw{fr e:Int}{N P Q:SL}(a b:Int)(k:Sgo fr e ov x y z)(hx:∀i,AxC (Zs i x y z) ov)(a8:fr<=a/\a<b/\b<=e)(hM:Mdh (ov*(e-fr)^5) (Pe x (a-fr) (b-a) (e-fr)) (Pe y (a-fr) (b-a) (e-fr)) (Pe z (a-fr) (b-a) (e-fr)))(a2:¬(ov*(e-fr)^5)/(Kw (ov*(e-fr)^5) (Pe x (a-fr) (b-a) (e-fr)) (Pe y (a-fr) (b-a) (e-fr)) (Pe z (a-fr) (b-a) (e-fr)))<=4294967296):Qe prog 205 #[.agg #[.int .i64 fr,.int .i64 e,.int .i64 ov,Xk N,Xk P,Xk Q],.int .i64 a,.int .i64 b] [Yx 1 Yj (Xk N) x,Yx 1 Yj (Xk P) y,Yx 1 Yj (Xk Q) z] (.tuple #[.agg #[.int .i64 0,.int .i64 0,.int .i64 0,.slice none 0 0,.slice none 0 0,.slice none 0 0],.bool false]):=by
 refine Zg func205 ntmps205 λw0 sc hw a4=>?_;have b1:=k.t1;have b2:=k.t2;have b3:=k.t3;have a9:=k.o1;have b0:=k.o2;have a6:bl (e-fr).natAbs<=22:=Bd O1;have a3:bl ov.natAbs<=40:=(Qs 40 _).2 O1;have a0:=Zj3 (d:=e-fr) O1;refine go 2<|Yd (Yk 4) λbq _=>Yd (Zw 5) λa5 _=>?_;refine go 21 ⟨O1,?_⟩;refine cl 60 [1,2,3] Fq λv _=>go 10<|Zf (Qt 70 1 47 (Nn (α:=List (Int×SL))))<|Zf (Yi qT 71) ?_;refine lp (G:=Nat×Value×List TzT) [1,2,3,6,8,10] [0,1,2,3,4,5,60] (λq=>[(11,.int .i64 (q.1:Int)),(9,q.2.1)]) (λq=>[(70,Oe 1 47 (Nn (α:=List (Int×SL))) q.2.1 q.2.2),(71,Nf qT q.2.2)]) (λq=>(q.1<=3)/\(q.2.2.length=q.1)/\(∀t,t<q.1->Zb (q.2.2.getD t T0).2=Pe (Zs t x y z) (a-fr) (b-a) (e-fr))) (λq=>3-q.1) (0,.slice none 0 0,[]) ⟨O2,rfl,λt ht=>absurd ht (bD t)⟩ K2 K2 ?_;rintro⟨i,vo,ws⟩ ⟨hi,j,B⟩;dsimp only at hi j B;dsimp only;have F:=k.hc i;have m:=k.lc i;obtain⟨M,q2,q3,q4,q5,q6,q7,q8⟩:=Zjj (a:=a-fr) (b:=b-a) (d:=e-fr) F m O1 O1 O1;refine go 7<|Ze J (λD=>?_) (λD=>?_)
 .refine go 5<|Zf (Nd 60 40 ([(N,x),(P,y),(Q,z)].getD i C0) J J (Zd (show i<3 by omega)) J)<|Zf (Np 40 (q:=Yx 1 Yj (Xk ([(N,x),(P,y),(Q,z)].getD i C0).1) (Zs i x y z)) (aD (Yx 1 Yj _) (Zfi O1)) J J)<|Lo (λ_=>False) [17] ?_;refine Zj 5 [(0,0),(1,0),(2,0),(3,0),(5,0),(6,0),(7,0),(8,0),(10,0),(11,0),(12,0),(14,0),(4,1)]<|go 2 ?_;refine Xc J J (Xl (Zv 60 i J J J J Zc An Zc7 J (show i<3 by omega)))<|Xc J J (Xl (Yw 60 C0 J J J Zc pC (show i<3 by omega)))<|go 8 ⟨O1,O1,?_⟩;refine Yn (Zl 80 [40] (Aw (Zs i x y z) F O1)) λg hg=>go 1 ?_;have s:Zb g.2=tzl (Zs i x y z):=hg;refine Zj 1 [(9,1),(13,1),(15,1),(16,1)]<|Yn (Zl 81 [] (Qr (a-fr))) λb4 _=>Yn (Zl 82 [] (Qr (b-a))) λb5 _=>Yn (Zl 83 [] (Qr (e-fr))) λb6 _=>Yn (Zl 84 [80,81,82,83] (Zml (a-fr) (b-a) (e-fr) 30 (Zlo F m.2 s).1 (aB (Bd O1) O4) (aB (Bd O1) O4) (aB (Bd O1) O4) (Zlo F m.2 s).2)) λR H=>go 1 ?_;have l:Zb R.2=Lv (tzl (Zs i x y z)) (a-fr) (b-a) (e-fr):=H.trans (by rw [s]);refine Zj 0 [(17,3)]<|go 2 ?_;refine Zo<|go 7 ?_;refine dt (Zv 60 i J J J J Zc An Zc7 J (show i<3 by omega))<|dt (Yw 60 C0 J J J Zc pC (show i<3 by omega))<|cl 85 [40] (Aw (Zs i x y z) F O1) λS I=>?_;have h:Zb S.2=tzl (Zs i x y z):=I;refine go 2 ⟨⟨by have:=Bx h M (n:=60) O4;omega,by have:=Bx h M (n:=60) O4;omega⟩,?_⟩;refine dt (Zc2 J J J)<|go 1 ⟨⟨by have:=Bx h M (n:=60) O4;omega,by have:=Bx h M (n:=60) O4;omega⟩,?_⟩;refine cl 86 [] (Dy (e-fr) _ (6-(Zs i x y z).length) (Ym7 (hx i) h) ⟨O1,O1⟩ O1) λb7 _=>cl 87 [84,86] (Zmk ((e-fr)^(6-(Zs i x y z).length)) (Ze5 l q3) (Bx l q3 O4) (aB q4 O4)) λV a1=>?_;refine tt (Xx [(0,_)] 6 (enc:=Nn) ([V]:List TzT) J J K2 Zbj ti47 J J J J J pT.cells J J hw.h) (λb8 _=>?_);refine tt (Oa 70 6 24 J J J J J J O4 J (Zz pT) Zbj ti47 J pT J J J O9 O4 J hw.h) (λb9 _=>?_);refine go 9 ⟨O1,?_⟩;exact Zp (Zq (q:=qT) (z:=V) 71 87 71 J J J J J)<|Yh (i+1,_,ws ++ [V]) ⟨O2,by rw [bG,j];rfl,λt ht=>Zvj (f:=λt=>Pe (Zs t x y z) (a-fr) (b-a) (e-fr)) j B (a1.trans (by rw [l];rfl)) ht⟩ O2 K2 K2
 .obtain rfl:i=3:=O1;refine go 6<|Zf (Xo 70 J J pT)<|Zf (Xq 70 71 72 J J J J) ?_;have W:=Yb5 j B;refine go 6 ?_;refine cl 88 [] (Qr ov) λc0 _=>go 1 ?_;refine cl 89 [] (Dy (e-fr) 5 5 J ⟨O1,O1⟩ O4) λc1 _=>cl 90 [88,89] (Ni ov ((e-fr)^5) (aB a3 O4) (aB a0 O4)) λa7 _=>cl 6 [72,90] (Zvx (ov*(e-fr)^5) W hM a2) λ_ _=>go 7 ?_;exact Nm a4 () results205 J aA Za
theorem Ykh{fr e:Int}{Q R S:SL}(a b:Int)(k:Sgo fr e ov x y z)(hx:∀i,AxC (Zs i x y z) ov)(a9:fr<=a/\a<b/\b<=e)(hM:Mdh (ov*(e-fr)^5) (Pe x (a-fr) (b-a) (e-fr)) (Pe y (a-fr) (b-a) (e-fr)) (Pe z (a-fr) (b-a) (e-fr)))(a3:(ov*(e-fr)^5)/(Kw (ov*(e-fr)^5) (Pe x (a-fr) (b-a) (e-fr)) (Pe y (a-fr) (b-a) (e-fr)) (Pe z (a-fr) (b-a) (e-fr)))<=4294967296):Cal prog 205 #[.agg #[.int .i64 fr,.int .i64 e,.int .i64 ov,Xk Q,Xk R,Xk S],.int .i64 a,.int .i64 b] [Yx 1 Yj (Xk Q) x,Yx 1 Yj (Xk R) y,Yx 1 Yj (Xk S) z] true (G:=SL×SL×SL) (λr=>True) (λr=> .tuple #[.agg #[.int .i64 a,.int .i64 b,.int .i64 ((ov*(e-fr)^5)/(Kw (ov*(e-fr)^5) (Pe x (a-fr) (b-a) (e-fr)) (Pe y (a-fr) (b-a) (e-fr)) (Pe z (a-fr) (b-a) (e-fr)))),Xk r.1,Xk r.2.1,Xk r.2.2],.bool true]) (λr=>[Yx 1 Yj (Xk r.1) (Gc (Pe x (a-fr) (b-a) (e-fr)) (Kw (ov*(e-fr)^5) (Pe x (a-fr) (b-a) (e-fr)) (Pe y (a-fr) (b-a) (e-fr)) (Pe z (a-fr) (b-a) (e-fr)))),Yx 1 Yj (Xk r.2.1) (Gc (Pe y (a-fr) (b-a) (e-fr)) (Kw (ov*(e-fr)^5) (Pe x (a-fr) (b-a) (e-fr)) (Pe y (a-fr) (b-a) (e-fr)) (Pe z (a-fr) (b-a) (e-fr)))),Yx 1 Yj (Xk r.2.2) (Gc (Pe z (a-fr) (b-a) (e-fr)) (Kw (ov*(e-fr)^5) (Pe x (a-fr) (b-a) (e-fr)) (Pe y (a-fr) (b-a) (e-fr)) (Pe z (a-fr) (b-a) (e-fr))))]):=by
 refine Zg func205 ntmps205 λw0 sc hw a5=>?_;have b2:=k.t1;have b3:=k.t2;have b4:=k.t3;have b0:=k.o1;have b1:=k.o2;have a7:bl (e-fr).natAbs<=22:=Bd O1;have a4:bl ov.natAbs<=40:=(Qs 40 _).2 O1;have a1:=Zj3 (d:=e-fr) O1;refine go 2<|Yd (Yk 4) λbq _=>Yd (Zw 5) λa6 _=>?_;refine go 21 ⟨O1,?_⟩;refine cl 60 [1,2,3] Fq λv _=>go 10<|Zf (Qt 70 1 47 (Nn (α:=List (Int×SL))))<|Zf (Yi qT 71) ?_;refine lp (G:=Nat×Value×List TzT) [1,2,3,6,8,10] [0,1,2,3,4,5,60] (λq=>[(11,.int .i64 (q.1:Int)),(9,q.2.1)]) (λq=>[(70,Oe 1 47 (Nn (α:=List (Int×SL))) q.2.1 q.2.2),(71,Nf qT q.2.2)]) (λq=>(q.1<=3)/\(q.2.2.length=q.1)/\(∀t,t<q.1->Zb (q.2.2.getD t T0).2=Pe (Zs t x y z) (a-fr) (b-a) (e-fr))) (λq=>3-q.1) (0,.slice none 0 0,[]) ⟨O2,rfl,λt ht=>absurd ht (bD t)⟩ K2 K2 ?_;rintro⟨i,vo,ws⟩ ⟨hi,j,B⟩;dsimp only at hi j B;dsimp only;have F:=k.hc i;have m:=k.lc i;obtain⟨P,q2,q3,q4,q5,q6,q7,q8⟩:=Zjj (a:=a-fr) (b:=b-a) (d:=e-fr) F m O1 O1 O1;refine go 7<|Ze J (λD=>?_) (λD=>?_)
 .refine go 5<|Zf (Nd 60 40 ([(Q,x),(R,y),(S,z)].getD i C0) J J (Zd (show i<3 by omega)) J)<|Zf (Np 40 (q:=Yx 1 Yj (Xk ([(Q,x),(R,y),(S,z)].getD i C0).1) (Zs i x y z)) (aD (Yx 1 Yj _) (Zfi O1)) J J)<|Lo (λ_=>False) [17] ?_;refine Zj 5 [(0,0),(1,0),(2,0),(3,0),(5,0),(6,0),(7,0),(8,0),(10,0),(11,0),(12,0),(14,0),(4,1)]<|go 2 ?_;refine Xc J J (Xl (Zv 60 i J J J J Zc An Zc7 J (show i<3 by omega)))<|Xc J J (Xl (Yw 60 C0 J J J Zc pC (show i<3 by omega)))<|go 8 ⟨O1,O1,?_⟩;refine Yn (Zl 80 [40] (Aw (Zs i x y z) F O1)) λg hg=>go 1 ?_;have s:Zb g.2=tzl (Zs i x y z):=hg;refine Zj 1 [(9,1),(13,1),(15,1),(16,1)]<|Yn (Zl 81 [] (Qr (a-fr))) λb5 _=>Yn (Zl 82 [] (Qr (b-a))) λb6 _=>Yn (Zl 83 [] (Qr (e-fr))) λb7 _=>Yn (Zl 84 [80,81,82,83] (Zml (a-fr) (b-a) (e-fr) 30 (Zlo F m.2 s).1 (aB (Bd O1) O4) (aB (Bd O1) O4) (aB (Bd O1) O4) (Zlo F m.2 s).2)) λV H=>go 1 ?_;have l:Zb V.2=Lv (tzl (Zs i x y z)) (a-fr) (b-a) (e-fr):=H.trans (by rw [s]);refine Zj 0 [(17,3)]<|go 2 ?_;refine Zo<|go 7 ?_;refine dt (Zv 60 i J J J J Zc An Zc7 J (show i<3 by omega))<|dt (Yw 60 C0 J J J Zc pC (show i<3 by omega))<|cl 85 [40] (Aw (Zs i x y z) F O1) λW I=>?_;have h:Zb W.2=tzl (Zs i x y z):=I;refine go 2 ⟨⟨by have:=Bx h P (n:=60) O4;omega,by have:=Bx h P (n:=60) O4;omega⟩,?_⟩;refine dt (Zc2 J J J)<|go 1 ⟨⟨by have:=Bx h P (n:=60) O4;omega,by have:=Bx h P (n:=60) O4;omega⟩,?_⟩;refine cl 86 [] (Dy (e-fr) _ (6-(Zs i x y z).length) (Ym7 (hx i) h) ⟨O1,O1⟩ O1) λb8 _=>cl 87 [84,86] (Zmk ((e-fr)^(6-(Zs i x y z).length)) (Ze5 l q3) (Bx l q3 O4) (aB q4 O4)) λgt a2=>?_;refine tt (Xx [(0,_)] 6 (enc:=Nn) ([gt]:List TzT) J J K2 Zbj ti47 J J J J J pT.cells J J hw.h) (λb9 _=>?_);refine tt (Oa 70 6 24 J J J J J J O4 J (Zz pT) Zbj ti47 J pT J J J O9 O4 J hw.h) (λc0 _=>?_);refine go 9 ⟨O1,?_⟩;exact Zp (Zq (q:=qT) (z:=gt) 71 87 71 J J J J J)<|Yh (i+1,_,ws ++ [gt]) ⟨O2,by rw [bG,j];rfl,λt ht=>Zvj (f:=λt=>Pe (Zs t x y z) (a-fr) (b-a) (e-fr)) j B (a2.trans (by rw [l];rfl)) ht⟩ O2 K2 K2
 .obtain rfl:i=3:=O1;refine go 6<|Zf (Xo 70 J J pT)<|Zf (Xq 70 71 72 J J J J) ?_;have a0:=Yb5 j B;refine go 6 ?_;refine cl 88 [] (Qr ov) λc1 _=>go 1 ?_;refine cl 89 [] (Dy (e-fr) 5 5 J ⟨O1,O1⟩ O4) λc2 _=>cl 90 [88,89] (Ni ov ((e-fr)^5) (aB a4 O4) (aB a1 O4)) λa8 _=>cl 101 [72,90] (Yki (ov*(e-fr)^5) a0 hM a3) λ⟨sm,M,N⟩ _=>go 7 ?_;exact Nm a5 (sm,M,N) results205 J aA (Ph 101 (Ph 102 (Ph 103 Za)))
theorem Ycj{ps:List Zk}{fr k:Int}(M:∀g∈ps,Gin g)(F:Yf ps=true):Cal prog 156 #[v,.int .i64 fr,.int .i64 k] [Xn 6 Xv qG v ps] true (G:=Value×List Zk) (λg=>g.2.map Gx=Zbf fr k ps) (λg=> .tuple #[g.1,.bool (Pu fr k ps)]) (λg=>[Xn 6 Xv qG g.1 g.2]):=by
 refine Zg func156 ntmps156 λw0 sc S D=>?_;refine Pi (Mi (i:=1) J Zc) (λR=>?_);obtain⟨-,a0,a1⟩:=Qd F;have N:=Zr1 M F;have P:=(Zbu M F).2.1;refine go 18<|Zf (Qt 74 6 35 Xv)<|Zf (Yi qG 76) ?_;refine lp (G:=Nat×Value×List Zk) [0,1,2] [0,1] (λq=>[(9,.int .i64 (q.1:Int)),(8,q.2.1)]) (λq=>[(74,Oe 6 35 Xv q.2.1 q.2.2),(76,Nf qG q.2.2)]) (λq=>(q.1<=ps.length)/\(Ztm fr k ps ((ps.take q.1).filter (Kq fr k)).length q.2.2)) (λq=>ps.length-q.1) (0,.slice none 0 0,[]) ⟨O2,Yn6 fr k ps⟩ K2 K2 ?_;rintro⟨i,V,zs⟩ ⟨hi,s⟩;dsimp only at hi s;dsimp only;have a2:=Yn4 s (aB (fl_le ps (Kq fr k) i) hi);refine go 9<|Ze J (λt=>?_) (λt=>?_)
 .refine go 5<|Qb (λ_=>False) [(0,0),(1,0),(2,0),(3,0),(4,0),(5,0),(6,0),(7,0),(8,0),(9,0),(10,0),(11,0),(12,0),(13,0),(14,0),(15,3)]<|go 3 ?_;refine Xc J J (Xl (Zv 1 i J J J J Zc Lz Ir J))<|Xc J J (Xl (Mb 1 J J J Zc Dl J Kx J))<|Xc J J (Xl (Mj 1 G0 J J J Zc iA3 J))<|Xc J J (Xl (Zc2 J J J))<|go 3 ?_;refine Xc J J (Xl (Zv 1 i J J J J Zc Lz Ir J))<|Xc J J (Xl (Mb 1 J J J Zc Dl J Kx J))<|Xc J J (Xl (Mj 1 G0 J J J Zc iA3 J))<|Xc J J (Xl (Zqe J J J))<|go 12 ?_;refine Ze J (λl=>?_) (λl=>?_)
  .have j:Kq fr k (ps.getD i G0)=false:=aI (by have W:=l;unfold cA cB;omega);refine go 9 ⟨O1,?_⟩;exact Yh (i+1,V,zs) ⟨O2,by rw [fl_f (d:=G0) O1 j];exact s⟩ O2 K2 K2
  .have j:Kq fr k (ps.getD i G0)=true:=aG (by have W:=l;unfold cA cB;omega);have m:=N _ (Zd (d:=G0) (show i<ps.length by omega));have n:=P _ (Zd (d:=G0) (show i<ps.length by omega));have B:=Zzs (M _ (Zd (d:=G0) (show i<ps.length by omega))) n j;refine go 3 ?_;cases hck:Zd0 fr k (ps.getD i G0)
   .refine Zf (Pf (ps.getD i G0) ((ps.getD i G0).2.1) 1 51 J J (Zd O1) O6)<|Zf (Pf (ps.getD i G0) ((ps.getD i G0).2.2.1) 1 52 J J (Zd O1) O6)<|Zf (Pf (ps.getD i G0) ((ps.getD i G0).2.2.2) 1 53 J J (Zd O1) O6)<|go 3 ?_;refine dt (Zv 1 i J J J J Zc Lz Ir J)<|dt (Yw 1 G0 J J J Zc pG)<|go 2 ?_;refine cl 1 [51,52,53] (Zvw (cA fr (ps.getD i G0)) (cB k (ps.getD i G0)) m (Yby n) (Yec m j) B (fY hck)) λ_ _=>go 3<|Yd (Zw 2) λbq _=>go 25<|Zp (Ci 72 6 Xv qG) ?_;exact Nm D (.slice none 0 0,[]) results156 (by rw [Yak (Zsx O1 j) hck]) (Yn2 (Yak (Zsx O1 j) hck)).1 (Ph 72 Za)
   .refine Zf (Pf (ps.getD i G0) ((ps.getD i G0).2.1) 1 51 J J (Zd O1) O6)<|Zf (Pf (ps.getD i G0) ((ps.getD i G0).2.2.1) 1 52 J J (Zd O1) O6)<|Zf (Pf (ps.getD i G0) ((ps.getD i G0).2.2.2) 1 53 J J (Zd O1) O6)<|go 3 ?_;refine dt (Zv 1 i J J J J Zc Lz Ir J)<|dt (Yw 1 G0 J J J Zc pG)<|go 2 ?_;refine cl 90 [51,52,53] (Ykh (cA fr (ps.getD i G0)) (cB k (ps.getD i G0)) m (Yby n) (Yec m j) B (cC hck)) λ⟨sm,e,h⟩ _=>go 3<|Yd (Zw 3) λQ _=>go 17 ?_;refine tt (Xx [(0,_)] 4 (enc:=Xv) [(Zva fr k (ps.getD i G0) (sm,e,h))] J J K2 Lz ti35 J J Zjf J J pG.cells J J S.h) (λv _=>?_);refine tt (Oa 74 4 96 J J J J J J O4 J (Zz pG) Lz ti35 J pG J J J O9 O4 J S.h) (λa3 _=>?_);refine go 9 ⟨O1,?_⟩;exact Zp (Yi qC 71)<|Zp (Zq (q:=qC) (z:=(Zva fr k (ps.getD i G0) (sm,e,h)).2.1) 71 90 71 J J J J J)<|Zp (Zq (q:=qC) (z:=(Zva fr k (ps.getD i G0) (sm,e,h)).2.2.1) 71 91 71 J J J J J)<|Zp (Zq (q:=qC) (z:=(Zva fr k (ps.getD i G0) (sm,e,h)).2.2.2) 71 92 71 J J J J J)<|Zp (Zq (q:=qG) (z:=(Zva fr k (ps.getD i G0) (sm,e,h))) 76 71 76 J J J J J)<|Yh (i+1,_,zs ++ [(Zva fr k (ps.getD i G0) (sm,e,h))]) ⟨O2,by rw [fl_t (d:=G0) O1 j];exact cutI_y s (Zsx O1 j) hck (cut_un hck)⟩ O2 K2 K2
 .obtain rfl:i=ps.length:=O1;rw [bL]at s;obtain⟨H,I⟩:=Yn5 s;refine go 13<|Zp (Xo 74 J J pG)<|Zp (Xq 74 76 78 J J J J) ?_;exact Nm D (V,zs) results156 (by rw [cut_t I]) H (Ph 78 Za)
def nxF(t c:Int)(ps:List Zk):Nat->Int
 | 0=>c
 | i+1=>if t<(ps.getD i G0).1.1 then min (nxF t c ps i) (ps.getD i G0).1.1 else nxF t c ps i
def Ylh{t c:Int}{ps:List Zk}(h:t<(ps.getD i G0).1.1):nxF t c ps (i+1)=min (nxF t c ps i) (ps.getD i G0).1.1:=aM h
def Ylj{t c:Int}{ps:List Zk}(h:¬t<(ps.getD i G0).1.1):nxF t c ps (i+1)=nxF t c ps i:=aK h
theorem Yli(t c:Int)(ps:List Zk):∀i,nxF t c ps i<=c/\(∀k,k<i->t<(ps.getD k G0).1.1->nxF t c ps i<=(ps.getD k G0).1.1)/\(nxF t c ps i=c\/∃k,k<i/\t<(ps.getD k G0).1.1/\nxF t c ps i=(ps.getD k G0).1.1)
 | 0=>⟨eP _,λk g=>absurd g (bD k),.inl rfl⟩
 | i+1=>by
  obtain⟨s,n,e⟩:=Yli t c ps i;by_cases h:t<(ps.getD i G0).1.1
  .rw [Ylh h];refine⟨O1,λk g j=>?_,?_⟩
   .rcases aY.1 g with d|d
    .have:=n k d j;omega
    .subst d;exact Int.min_le_right _ _
   .by_cases B:nxF t c ps i<=(ps.getD i G0).1.1
    .rw [Int.min_eq_left B];rcases e with e|⟨k,D,l,m⟩
     .exact .inl e
     .exact .inr ⟨k,O1,l,m⟩
    .rw [Int.min_eq_right O1];exact .inr ⟨i,O1,h,rfl⟩
  .rw [Ylj h];refine⟨s,λk g j=>?_,?_⟩
   .rcases aY.1 g with d|d
    .exact n k d j
    .subst d;exact absurd j h
   .rcases e with e|⟨k,D,l,m⟩
    .exact .inl e
    .exact .inr ⟨k,O1,l,m⟩
theorem nx_eq(B:Bks a b){n:Nat}(I:n+1<(Na a b).length):nxF ((Na a b).getD n 0) (nxF ((Na a b).getD n 0) (Dn a b) a a.length) b b.length=(Na a b).getD (n+1) 0:=by
 obtain⟨W,b2,b3⟩:=B.lt n I;have hs:=Yew a b;obtain⟨p1,S,M⟩:=Yli ((Na a b).getD n 0) (Dn a b) a a.length;obtain⟨q1,V,N⟩:=Yli ((Na a b).getD n 0) (nxF ((Na a b).getD n 0) (Dn a b) a a.length) b b.length;generalize nxF ((Na a b).getD n 0) (Dn a b) a a.length=s at *;generalize nxF ((Na a b).getD n 0) s b b.length=r at *;have R:r<=(Na a b).getD (n+1) 0:=by
  rcases Zas.1 (Zd (zs:=Na a b) (i:=n+1) (d:=0) I)with h|h|⟨F,m,⟨g,j,e⟩|⟨g,j,e⟩⟩
  .omega
  .omega
  .obtain⟨k,D,rfl⟩:=cQ.1 j;have l:a.getD k G0=a[k]:=by rw [aL,aO D];rfl
   have:=S k D (by rw [l];omega);rw [l]at this;omega
  .obtain⟨k,D,rfl⟩:=cQ.1 j;have l:b.getD k G0=b[k]:=by rw [aL,aO D];rfl
   have:=V k D (by rw [l];omega);rw [l]at this;omega
 have G:r∈Na a b/\(Na a b).getD n 0<r:=by
  have H:r=Dn a b\/∃g,(g∈a\/g∈b)/\(Na a b).getD n 0<g.1.1/\r=g.1.1:=by
   rcases N with N|⟨k,F,m,t⟩
   .rcases M with M|⟨k,F,m,t⟩
    .exact .inl O1
    .exact .inr ⟨a.getD k G0,.inl (Zd F),m,O1⟩
   .exact .inr ⟨b.getD k G0,.inr (Zd F),m,t⟩
  rcases H with h|⟨g,j,m,t⟩
  .exact⟨Zas.2 (.inr (.inl h)),O1⟩
  .refine⟨?_,O1⟩;by_cases P:r=Dn a b
   .exact Zas.2 (.inr (.inl P))
   .refine Zas.2 (.inr (.inr ⟨O1,O1,?_⟩));rcases j with j|j
    .exact .inl ⟨g,j,t.symm⟩
    .exact .inr ⟨g,j,t.symm⟩
 obtain⟨q,Q,e⟩:=Db.1 G.1;have hl:(Na a b).getD (n+1) 0<=r:=by
  rcases fM q n with c|c|c
  .have:=hs q n c O1;omega
  .subst c;omega
  .rcases gY (show n+1<=q from c)with d|d
   .have:=hs (n+1) q d Q;omega
   .rw [<-d]at e;omega
 omega
theorem Yt2(B:Bks a b){n:Nat}(e:n+1<=(Na a b).length)(h:¬(Na a b).getD n 0<Dn a b):n+1=(Na a b).length:=by
 rcases gY e with d|d
 .obtain⟨g,j,k⟩:=B.lt n d;omega
 .exact d
theorem Yoq(B:Bks a b){n:Nat}(e:n+1<=(Na a b).length)(h:(Na a b).getD n 0<Dn a b):n+1<(Na a b).length:=by
 rcases gY e with d|d
 .exact d
 .have:=B.ls;rw [show(Na a b).length-1=n by omega]at this;omega
end Go.Sky

