/- Rules, arithmetic and contracts: part 13. No conditions but those that each theorem names. -/
import Derived.Test.YteikicbnfbgpnaaGreatDe11
import Derived.ChangeKeysEq
import Derived.RangeFuncFrom
import Derived.RangeFuncLeaves
import Derived.OrdersIn
import Derived.TacticsIn
import Derived.RangeFuncCalls
set_option linter.all false
set_option maxHeartbeats 4000000
namespace Go.Sky
open Go.Proofs.Tryz
open Go.Proofs
set_option synthInstance.maxHeartbeats 0
set_option synthInstance.maxSize 100000
set_option maxRecDepth 20000
set_option maxHeartbeats 1000000
set_option linter.unusedSimpArgs false
variable{xs c:List Int}{i:Nat}{a d:Int}{b:Bool}{M:Nat->Prop}{F:Qt->Hp->Prop}{rest:List (Nat×Nat)}{zs:List (SL×List Int)}{z d0:SL×List Int}{f:Nat->List Int}{args:Array Value}{R:Value->World->Prop}{listed:Array Bool}
theorem Ze3(fr N e:Int)(P Q S:Value)(x y z:List Int)(a d:Int)(h:Sgo fr N e x y z)(m:0<=a/\a<=3600000)(n:1<=d/\d<=3600000):Xo prog 177 #[.agg #[.int .i64 fr,.int .i64 N,.int .i64 e,P,Q,S],.int .i64 a,.int .i64 d] [Ym 1 Yo P x,Ym 1 Yo Q y,Ym 1 Yo S z] (plV (pl x a d/(gS e a d x y z 3)) (pl y a d/(gS e a d x y z 3)) (pl z a d/(gS e a d x y z 3)) (e*d^5/(gS e a d x y z 3))):=by
 refine Zf func177 ntmps177 λw0 sc Y D=>?_;have v:bl a.natAbs<=60:=(Xz 60 _).2 O1;have u:bl d.natAbs<=60:=(Xz 60 _).2 O1;have V:=h.o1;have W:=h.o2;obtain⟨k1,Z⟩:=Zfx h m n 0;refine go 2 ?_;refine Yh (Yi 4) λbx _=>Yh (Zw 5) λH _=>go 4 ?_;refine Yh (Zw 6) λg _=>go 6 ?_;refine cl 6 [] (Zn e) λ_ _=>go 1 ?_;refine cl 6 [] (Gu d 5 u O4 O4) λ_ _=>cl 6 [] (Cr e (d^5) (aB ((Xz 40 _).2 O1) (by decide:40<=30000)) (aB (Zhb (a:=d) ⟨O1,O1⟩ (k:=5) O4) O4)) λ_ _=>Yh (Zw 7) λI _=>go 6 ?_;refine Yh (Zw 8) λp _=>go 7 ?_;refine cl 8 [1,2,3] (Zny _ _ _ _ _ _ _ _ _) λ_ _=>go 4 ?_;refine Zg (Om 6 (q:=box g 166 (cellsOf wv (List.replicate 3 (0:Int))).toArray) (aK (box g 166) (show _=(cellsOf wv (List.replicate 3 (0:Int))).toArray from J)) J J)<|lp (G:=Nat) [1,2,6,7,8,9,22] [0,1,2,3,4,5,7] (λi=>[(23,.int .i64 (i:Int))]) (λi=>[(6,box g 166 (cellsOf wv (atS a d x y z i)).toArray),(8,box p 80 (wc (gS e a d x y z i)))]) (λi=>i<=3) (λi=>3-i) 0 O2 K1 K2 ?_;rintro i hi;have o:=h.hc i;have B:=h.lc i;obtain⟨g1,r⟩:=Zfx h m n i;refine go 6 ?_;refine Zc J (λs=>?_) (λs=>?_)
 .refine go 5 ?_;refine Zg (Zbn i 1 2 3 50 J J J J J J)<|go 2 ?_;refine dt (Znc (i:=i) J J J underlying182 Zi0 isAgg33 J)<|go 13 ?_;refine lp (G:=Nat) [1,2,6,7,8,9,10,22,23,27,28] [0,8,1,2,3,4,5,7,50] (λk=>[(29,.int .i64 (k:Int))]) (λk=>[(6,box g 166 (cellsOf wv ((atS a d x y z i).set i (plS (Zk i x y z) a d k))).toArray)]) (λk=>k<=(Zk i x y z).length) (λk=>(Zk i x y z).length-k) 0 O2 K1 ⟨by rw [show((atS a d x y z i).set i (plS (Zk i x y z) a d 0))=(atS a d x y z i)from(Yh9 a d x y z O1).symm];rfl,aA⟩ ?_;rintro k hk;refine go 6 ?_;refine Zc J (λt=>?_) (λt=>?_)
  .refine go 13 ⟨O3,O3,?_⟩;refine Xw (λ_=>False) [(0,0),(1,0),(2,0),(3,0),(4,0),(6,0),(7,0),(9,0),(10,0),(11,0),(5,1),(8,1),(12,1),(13,1),(14,1),(15,1),(16,0),(17,3)]<|go 2 ?_;refine Xn J J (Xr (Ii (i:=i) J J J Zi8 Lf J))<|Xn J J (Xr (Xq (r':=wv (plS (Zk i x y z) a d k)) (Zs5 (i:=6) (enc:=wv) (j:=i) (l:=((atS a d x y z i).set i (plS (Zk i x y z) a d k))) 0 J J J pV (by rw [cH,Ce];omega)) (aK wv (Zrc _ (by rw [Ce];omega)))))<|go 6 ⟨O1,?_⟩;refine Yv (Zj 8 [] (Zn ((Zk i x y z).getD k 0) (Mp o k))) λ_ _=>Yv (Zj 8 [] (Gu a (k:Int) v O1 O1)) λ_ _=>Yv (Zj 8 [] (Gu d (5-(k:Int)) u O1 O1)) λ_ _=>Yv (Zj 8 [] (Cr (a^k) (d^(5-(k:Int)).toNat) (aB (Zhb m O1) O4) (aB (Zhb (a:=d) ⟨O1,O1⟩ O1) O4))) λ_ _=>Yv (Zj 8 [] (Cr ((Zk i x y z).getD k 0) (a^k*d^(5-(k:Int)).toNat) (aB (Hy (Mp o k)) O4) (aB (Zqa o m n (k:=k) O1).1 O4))) λ_ _=>Yv (Zj 8 [] (Zjj (plS (Zk i x y z) a d k) (plT (Zk i x y z) a d k) (aB (Zch o m n O1) O4) (aB (Zqa o m n O1).2 O4))) λ_ _=>?_;refine Xn J J (Xr (Ii (i:=i) J J J Zi8 Lf J))<|r3' J (t_sbe (i:=6) (j:=i) (k:=2) (enc:=wv) ((plS (Zk i x y z) a d k)+plT (Zk i x y z) a d k) J J J J J pV (by rw [cH,Ce];omega) J Y.h aA) (λ_ _=>?_);refine go 7 ⟨O1,?_⟩;exact Yq (k+1) O2 O2 K1 ⟨by rw [List.set_set];rfl,aA⟩
  .obtain rfl:k=(Zk i x y z).length:=O1;refine go 5 ?_;refine Xw (λ_=>False) [(0,0),(1,0),(2,0),(3,0),(4,1),(5,3)]<|go 2 ?_;refine Xn J J (Xr (Ii (i:=i) J J J Zi8 Lf J))<|Xn J J (Xr (Xq (r':=wv (pl (Zk i x y z) a d)) (Zs5 (i:=6) (enc:=wv) (j:=i) (l:=((atS a d x y z i).set i (pl (Zk i x y z) a d))) 0 J J J pV (by rw [cH,Ce];omega)) (aK wv (Zrc _ (by rw [Ce];omega)))))<|Yv (Zj 8 [] (Znx (gS e a d x y z i) (pl (Zk i x y z) a d) (aB r O4) (aB (Zch o m n B.2) O4))) λ_ _=>?_;refine go 8 ⟨O1,?_⟩;exact Yq (i+1) O2 O2 K1 K2
 .obtain rfl:i=3:=O1;refine go 6 ?_;refine Xw (λ_=>False) [(0,0),(1,0),(2,0),(4,0),(5,0),(6,0),(8,0),(9,0),(10,0),(12,0),(13,0),(3,1),(7,1),(11,1),(14,1),(15,0),(16,3)]<|Xn J J (Xr (Ii (i:=0) J J J Zi8 Lf J))<|Xn J J (Xr (Xq (r':=wv (pl x a d)) (Zs5 (i:=6) (enc:=wv) (j:=0) (l:=(atS a d x y z 3)) 0 J J J pV (by rw [Ce];decide)) (aK wv J)))<|go 1 ?_;refine Xn J J (Xr (Ii (i:=1) J J J Zi8 Lf J))<|Xn J J (Xr (Xq (r':=wv (pl y a d)) (Zs5 (i:=6) (enc:=wv) (j:=1) (l:=(atS a d x y z 3)) 0 J J J pV (by rw [Ce];decide)) (aK wv J)))<|go 1 ?_;refine Xn J J (Xr (Ii (i:=2) J J J Zi8 Lf J))<|Xn J J (Xr (Xq (r':=wv (pl z a d)) (Zs5 (i:=6) (enc:=wv) (j:=2) (l:=(atS a d x y z 3)) 0 J J J pV (by rw [Ce];decide)) (aK wv J)))<|go 3 ?_;refine Yv (Zj 8 [] (Zd5 (pl x a d) (gS e a d x y z 3) (aB (Zch h.hx m n h.lx.2) O4) (aB r O4) O1)) λ_ _=>Yv (Zj 8 [] (Zd5 (pl y a d) (gS e a d x y z 3) (aB (Zch h.hy m n h.ly.2) O4) (aB r O4) O1)) λ_ _=>Yv (Zj 8 [] (Zd5 (pl z a d) (gS e a d x y z 3) (aB (Zch h.hz m n h.lz.2) O4) (aB r O4) O1)) λ_ _=>Yv (Zj 8 [] (Zd5 (e*d^5) (gS e a d x y z 3) (aB Z O4) (aB r O4) O1)) λ_ _=>?_;refine Xn J J (Xr (Qa (ivs:=[(0,_),(1,_),(2,_),(3,_)]) J K8 (λa w hs=>Zni)))<|go 4 ?_;exact Xj D () results177 J aA Za
def eg162:Tryz.prog.eqGuardType Tryz.prog.depth 162=false:=O6
theorem eqlP(w:World)(p q r o g h r' e:Int):(binOp .eql 162 (plV p q r o) (plV g h r' e)).run Tryz.prog w= .ok (.bool (decide (p=g/\q=h/\r=r'/\o=e))) w:=by
 have k:Tryz.prog.stoodInHeld 162=false:=O6;have j:Tryz.prog.underlying 162=some (.struct (Tryz.prog.fieldsOf 162)):=by unfold Program.fieldsOf;rw [Tryz.underlying162]
 rw [run_eql_struct,run_equalIn_agg w 9999 162 _ _ j k];unfold Program.fieldsOf;rw [Tryz.underlying162];simp [Op.eqFields,part,Tryz.isAgg80,Tryz.sizeOf80,in80,Ygb];by_cases l:p=g<;>by_cases m:q=h<;>by_cases n:r=r'<;>by_cases s:o=e<;>simp_all
def litb(l:List Int):Bool:=(l.all λx=>decide (-1000000<=x) && decide (x<=1000000)) && (decide (tzl l=l) && decide (l.length<=25))
instance eokDec:∀f a b,Decidable (eok f a b)
 | 0,_,b=>inferInstanceAs (Decidable (b=[]))
 | f+1,a,b=>@instDecidableOr _ _ _ (@instDecidableAnd _ _ _ (eokDec f b (Zu (Qb a b))))
def lessx(xs:List Int)(m:Int):List Int:=Cb xs (tzl [m])
def Ztw(xs:List Int)(m:Int):Prop:=∃x:Rat,0<=x/\x<=1/\Zb xs x<(m:Rat)
theorem Yau{m n:Int}(h:Ztw xs m)(e:m<=n):Ztw xs n:=by
 obtain⟨x,a,b,c⟩:=h;have:(m:Rat)<=(n:Rat):=by exact_mod_cast e
 exact⟨x,a,b,O5⟩
def lws:List Int->Int
 | []=>0
 | c::p=>-(c.natAbs:Int)+lws p
theorem Ye1{n:Nat} : ∀p:List Int,(∀c∈p,c.natAbs<=n)->-((p.length*n:Nat):Int)<=lws p/\lws p<=0
 | [],_=>by show -((0*n:Nat):Int)<=0/\(0:Int)<=0;omega
 | c::p,h=>by have g:=Ye1 p λd e=>h d (bF _ e);have j:=h c bT;show -(((p.length+1)*n:Nat):Int)<=-(c.natAbs:Int)+lws p/\-(c.natAbs:Int)+lws p<=0;rw [eF];omega
theorem Zxj{x:Rat}(g:0<=x)(k:x<=1):∀p:List Int,((lws p:Int):Rat)<=Zb p x
 | []=>by show((0:Int):Rat)<=0;exact iH
 | c::p=>by
  have j:=Zxj g k p;have o:=(Ye1 (n:=p.foldl (λm c=>max m c.natAbs) 0) p (λc e=>by
   have:∀(l:List Int) (a:Nat),(a<=l.foldl (λm c=>max m c.natAbs) a)/\∀c∈l,c.natAbs<=l.foldl (λm c=>max m c.natAbs) a:=λl=>by
    induction l with
    | nil=>intro a;exact⟨aI _,λc e=>absurd e O7⟩
    | cons d l j=>
     intro a;obtain⟨h,s⟩:=j (max a d.natAbs);refine⟨aB (Nat.le_max_left _ _) h,λc e=>?_⟩;rcases bJ.1 e with rfl|e
     .exact aB (Nat.le_max_right _ _) h
     .exact s c e
   exact(this p 0).2 c e)).2
  have q:((lws p:Int):Rat)<=0:=by exact_mod_cast o
  have e:((-(c.natAbs:Int):Int):Rat)<=(c:Rat):=by exact_mod_cast (show -(c.natAbs:Int)<=c by omega)
  have t:=aG (show 0<=1-x by grind) (show 0<=-((lws p:Int):Rat) by grind);have r:=aG g (show 0<=Zb p x-((lws p:Int):Rat) by grind);show((-(c.natAbs:Int)+lws p:Int):Rat)<=(c:Rat)+x*Zb p x;push_cast at e ⊢;grind
theorem Ye4(xs:List Int):¬Ztw xs (lws xs):=by rintro⟨x,a,b,c⟩;have:=Zxj a b xs;grind
theorem Yj4(xs:List Int):Zb xs 0=((cf xs 0:Int):Rat):=by
 cases xs with
 | nil=>rfl
 | cons c p=>show(c:Rat)+0*Zb p 0=(c:Rat);grind
theorem Yav(xs:List Int):Ztw xs (cf xs 0+1):=by refine⟨0,O5,O4,?_⟩;rw [Yj4];push_cast;grind
theorem Ykq{l h:Int}(e:¬Ztw xs l)(g:Ztw xs h):l<h:=by
 rcases fY l h with q|q
 .exact q
 .exact absurd (Yau g q) e
def Zq1(hs:Sz 40 xs)(i:Nat):(cf xs i).natAbs<1099511627776:=(Xz 40 _).1 (hs i)
theorem Ye0(hs:Sz 40 xs)(p:xs.length<=9)(i:Nat):-9895604649984<=lws (xs.take i)/\lws (xs.take i)<=0:=by
 obtain⟨l,g⟩:=Ye1 (n:=1099511627776) (xs.take i) λc h=>by
  obtain⟨k,j,rfl⟩:=eT.1 h;have o:=Zq1 hs k;rw [aR]at j;have e:(xs.take i)[k]=cf xs k:=by rw [List.getElem_take];unfold cf;rw [aF,aL O1];rfl
  rw [e];omega
 have m:(xs.take i).length*1099511627776<=9*1099511627776:=aN _ (by rw [aR];omega);exact⟨O1,g⟩
structure FlI (xs:List Int) (lo hi:Int):Prop where
 l:¬Ztw xs lo
 h:Ztw xs hi
 b1:-17592186044416<=lo
 b2:hi<=17592186044416
def FlI.lt{lo hi:Int}(h:FlI xs lo hi):lo<hi:=Ykq h.l h.h
theorem FlI.start(hs:Sz 40 xs)(e:xs.length<=9)(hi:xs.length<=i):FlI xs (lws (xs.take i)) (cf xs 0+1):=by have g:=Ye0 hs e i;have h:=Zq1 hs 0;refine⟨by rw [bZ hi];exact Ye4 xs,Yav xs,O1,O1⟩
structure Ef (a:R2):Prop where
 p:0<a.2
 b1:bl a.1.natAbs<=512
 b2:bl a.2.natAbs<=512
def E32.ef{a:R2}(h:E32 a):Ef a:=⟨h.p,aB h.b1 O4,aB h.b2 O4⟩
def plx(a b:R2):Int:=a.1*b.2
def ply(a b:R2):Int:=b.1*a.2
def pld(a b:R2):Int:=a.2*b.2
def plc(xs:List Int)(a b:R2):List Int:=Ke xs (plx a b) (ply a b-plx a b) (pld a b)
def Yj9(c:List Int)(d j:Nat)(i:Nat):Int:=Yd (λi=>cf c i*(Pp (d-i) (j-i):Int)) i
def plainB(xs:List Int)(a b:R2):Bool:=if xs.length=0 then true else(List.range xs.length).all λj=>decide (0<=Yj9 (plc xs a b) (xs.length-1) j (min (j+1) (plc xs a b).length))
abbrev PTs:=Int×R2×R2
abbrev P0:PTs:=(0,(0,0),(0,0))
abbrev encP9 (z:PTs):Value:= .agg #[.int .i64 z.1,.bool (decide (z.2.1.1<0)),.string (Xu z.2.1.1.natAbs),.bool (decide (z.2.1.2<0)),.string (Xu z.2.1.2.natAbs),.bool (decide (z.2.2.1<0)),.string (Xu z.2.2.1.natAbs),.bool (decide (z.2.2.2<0)),.string (Xu z.2.2.2.natAbs)]
def shw(xs:List Int)(z:PTs):Bool:=if z.1=1 then plainB xs z.2.1 z.2.2 else if xs.length=0\/cmp z.2.1 z.2.2=0 then decide (0<=vlu (Og xs) z.2.1)else decide (0<aft (Og xs) z.2.1) && !crb (chx xs) z.2.1 z.2.2
def okpB(xs:List Int)(l:R2)(z:PTs):Bool:=decide (cmp l z.2.1=0) && decide (¬0<cmp z.2.1 z.2.2) && shw xs z
def lst(a:R2)(ps:List PTs)(i:Nat):R2:=if i=0 then a else(ps.getD (i-1) P0).2.2
def chkP(xs:List Int)(ps:List PTs)(a b:R2):Bool:=decide (0<ps.length) && (List.range ps.length).all (λk=>okpB xs (lst a ps k) (ps.getD k P0)) && decide (cmp (lst a ps ps.length) b=0)
def ValP(ps:List PTs):Prop:=∀z∈ps,(z.1=1\/z.1=2)/\Ef z.2.1/\Ef z.2.2
theorem Ef.efit{a:R2}(h:Ef a):Go.Sky.efit a=true:=by have:=h.b1;have:=h.b2;unfold Go.Sky.efit;exact aM O1
theorem Zvq(h:(!b)=true):b=false:=by cases b<;>simp_all
theorem Zvr(h:(!b)=false):b=true:=by cases b<;>simp_all
theorem Cl {P:Program} {N:Nat} {sc:Nat->Prop} {env:Qt} {H:Hp}  {ops:Array Oper}   {o:Oper} {d j e:Nat}  (q:ops[i]? = some o) (n:o.guard=some (j,b)) (p:(ops[j]?).bind (·.dst)=some e) (m:lk env e=some undef) (l:o.dst=some d) 
  (h:LD P N sc M ops F rest ((d,undef)::env) H) (k:Nat.blt d N=true:=by rfl):LD P N sc M ops F ((i,2)::rest) env H:=⟨o,d,q,l,k,λa w g=>by simp [Region.wanted,n,g.yieldedu p m],h⟩
theorem Ycs(fr k r e l h:Int)(D G H m o p:Value)(x y z s t u:List Int)(I:Sgo fr k r x y z)(q:Sgo e l h s t u):Xo prog 159 #[.agg #[.int .i64 fr,.int .i64 k,.int .i64 r,D,G,H],.agg #[.int .i64 e,.int .i64 l,.int .i64 h,m,o,p]] [Ym 1 Yo D x,Ym 1 Yo G y,Ym 1 Yo H z,Ym 1 Yo m s,Ym 1 Yo o t,Ym 1 Yo p u] (.bool (Zht k r x y z e h s t u)):=by
 refine Zf func159 ntmps159 λQ P B j=>go 2 ?_;refine Yh (Yi 7) λN _=>Yh (Yi 8) λv _=>go 4 ?_;rcases(show k=e\/k≠e by omega)with g|g
 .refine Xw (λ_=>False) [(0,0),(1,0),(2,0),(3,0),(4,0),(5,0),(6,0),(8,0),(7,1),(9,1),(10,0),(11,0),(12,3)]<|go 4 ?_;refine Xn J J (Xr (dT (Yg1 J J J) (vB (aM g))))<|go 3 ?_;refine Zj0 J J J J J (Pt (n:=8) (Ze3 _ _ _ _ _ _ _ _ _ 1 1 I ⟨O4,O4⟩ ⟨O4,O4⟩) J J J K3 call177 (Zt 1 J J J (Zt 2 J J J (Zt 3 J J J Zx))) J B.h) (λ_ _=>?_);refine Zj0 J J J J J (Pt (n:=8) (Ze3 _ _ _ _ _ _ _ _ _ 0 1 q ⟨O4,O4⟩ ⟨O4,O4⟩) J J J K3 call177 (Zt 4 J J J (Zt 5 J J J (Zt 6 J J J Zx))) J B.h) (λ_ _=>?_);refine r0g (Xr (Zyp J J J eg162 (λw=>eqlP w _ _ _ _ _ _ _ _))) J J J J J<|go 5 ?_;exact Xj j () results159 (by unfold Zht;rw [aM g];rfl) aA Za
 .refine Xw (λ_=>False) [(0,0),(1,0),(2,0),(3,0),(4,0),(5,0),(6,2),(8,2),(7,2),(9,2),(10,2),(11,0),(12,3)]<|go 4 ?_;refine Xn J J (Xr (dF (Yg1 J J J) (vB (aJ g))))<|go 11 ?_;exact Xj j () results159 (by unfold Zht;rw [aJ g];rfl) aA Za
theorem Ff(v:Value)(ps:List Zi)(u:∀g∈ps,Gin g):Xo prog 89 #[v] [Qc 6 Pd qG v ps] (.bool (Yt ps)):=by
 refine Zf func89 ntmps89 λB y w l=>?_;refine Oi (Ip (i:=1) J Zd) λt=>go 14 ?_;refine lp (G:=Nat) [0,5,6] [0,1] (λi=>[(7,.int .i64 (i:Int))]) (λi=>[]) (λi=>(i<=ps.length)/\(∀k,k<i->Zdf ps k=true)) (λi=>ps.length-i) 0 ⟨O2,λk o=>absurd o (cI k)⟩ K1 aA ?_;rintro i ⟨hi,o⟩;refine go 6 ?_;refine Zc J (λp=>?_) (λp=>?_)
 .refine go 5 ?_;have h:=u _ (Ze (d:=G0) (show i<ps.length by omega));refine Zg (Qe (g:=(ps.getD i G0)) (z:=(ps.getD i G0).2.1) 1 51 J J (Ze) O7)<|Zg (Qe (g:=(ps.getD i G0)) (z:=(ps.getD i G0).2.2.1) 1 52 J J (Ze) O7)<|Zg (Qe (g:=(ps.getD i G0)) (z:=(ps.getD i G0).2.2.2) 1 53 J J (Ze) O7)<|go 3 ⟨O3,?_⟩;refine dt (Pe (ii:=1) G0 J J J Zd pG O3)<|Yh (Zw 2) λx _=>go 5 ?_;rcases Zmp (ps.getD i G0) i with e|⟨e,j⟩|⟨e,j⟩
  .refine Xw (λ_=>False) [(0,0),(1,1),(2,0),(3,0),(4,2),(5,2),(6,2),(7,2),(8,2),(9,2),(10,2),(11,2),(12,2),(13,2),(14,2),(15,2),(16,0)]<|go 1 ?_;refine Yv (Zj 2 [51,52,53] (Zbi _ _ _ _ _ _ _ _ _ h.f h.t h.o h.x h.y h.z)) λ_ _=>?_;refine Xn J J (Xr (dT (Yb J J) (vB (by rw [show De _ _ _ _ _ _=_ from e];rfl))))<|go 4 ?_;refine Cl J J J J J<|Cl J J J J J<|Cl J J J J J<|Cl J J J J J<|Cl J J J J J<|Cl J J J J J<|Cl J J J J J<|Cl J J J J J<|go 16 ?_;exact Xj l () results89 (by rw [Zfk (i:=i) O1 (Yei e)]) aA Za
  .refine Xw (λ_=>False) [(0,0),(1,1),(2,0),(3,0),(4,0),(5,0),(6,0),(7,2),(8,2),(9,2),(10,2),(11,2),(12,2),(13,2),(14,2),(15,0),(16,0)]<|go 1 ?_;refine Yv (Zj 2 [51,52,53] (Zbi _ _ _ _ _ _ _ _ _ h.f h.t h.o h.x h.y h.z)) λ_ _=>?_;refine Xn J J (Xr (dF (Yb J J) (vB (by rw [show De _ _ _ _ _ _=_ from e];rfl))))<|go 2 ?_;refine r0g (Xr (dF (Zca J J J) (vB (aJ O1)))) J J J J J<|go 21 ⟨O1,?_⟩;exact Yq (i+1) ⟨O2,λk s=>by rcases bM.1 s with m|m;exact o k m;subst m;exact Yej e j⟩ O2 K1 aA
  .refine Zg (Qe (g:=(ps.getD (i-1) G0)) (z:=(ps.getD (i-1) G0).2.1) 1 54 J J (Ze) O7)<|Zg (Qe (g:=(ps.getD (i-1) G0)) (z:=(ps.getD (i-1) G0).2.2.1) 1 55 J J (Ze) O7)<|Zg (Qe (g:=(ps.getD (i-1) G0)) (z:=(ps.getD (i-1) G0).2.2.2) 1 56 J J (Ze) O7)<|Xw (λ_=>False) [(0,0),(1,1),(2,0),(3,0),(4,0),(5,0),(6,0),(7,0),(8,0),(9,0),(10,0),(11,0),(12,0),(13,1),(14,0),(15,0),(16,0)]<|go 1 ?_;refine Yv (Zj 2 [51,52,53] (Zbi _ _ _ _ _ _ _ _ _ h.f h.t h.o h.x h.y h.z)) λ_ _=>?_;refine Xn J J (Xr (dF (Yb J J) (vB (by rw [show De _ _ _ _ _ _=_ from e];rfl))))<|go 2 ?_;refine r0g (Xr (dT (Zca J J J) (vB (aM O1)))) J J J J J<|go 4 ⟨O1,?_⟩;refine r0g (Xr (Zy (ii:=1) (i:=(i-1)) J J J J Zd Ia Ir)) J J J J J<|r0g (Xr (Pe (ii:=1) G0 J J J Zd pG)) J J J J J<|go 1 ?_;refine Zj0 J J J J J (Pt (n:=2) (Ycs _ _ _ _ _ _ _ _ _ _ _ _ _ _ _ _ _ _ (Nx (u _ (Ze)) (Lm (o (i-1) O1))) (Nx h e)) J J J K2 call159 (Zt 54 J J J (Zt 55 J J J (Zt 56 J J J (Zt 51 J J J (Zt 52 J J J (Zt 53 J J J Zx)))))) J w.h) λ_ _=>go 5 ?_;refine Mr J (λq=>?_) (λq=>?_)
   .refine go 11 ?_;exact Xj l () results89 (by rw [Zfk (i:=i) O1 ((Zbu e j).trans (Zvq ‹_›))]) aA Za
   .refine go 7 ⟨O1,?_⟩;exact Yq (i+1) ⟨O2,λk s=>by rcases bM.1 s with m|m;exact o k m;subst m;exact(Zbu e j).trans (Zvr ‹_›)⟩ O2 K1 aA
 .obtain rfl:i=ps.length:=O1;refine go 11 ?_;refine Yl (d:=33) J (λr=>?_) (λr=>?_)
  .refine go 8 ?_;exact Xj l () results89 (by rw [Zik o];first|exact vB (bQ.2 O1)|exact vB (aJ O1)) aA Za
  .refine go 8 ?_;exact Xj l () results89 (by rw [Zik o];first|exact vB (bQ.2 O1)|exact vB (aJ O1)) aA Za
def Nf(c:List Int)(a b d:Int):List Int:=Zl (Ke (tzl c) a b d) (d^(6-c.length))
def Zln(h:a.natAbs<=3600000):bl a.natAbs<=22:=(Xz 22 _).2 (aZ h O4)
theorem Znh(h:bl d.natAbs<=22):∀k,k<=5->bl (d^k).natAbs<=132
 | 0,_=>by rw [cT];decide
 | k+1,g=>by
  have e:∀k,bl (d^k).natAbs<=22*k+1:=λk=>by
   induction k with
   | zero=>rw [cT];decide
   | succ k j=>rw [dK];have:=Xe (d^k) d;omega
  have:=e (k+1);omega
theorem Zp0(h:∀a∈c,Oz a)(t:1<=c.length/\c.length<=6){b:Int}(r:a.natAbs<=3600000)(s:b.natAbs<=3600000)(G:1<=d/\d<=3600000) :
  Vp (tzl c)/\¬Zlc (tzl c) a b d/\Vp (Ke (tzl c) a b d)/\bl (d^(6-c.length)).natAbs<=132/\(∀i,bl (cf (Ke (tzl c) a b d) i*d^(6-c.length)).natAbs<=65536)/\Vp (Nf c a b d)/\Sz 1000 (Nf c a b d)/\(Nf c a b d).length<=6:=by
 have w:(tzl c).length<=6:=aB (Iu c) t.2;have n:Sz 64 (tzl c):=(ab_in h).sz O4;have o:=Zln r;have p:=Zln s;have g:bl d.natAbs<=22:=Zln O1;have l:=cp_not (cp_nf n o p g O1 O1);have hs:Sz 300 (Ke (tzl c) a b d):=by
  have h:=Zic (x:=a) (y:=b) (z:=d) (m:=22) n o p g ((tzl c).length-1);unfold Ke;split
  .exact Sz.nil _
  .refine(Sz.tzl h).mono ?_;have:((tzl c).length-1)*(22+1)<=5*23:=aQ O1 O1;omega
 have v:Tr (Ke (tzl c) a b d):=by
  unfold Ke;split
  .exact .inl rfl
  .exact Qh _
 have j:(Ke (tzl c) a b d).length<=6:=aB (Zec _ _ _ _) w;have u:=Znh g (6-c.length) O1;have q:∀i,bl (cf (Ke (tzl c) a b d) i*d^(6-c.length)).natAbs<=500:=λi=>by have B:=hs i;have D:=Xe (cf (Ke (tzl c) a b d) i) (d^(6-c.length));omega
 have e:Sz 1000 (Nf c a b d):=λi=>by unfold Nf;rw [Xg];have:=q i;omega
 have k:(Nf c a b d).length<=6:=aB (Ml _ _) j;exact⟨⟨n.mono O1,Qh _,O1⟩,l,⟨hs.mono O1,v,O1⟩,u,λi=>by have:=q i;omega,⟨e.mono O1,Xx _ _,O1⟩,e,k⟩
def Zry(zs:List (SL×List Int)):List (SL×List Int):=zs ++ List.replicate (3-zs.length) ((none,0,0),[])
theorem Ye9(h:zs.length<=3):(Zry zs).length=3:=by unfold Zry;rw [bA,aV];omega
theorem Yed(hi:i<3)(h:zs.length=i):(Zry zs).set i z=Zry (zs ++ [z]):=by subst h;unfold Zry;rw [List.set_append_right _ _ (aI _),lF,bA,dZ];congr 1;obtain⟨k,e⟩:∃k,3-zs.length=k+1:=⟨2-zs.length,O1⟩;rw [e,jQ,nV,show 3-(zs.length+[z].length)=k by simp;omega];rfl
theorem Ztg{t:Nat}{s:SL}(g:zs.length=i)(h:∀t,t<i->(zs.getD t d0).2=f t)(j:t<i+1):((zs ++ [(s,f i)]).getD t d0).2=f t:=by
 subst g;rw [aF];rcases bM.1 j with e|e
 .rw [dA e,<-aF];exact h t e
 .subst e;simp
theorem Yb5{x y z:List Int}{b:Int}(k:zs.length=3)(h:∀t,t<3->(zs.getD t d0).2=Nf (Zk t x y z) a b d):∃l m n:SL,zs=[(l,Nf x a b d),(m,Nf y a b d),(n,Nf z a b d)]:=by
 match zs,k with
 | [o,p,q],_=>
  have e:=h 0 O4;have g:=h 1 O4;have j:=h 2 O4;simp [Zk]at e g j;exact⟨o.1,p.1,q.1,by rw [<-e,<-g,<-j]⟩
open Go.RowKit (Below)
variable {P:Program} {N:Nat} {sc:Nat->Prop} {env env':Qt} {H H':Hp} {Q Q':Exit->Act->World->Prop}
def Ydj{n:Nat}{e:String}{w:World}(h:Rows P e args w R):RowsIn Fence.wide n P e args w R:=λc g _=>
 let ⟨v,w',r,s⟩:=h c g;⟨v,w',r,stepsIn_wide.2 s⟩
def noQ:Exit->Act->World->Prop:=λ_ _ _=>False
section
variable {ops:Array Oper} {C:World->World->Prop}
def wpAnyZ(P:Program)(ops:Array Oper)(ts:List Nat)(C:World->World->Prop)(Q:Exit->Act->World->Prop):Nat->Array Bool->Act->World->Prop
 | 0,_,_,_=>False
 | e+1,listed,a,w=>if Dm ops ts listed=true then wpAnyIn Fence.wide 0 P .any ops Q (e+1) listed a w else
  (Region.ready .any ops listed=[]->False)/\
  ∀i∈Region.ready .any ops listed,wpOp P ops noQ i (λh g=>C w g/\wpAnyZ P ops ts C Q e (listed.setIfInBounds i true) h g) a w
inductive Dep (ops:Array Oper) (i:Nat):Nat->Prop
 | base {j:Nat} {o:Oper} {e:Edge} : ops[j]? = some o->e∈o.after->Region.binds .any e=true->e.on=i->Dep ops i j
 | step {j:Nat} {o:Oper} {e:Edge} : ops[j]? = some o->e∈o.after->Region.binds .any e=true->Dep ops i e.on->Dep ops i j
def Ygt(ops:Array Oper)(i:Nat):Nat->List Nat
 | 0=>[]
 | k+1=>match ops[k]? with
  | some o=>if o.after.any (λe=>Region.binds .any e && (e.on == i || (Ygt ops i k).contains e.on))then k::Ygt ops i k else Ygt ops i k
  | none=>Ygt ops i k
def Clo(ops:Array Oper)(listed:Array Bool):Prop:=∀k o,ops[k]? = some o->listed.getD k true=true->∀e∈o.after,Region.binds .any e=true->listed.getD e.on true=true
theorem Yk6{l:Array Bool}{x:Nat}(h:l.getD x false=true):l.getD x true=true:=by rcases bC x l.size with e|e<;>simp_all
theorem Clo.set{j:Nat}(t:Clo ops listed)(u:j∈Region.ready .any ops listed):Clo ops (listed.setIfInBounds j true):=λk o m s e r q=>by
 obtain⟨v,w,n,g⟩:=mem_ready.1 u;have p:listed.getD e.on true=true:=by
  by_cases l:j=k
  .subst l;rw [n]at m;cases m;exact Yk6 (g _ r q)
  .rw [getD_set_ne true l]at s;exact t k o m s e r q
 by_cases h:j=e.on
 .subst h;by_cases hs:e.on<listed.size<;>simp_all
 .rw [getD_set_ne true h];exact p
end
def Zw6(ops:Array Oper)(ts:List Nat):List (Nat×Nat)->Array Bool->Bool
 | [],_=>true
 | (i,1)::rest,listed=>(Region.ready .any ops listed == [i]) && !(Dm ops ts listed) && Zw6 ops ts rest (listed.setIfInBounds i true)
 | (i,3)::rest,listed=>false
 | (i,_)::rest,listed=>(Region.ready .any ops listed).contains i && Region.free .any ops listed i && !(ts.contains i) && ts.all (λj=>(Ygt ops i ops.size).contains j) && Zw6 ops ts rest (listed.setIfInBounds i true)
def YL(P:Program)(N:Nat)(sc:Nat->Prop)(ops:Array Oper)(Q:Exit->Act->World->Prop)(k:Nat)(listed:Array Bool)(env:Qt)(H:Hp):Prop:=
 ∀a w,Sat N sc env H a w->wpAnyIn Fence.wide 0 P .any ops Q (k+1) listed a w
end Go.Sky
namespace Go.Sky
open Go.RowKit (Below)
variable {P:Program} {N:Nat} {sc:Nat->Prop} {env env':Qt} {H H':Hp} {Q Q':Exit->Act->World->Prop}
def CalY(P:Program)(f:FuncId)(d:List Value)(pre:List Pc)(i:Prop){G:Type}(j:G->Prop)(h:G->Value):Prop:=
 ∀(l:Nat) (J:World->Prop) (w:World),(∀p∈pre,p.holds w)->
  (∀g,j g->∀a,Below w.heap.size w a->YieldAt Fence.wide 0 P l #[h g] a λe c=>e= .returned (.bool false)/\J c)->
  Calls P f (.func (.yield l) #[] #[]::d).toArray w λe b=>(∃v,e= .returned v)/\((i/\Below w.heap.size w b)\/J b)
def FPostY(P:Program)(fn:Func)(w0:World)(b:Prop)(J:World->Prop):Exit->Act->World->Prop:=
 bodyPost P fn λe a=>(∃v,e= .returned v)/\((b/\Below w0.heap.size w0 a)\/J a)
def YJ(P:Program)(w0:World)(l:Nat){G:Type}(d:G->Prop)(c:G->Value)(J:World->Prop):Prop:=
 ∀g,d g->∀a,Below w0.heap.size w0 a->YieldAt Fence.wide 0 P l #[c g] a λe b=>e= .returned (.bool false)/\J b
theorem Ydo{fn:Func}{tmps:Array Value}{w:World}(a:fn.results=#[]):(results fn tmps).run P w= .ok (.tuple #[]) w:=by rw [Zjz,a];simp
end Go.Sky
namespace Go.Sky
open Go.RowKit (Below)
variable {P:Program} {N:Nat} {sc:Nat->Prop} {env env':Qt} {H H':Hp} {Q Q':Exit->Act->World->Prop}
end Go.Sky
namespace Go.Sky
open Go.RowKit (Below)
variable{f:FuncId}{vs:List Value}{pre:List Pc}{o:Oper}{a:Act}{w:World}{K K':Act->World->Prop}{r:Nat}{ρ:Operand->Value}{Q1:Exit->Act->World->Prop}
variable {P:Program} {N:Nat} {sc:Nat->Prop} {env env':Qt} {H H':Hp} {Q Q':Exit->Act->World->Prop}
def Zeo(P:Program)(fn:Func)(w0:World)(pre:List Pc)(al:Bool){G:Type}(φ:G->Prop)(Ye:G->Value)(c:G->List Pc):Exit->Act->World->Prop:=
  bodyPostM Fence.wide 0 P fn λe d => ∃ g, e = .returned (Ye g) /\ φ g /\ Below w0.heap.size w0 d /\
        ∀p∈c g,p.holds d/\p.own=false/\∀b,p.fp b->w0.heap.size<=b\/(al=true/\∃q∈pre,q.fp b)
theorem Zy8  {fn:Func} {c:Code}   {al:Bool} {G:Type} {φ:G->Prop} {Ye:G->Value} {k:G->List Pc} {N:Nat}
    (F:P.funcs[f]? = some fn) (d:fn.body=some c) (B:fn.ntmps=N) (s:Nat.ble vs.length N=true) (y:AllRo pre)
    (h:∀w0 (sc:Nat->Prop),(∀b,w0.heap.size<=b->sc b)->(∀b,sc b->w0.heap.size<=b\/∃q∈pre,q.fp b)->
      E P N sc c (Zeo P fn w0 pre al φ Ye k) (Qv 0 vs) ((0,Xd w0 (λ_=>False))::Yy 1 pre)) :
    Cal P f vs.toArray pre al φ Ye k:=λw M=>by
  refine(callsIn_wide (n:=0)).1 (callsIn_of_wp_marks F d aA (wpIn_wide.2 (h w (λb=>w.heap.size<=b\/∃q∈pre,q.fp b) (λb d=> .inl d) (λb d=>d) _ w ?_)));have z:vs.length<=N:=by simpa using s
  refine⟨by simp [B];omega,rfl,λt v R=>?_,λi p hi=>?_,λi j p q I hi S x b d D=>?_,λi p m hi b d=>?_⟩
  . have l:=(Gq vs 0 t v R).2;have l:vs.toArray[t]? = some v:=by simpa using l
    have u:=(bB.1 l).1;rw [bO,eP u,l];rfl
  . by_cases g:0=i
    . subst g;rw [Yc]at hi;cases hi;exact Chg.refl _ w
    . rw [Zp _ _ g]at hi;exact M p (Nk pre 1 i p hi).2
  . by_cases g:0=i
    . subst g;rw [Yc]at hi;cases hi;cases x
    . rw [Zp _ _ g]at hi;rw [y.mem p (Nk pre 1 i p hi).2]at x;cases x
  . rw [Zp _ _ (λe=>m e.symm)]at hi;exact .inr ⟨p,(Nk pre 1 i p hi).2,d⟩
def onlyR(Q:Exit->Act->World->Prop):Exit->Act->World->Prop:=Eb Q
def Cc:¬LetsOut (Eb Q):=λ⟨_,_,h⟩=>h
theorem Ykf(d:∀c,o.op≠ .defer c)(h:o.wp P a w K (Eb Q)):o.wpIn (Fence.wide.inRound r) 0 P a w K Q:=by
  refine⟨λ_ _=>trivial,?_⟩;unfold Oper.wp at h;show o.uponIn (Fence.wide.inRound r) 0 P a K Q ((o.semAt (some r) a.eval).run P w);rw [Oper.semAt_some r _ o d];generalize (execOp a.eval o).run P w=x at *;cases x with
  | ok n g=>
    cases n<;>simp only [Oper.upon,Oper.uponIn]at h ⊢
    case value=>exact h
    case skip=>exact h
    case defer=>exact h
    case enter f args=>
      refine⟨λh=>(by cases h),CallsIn.inRound r (callsIn_wide.2 (h.mono λe i b=>?_))⟩;cases e with
      | returned v=>exact b
      | panicked c=>exact b.elim
      | outgrown=>exact absurd b Cc
    case row row args=>exact⟨λh=>(by cases h),Ydj (n:=0) h⟩
  | halt x g=>
    cases x<;>simp only [Oper.upon]at h
    case panic u=>exact h.elim
def Zos(l:List Oper):Prop:=∀o∈l,∀c,o.op≠ .defer c
theorem Zoy{ops:Array Oper}{r:Nat} : ∀(l:List Oper) (a:Act) (w:World),Zos l->wpList P ops (Eb Q) l a w->wpListIn (Fence.wide.inRound r) 0 P ops Q l a w
  | [],_,_,_,h=>h
  | o::l,a,w,hnd,h=>by
    unfold wpList at h;unfold wpListIn;split
    . rename_i c;simp only [c,lC]at h;exact Oper.wpIn_mono (λa w d=>Zoy l a w (λo b=>hnd o (bF _ b)) d) (Ykf (hnd o (bT ..)) (h.resolve_right λh=>Cc h.2))
    . rename_i c;simp only [c]at h;exact⟨λ_ _=>trivial,Zoy l _ w (λo b=>hnd o (bF _ b)) h⟩
def Ydq{id:Nat}{l:List Oper}(b:Zos l)(h:L P N sc l.toArray l (Eb Q) env H)(hs:Sat N sc env H a w):(Code.region id l.toArray false).wpIn (Fence.wide.inRound r) 0 P Q a w:=
  wpIn_region_lit (Zoy l a w b (h a w hs))
def fx(l:Nat)(o:Obj):Pc:=
  { own:=false,fp:=λb=>b=l,holds:=λw=>w.heap[l]? = some o
    lt:=λw b h c=>by subst c;exact(bB.1 h).1
    stable:=λw g h d=>(d.block l (bB.1 h).1 (λe=>e rfl)).trans h }
def Zfi(o:Oper):Bool:=match o.op with
  | .build ..=>true
  | .store ..=>true
  | .load ..=>true
  | .alloc ..=>true
  | _=>false
theorem Yd7(h:Zfi o=true){w':World}{d:Deferred} : (execOp ρ o).run P w≠ .ok (.defer d) w':=λb=>by
  unfold Zfi at h;cases ho:o.op<;>simp only [ho]at h<;>try (cases h;done)
  all_goals
    simp only [execOp,ho,Sem.run_bind]at b;revert b;generalize Sem.run P _ w=r;cases r<;>simp [Result.andThen,Sem.run_pure]
theorem Zj4(a:Act)(ds:List Deferred)(d:Option Tmp)(v:Value):({ a with defers:=ds } : Act).put d v={ a.put d v with defers:=ds }:=by cases d<;>rfl
theorem Ykg    {ds:List Deferred}   (i:Zfi o=true) (g:∀a w,K a w->K' { a with defers:=ds } w)
    (k:∀e a w,¬Q1 e a w) (h:o.wp P a w K Q1):o.wp P { a with defers:=ds } w K' Q:=by
  unfold Oper.wp at h ⊢;have j:=λd w'=>Yd7 (P:=P) i (ρ:=a.eval) (w:=w) (w':=w') (d:=d);show o.upon P _ K' Q ((execOp a.eval o).run P w);generalize (execOp a.eval o).run P w=x at *;cases x with
  | ok n w'=>
    cases n<;>simp only [Oper.upon]at h ⊢
    case value=>rw [Zj4];exact g _ _ h
    case skip=>rw [Zj4];exact g _ _ h
    case defer d=>exact absurd rfl (j d w')
    case enter f args=>
      refine h.mono λe l b=>?_;cases e with
      | returned v=>show K' (({ a with defers:=ds } : Act).put o.dst v) l;rw [Zj4];exact g _ _ b
      | panicked c=>exact(k _ _ _ b).elim
      | outgrown=>obtain⟨_,_,h⟩:=b;exact(k _ _ _ h).elim
    case row row args=>exact h.mono λ_ _ b=>by rw [Zj4];exact g _ _ b
  | halt x w'=>
    cases x<;>simp only [Oper.upon]at h
    case panic u=>exact(k _ _ _ h).elim
theorem Zoz{ops:Array Oper}{ds:List Deferred} : ∀(l:List Oper) (a:Act) (w:World),l.all Zfi=true->wpList P ops (Eb λe a w=>Q e { a with defers:=ds } w) l a w->wpList P ops Q l { a with defers:=ds } w
  | [],_,_,_,h=>h
  | o::l,a,w,hnd,h=>by
    simp only [mG,aO]at hnd;unfold wpList at h ⊢;split
    . rename_i d;simp only [d,lC]at h;have h:=h.resolve_right λh=>Cc h.2;refine .inl (Ykg (Q1:=noQ) hnd.1 (λa w g=>Zoz l a w hnd.2 g) (λ_ _ _ h=>h) ?_);unfold Oper.wp at h ⊢;revert h;generalize (execOp a.eval o).run P w=x;intro h;cases x with
      | ok n i=>
        cases n<;>simp only [Oper.upon]at h ⊢
        case value=>exact h
        case skip=>exact h
        case defer=>exact h
        case enter f args=>
          refine h.mono λe j b=>?_;cases e with
          | returned v=>exact b
          | panicked c=>exact b
          | outgrown=>exact absurd b Cc
        case row row args=>exact h
      | halt x i=>
        cases x<;>simp only [Oper.upon]at h ⊢
        case panic u=>exact h
    . rename_i d;rw [aE d]at h;rw [Zj4];exact Zoz l _ w hnd.2 h
end Go.Sky
namespace Go.Sky
open Go.RowKit (Below)
variable{a:Act}{w:World}{i:Nat}
variable {P:Program} {N:Nat} {sc:Nat->Prop} {env env':Qt} {H H':Hp} {Q Q':Exit->Act->World->Prop}
abbrev ALL:Nat->Prop:=λ_=>True
def FpSub:Hp->Hp->Prop
 | [],_=>True
 | (i,p)::r,H=>(∃q,lk H i=some q/\p.own=q.own/\∀b,p.fp b->q.fp b)/\FpSub r H
theorem FpSub.lk:∀{H' H:Hp},FpSub H' H->∀i p,lk H' i=some p->∃q,lk H i=some q/\p.own=q.own/\∀b,p.fp b->q.fp b
 | [],_,_,_,_,h=>by cases h
 | (k,u)::r,H,h,i,p,hi=>by
  by_cases c:k=i
  .subst c;rw [Yc]at hi;cases hi;exact h.1
  .rw [Zp _ _ c]at hi;exact FpSub.lk h.2 i p hi
theorem Sat.re{w':World}(hs:Sat N sc env H a w)(l:∀i p,lk H' i=some p->∃q,lk H i=some q/\p.own=q.own/\∀b,p.fp b->q.fp b)(n:∀i p,lk H' i=some p->p.holds w'):Sat N ALL env H' a w':=
 ⟨hs.size,hs.defers,hs.env,n,λi j p q f hi o r b m c=>by obtain⟨s,h,g,d⟩:=l i p hi;obtain⟨t,k,_,e⟩:=l j q o;exact hs.sep i j s t f h k (g▸r) b (d b m) (e b c),λ_ _ _ _ _ _=>trivial⟩
def FpN:Hp->Hp->Prop
 | [],_=>True
 | (i,p)::r,H=>(p.own=true\/∃q,lk H i=some q/\∀b,p.fp b->q.fp b)/\FpN r H
theorem FpN.lk:∀{H' H:Hp},FpN H' H->∀i p,lk H' i=some p->p.own=true\/∃q,lk H i=some q/\∀b,p.fp b->q.fp b
 | [],_,_,_,_,h=>by cases h
 | (k,u)::r,H,h,i,p,hi=>by
  by_cases c:k=i
  .subst c;rw [Yc]at hi;cases hi;exact h.1
  .rw [Zp _ _ c]at hi;exact FpN.lk h.2 i p hi
theorem lk3{p q:Pc}{r:Pc}(h:lk ((90,p)::(91,q)::H) i=some r):(i=90/\r=p)\/(i=91/\r=q)\/(i≠90/\i≠91/\lk H i=some r):=by
 by_cases b:90=i
 .subst b;rw [Yc]at h;cases h;exact .inl ⟨rfl,rfl⟩
 .rw [Zp _ _ b]at h;by_cases c:91=i
  .subst c;rw [Yc]at h;cases h;exact .inr (.inl ⟨rfl,rfl⟩)
  .rw [Zp _ _ c]at h;exact .inr (.inr ⟨λe=>b e.symm,λe=>c e.symm,h⟩)
theorem lk3'{p q:Pc}(b:i≠90)(c:i≠91):lk ((90,p)::(91,q)::H) i=lk H i:=by rw [Zp _ _ (λe=>b e.symm),Zp _ _ (λe=>c e.symm)]
theorem Sat.turn{l D:Nat}{o m g:Obj}(hs:Sat N ALL env ((90,fx l o)::(91,fx D g)::H) a w)(f:l≠D)(r:∀i p,i≠90->i≠91->lk H i=some p->¬p.fp l) :
  Sat N ALL env ((90,fx l m)::(91,fx D g)::H) a (w.putObj l m):=by
 have q:w.heap[l]? = some o:=hs.hold 90 _ rfl;have n:w.heap[D]? = some g:=hs.hold 91 _ rfl;refine hs.re (λi p hi=>?_) (λi p hi=>?_)
 .rcases lk3 hi with⟨rfl,rfl⟩|⟨rfl,rfl⟩|⟨b,c,hi⟩
  .exact⟨_,rfl,rfl,λ_ h=>h⟩
  .exact⟨_,rfl,rfl,λ_ h=>h⟩
  .exact⟨p,by rw [lk3' b c];exact hi,rfl,λ_ h=>h⟩
 .rcases lk3 hi with⟨rfl,rfl⟩|⟨rfl,rfl⟩|⟨b,c,j⟩
  .exact World.putObj_heap_same (bB.1 q).1
  .exact(World.putObj_heap_other (λe=>f e.symm)).trans n
  .refine p.stable _ _ (hs.hold i p (by rw [lk3' b c];exact j)) ⟨rfl,rfl,rfl,O7,λk s d=>World.putObj_heap_other (λe=>d ?_)⟩;subst e;exact r i p b c j
theorem Sat.round(hs:Sat N sc env H a w)(d:Nat)(v:Value)(b:Nat.blt d N=true):Sat N sc ((d,v)::env) H { tmps:=(#[d].zip #[v]).foldl (λt (p,v)=>t.setIfInBounds p v) a.tmps,defers:=[] } w:=by
 have h:=hs.put d v b;have e:(a.put (some d) v)={ tmps:=(#[d].zip #[v]).foldl (λt (p,v)=>t.setIfInBounds p v) a.tmps,defers:=[] }:=by show({ a with tmps:=a.tmps.setIfInBounds d v } : Act)=_;rw [<-hs.defers];simp
 rw [<-e];exact h
theorem Kq{ops:Array Oper}{Q1 k:Exit->Act->World->Prop}(b:∀e a w,Q1 e a w->k e a w):∀(l:List Oper) (a:Act) (w:World),wpList P ops Q1 l a w->wpList P ops k l a w
 | [],_,_,h=>b _ _ _ h
 | o::l,a,w,h=>by
  unfold wpList at h ⊢;split
  .rename_i g;rw [aH g]at h;rcases h with h|⟨p,m,j,q⟩
   .refine .inl ?_;unfold Oper.wp at h ⊢;revert h;generalize (execOp a.eval o).run P w=x;intro h;cases x with
    | ok n j=>
     cases n<;>simp only [Oper.upon]at h ⊢
     case value=>exact Kq b l _ _ h
     case skip=>exact Kq b l _ _ h
     case defer=>exact Kq b l _ _ h
     case enter f args=>
      refine h.mono λe r d=>?_;cases e with
      | returned v=>exact Kq b l _ _ d
      | panicked c=>exact b _ _ _ d
      | outgrown=>obtain⟨a,w,h⟩:=d;exact⟨a,w,b _ _ _ h⟩
     case row row args=>exact h.mono λ_ _ d=>Kq b l _ _ d
    | halt x j=>
     cases x<;>simp only [Oper.upon]at h ⊢
     case panic u=>exact b _ _ _ h
   .exact .inr ⟨p,m,j,b _ _ _ q⟩
  .rename_i g;rw [aE g]at h;exact Kq b l _ _ h
end Go.Sky
namespace Go.Sky
open Go.RowKit (Below)
variable{f:FuncId}{fn:Func}{lb vs:List Value}{pre:List Pc}{ops:Array Oper}{o:Oper}{ts:Array Value}{rest:List Oper}{d:Nat}{w0 W:World}{M:Nat->Prop}{x:Operand}{ops':List Operand}{tys:Array TypeId}{Jx:World->Prop}
variable {P:Program} {N:Nat} {sc:Nat->Prop} {env env':Qt} {H H':Hp} {Q Q':Exit->Act->World->Prop}
def YJI(P:Program)(w0:World)(l:Nat)(M:Nat->Prop)(J:Nat->World->Prop)(Jx:World->Prop){α G:Type}(xs:List α)(ys:α->G->List Value)(h:α->G->List Pc):Prop:=
 ∀k x g,xs[k]? = some x->∀W a,J k W->w0.heap.size<=W.heap.size->Below W.heap.size W a->(∀p∈h x g,p.holds a/\p.own=false/\∀b,p.fp b->W.heap.size<=b)->
  YieldAt Fence.wide 0 P l (ys x g).toArray a λe c=>(e= .returned (.bool true)/\J (k+1) c/\Chg (λb=>M b\/w0.heap.size<=b) a c)\/(e= .returned (.bool false)/\Jx c/\Chg (λb=>M b\/w0.heap.size<=b) a c)
def Zlu(J:World->Prop):Prop:=∀W a,J W->Below W.heap.size W a->J a
def Ymy(P:Program)(f:FuncId)(lb:List Value)(pre:List Pc){α G:Type}(xs:List α)(ys:α->G->List Value)(a:α->G->List Pc):Prop:=
 ∀(l:Nat) (M:Nat->Prop) (J:Nat->World->Prop) (Jx:World->Prop) (w:World),
  (∀p∈pre,p.holds w)->(∀p∈pre,∀b,p.fp b->¬M b)->(∀k,Zlu (J k))->Zlu Jx->J 0 w->YJI P w l M J Jx xs ys a->
  Calls P f (.func (.yield l) #[] #[]::lb).toArray w λe c=>(∃v,e= .returned v)/\(J xs.length c\/Jx c)
def Yil(P:Program)(fn:Func)(n:Nat)(J:Nat->World->Prop)(Jx:World->Prop):Exit->Act->World->Prop:=
 bodyPost P fn λe a=>(∃v,e= .returned v)/\(J n a\/Jx a)
theorem Zy7   {c:Code}   {α G:Type} {xs:List α} {ys:α->G->List Value} {n:α->G->List Pc} {N:Nat}
  (hf:P.funcs[f]? = some fn) (a:fn.body=some c) (V:fn.ntmps=N) (z:Nat.ble (lb.length+1) N=true) (F:AllRo pre)
  (h:∀(l:Nat) (M:Nat->Prop) (J:Nat->World->Prop) (Jx:World->Prop) w0 (sc:Nat->Prop),(∀b,w0.heap.size<=b->sc b)->(∀p∈pre,∀b,p.fp b->b<w0.heap.size/\¬M b)->(∀k,Zlu (J k))->Zlu Jx->J 0 w0->YJI P w0 l M J Jx xs ys n->
   E P N sc c (Yil P fn xs.length J Jx) (Qv 0 (.func (.yield l) #[] #[]::lb)) ((0,Xd w0 (λ_=>False))::Yy 1 pre)) :
  Ymy P f lb pre xs ys n:=λl M J Jx w R hm S u s Y=>by
 refine calls_of_wp hf a (h l M J Jx w (λb=>w.heap.size<=b\/∃q∈pre,q.fp b) (λb a=> .inl a) (λp m b a=>⟨p.lt w b (R p m) a,hm p m b a⟩) S u s Y _ w ?_);have I:lb.length+1<=N:=by simpa using z
 refine⟨by simp [V];omega,rfl,λt v ht=>?_,λi p hi=>?_,λi j p q a0 hi hj D b a Z=>?_,λi p y hi b a=>?_⟩
 .have r:=(Gq (.func (.yield l) #[] #[]::lb) 0 t v ht).2;have r:(Value.func (.yield l) #[] #[]::lb).toArray[t]? = some v:=by simpa using r
  have B:=(bB.1 r).1;rw [bO,eP B,r];rfl
 .by_cases g:0=i
  .subst g;rw [Yc]at hi;cases hi;exact Chg.refl _ w
  .rw [Zp _ _ g]at hi;exact R p (Nk pre 1 i p hi).2
 .by_cases g:0=i
  .subst g;rw [Yc]at hi;cases hi;cases D
  .rw [Zp _ _ g]at hi;rw [F.mem p (Nk pre 1 i p hi).2]at D;cases D
 .rw [Zp _ _ (λe=>y e.symm)]at hi;exact .inr ⟨p,(Nk pre 1 i p hi).2,a⟩
def LI(P:Program)(N:Nat)(sc:Nat->Prop)(ops:Array Oper)(rest:List Oper)(Q:Exit->Act->World->Prop)(env:Qt)(H:Hp):Prop:=
 ∀a w,Sat N sc env H a w->wpListIn Fence.wide 0 P ops Q rest a w
def Ygg{id:Nat}{l:List Oper}(h:LI P N sc l.toArray l Q env H):E P N sc (.region id l.toArray false) Q env H:=λa w hs=>
 (wpIn_wide (n:=0)).1 (wpIn_region_lit (h a w hs))
theorem Zhd(a:o.guard=none):Region.wanted o (yielded ops ts)=true:=by simp [Region.wanted,a]
theorem Lt{v:Value}(g:Nv P N sc o env H v)(c:o.dst=some d)(h:LI P N sc ops rest Q ((d,v)::env) H)(e:o.guard=none:=by rfl)(b:Nat.blt d N=true:=by rfl):LI P N sc ops (o::rest) Q env H:=λa w hs=>by unfold wpListIn;rw [aH (Zhd e)];refine⟨λ_ _=>trivial,?_⟩;show o.uponIn Fence.wide 0 P a _ Q ((execOp a.eval o).run P w);rw [g a w hs];show wpListIn Fence.wide 0 P ops Q rest (a.put o.dst v) w;rw [c];exact h _ w (hs.put d v b)
def Ai(h:X N sc .normal Q env H):LI P N sc ops [] Q env H:=λa w hs=>h a w hs
theorem Sat.base {u r:World}   {a:Act} (hs:Sat N sc env H a u) (n:∀p∈pre,∀b,p.fp b->b<w0.heap.size/\¬M b) (t:AllRo pre) (c:HSub (Yy 1 pre) H)
  (l:Chg (λb=>M b\/w0.heap.size<=b) u r):Sat N sc env ((0,Xd r (λ_=>False))::Yy 1 pre) a r:=by
 refine⟨hs.size,hs.defers,hs.env,λi p hi=>?_,λi j p q D hi G s b v w=>?_,λi p m hi b v=>?_⟩
 .by_cases g:0=i
  .subst g;rw [Yc]at hi;cases hi;exact Chg.refl _ _
  .rw [Zp _ _ g]at hi;have F:=(Nk pre 1 i p hi).2;refine p.stable _ _ (hs.hold i p (c.lk i p hi)) ⟨l.os,l.tape,l.output,l.size,λk z B=>l.block k z (λy=>?_)⟩;have:=n p F k (gJ.1 B);rcases y with h|h
   .exact this.2 h
   .omega
 .by_cases g:0=i
  .subst g;rw [Yc]at hi;cases hi;cases s
  .rw [Zp _ _ g]at hi;rw [t.mem p (Nk pre 1 i p hi).2]at s;cases s
 .rw [Zp _ _ (λe=>m e.symm)]at hi;exact hs.scope i p m (c.lk i p hi) b v
theorem Ye7    {l:Nat}       {J:Nat->World->Prop}  {α G:Type} {xs:List α} {ys:α->G->List Value} {F:α->G->List Pc} 
  (k:Nat) (y:α) (g:G) (hY:YJI P w0 l M J Jx xs ys F) (hy:xs[k]? = some y) (hJ:J k W) (hW:w0.heap.size<=W.heap.size) (n:∀p∈pre,∀b,p.fp b->b<w0.heap.size/\¬M b)
  (ho:o.op= .call { callee:= .value x,args:=ops'.toArray,argTypes:=tys }) (hg:o.guard=none) (hd:o.dst=some d) (hN:Nat.blt d N=true) (hx:ev env x=some (.func (.yield l) #[] #[])) (s:EvL env ops' vs) (V:vs=ys y g)
  (h0:lk H 0=some (Xd W (λ_=>False))) (v:∀p∈F y g,p.own=false/\(∀b,p.fp b->W.heap.size<=b)/\∃i R,lk H i=some R/\∀w,R.holds w->p.holds w)
  (z:AllRo pre) (q:HSub (Yy 1 pre) H)
  (ht:∀c,J (k+1) c->w0.heap.size<=c.heap.size->LI P N sc ops rest Q ((d,.bool true)::env) ((0,Xd c (λ_=>False))::Yy 1 pre))
  (hf:∀c,Jx c->w0.heap.size<=c.heap.size->LI P N sc ops rest Q ((d,.bool false)::env) ((0,Xd c (λ_=>False))::Yy 1 pre)):LI P N sc ops (o::rest) Q env H:=λa w hs=>by
 subst V;have Z:=Il (hs.hold 0 _ h0);obtain⟨fn,I,j,t,B,m⟩:=hY k y g hy W w hJ hW Z (λp hp=>by obtain⟨h1,h2,i,R,hi,hh⟩:=v p hp;exact⟨hh w (hs.hold i R hi),h1,h2⟩)
 have S:(o.semAt Fence.wide.round a.eval).run P w= .ok (.round l fn I j t) w:=by show(execOp a.eval o).run P w=_;have hm:=s.map hs;have Y:=hs.ev hx;simp [execOp,ho,resolve,invoke,Deferred.ofValue,hm,Y,B,Sem.run_bind]
 unfold wpListIn;rw [aH (Zhd hg)];refine⟨λ_ _=>trivial,?_⟩;rw [S];refine⟨λh=>(by cases h),m.mono ?_⟩;have D:w0.heap.size<=w.heap.size:=aB hW Z.size;rintro e c (⟨rfl,r,u⟩|⟨rfl,r,u⟩)
 .show wpListIn Fence.wide 0 P ops Q rest (a.put o.dst _) c;rw [hd];exact ht c r (aB D u.size) _ c ((hs.base n z q u).put d _ hN)
 .show wpListIn Fence.wide 0 P ops Q rest (a.put o.dst _) c;rw [hd];exact hf c r (aB D u.size) _ c ((hs.base n z q u).put d _ hN)
theorem Zdx{J:Nat->World->Prop}{n:Nat}{e:Exit}(l:e= .ret\/e= .normal)(m:fn.results=#[])(j:lk H 0=some (Xd W (λ_=>False)))(b:∀k,Zlu (J k))(c:Zlu Jx)(h:J n W\/Jx W):X N sc e (Yil P fn n J Jx) env H:=λa w hs=>by
 have i:=Il (hs.hold 0 _ j);have g:a.defers=[]/\∃v,(results fn a.tmps).run P w= .ok v w/\((∃u,Ending.returned v= .returned u)/\(J n w\/Jx w)):=
  ⟨hs.defers,_,Ydo m,⟨_,rfl⟩,h.imp (λh=>b n W w h i) (λh=>c W w h i)⟩
 rcases l with rfl|rfl<;>exact g
end Go.Sky
namespace Go.Sky
open Go.RowKit (Below)
variable{w W W' w0:World}{Mf:Nat->Prop}{Hn:Hp}{a:Act}{fn:Func}{preF pre:List Pc}{lbv:List Value}
variable {P:Program} {N:Nat} {sc:Nat->Prop} {env env':Qt} {H H':Hp} {Q Q':Exit->Act->World->Prop}
def FpM:Hp->Hp->Prop
 | [],_=>True
 | (i,p)::r,H=>(p.own=true\/∀b,p.fp b->∃j q,lk H j=some q/\q.fp b)/\FpM r H
theorem FpM.lk:∀{H' H:Hp},FpM H' H->∀i p,lk H' i=some p->p.own=true\/∀b,p.fp b->∃j q,lk H j=some q/\q.fp b
 | [],_,_,_,_,h=>by cases h
 | (k,u)::r,H,h,i,p,hi=>by
  by_cases c:k=i
  .subst c;rw [Yc]at hi;cases hi;exact h.1
  .rw [Zp _ _ c]at hi;exact FpM.lk h.2 i p hi
structure Kps (sc:Nat->Prop) (w:World) (Mf:Nat->Prop) (Hn:Hp) (W:World):Prop where
 hold:∀i it,lk Hn i=some it->it.holds W
 sep:∀i j it jt,i≠j->lk Hn i=some it->lk Hn j=some jt->it.own=true->∀b,it.fp b->jt.fp b->False
 scope:∀i it,i≠0->lk Hn i=some it->∀b,it.fp b->sc b
 off:∀i it,lk Hn i=some it->it.own=false->∀b,it.fp b->b<w.heap.size\/w.heap.size+2<=b
 mf:∀i it,lk Hn i=some it->it.own=true->∀b,it.fp b->Mf b
def Mof(w:World)(H:Hp)(b:Nat):Prop:=(∃i q,lk H i=some q/\q.own=true/\q.fp b)\/w.heap.size+2<=b
def Kps.chg(h:Kps sc w Mf Hn W)(d:∀i c,lk Hn i=some c->Chg (λb=>¬c.fp b) W W'):Kps sc w Mf Hn W':=
 ⟨λi c hi=>c.stable _ _ (h.hold i c hi) (d i c hi),h.sep,h.scope,h.off,h.mf⟩
def Kps.stays(h:Kps sc w Mf Hn W)(b:Below W.heap.size W W'):Kps sc w Mf Hn W':=h.chg λ_ _ _=>Chg.of_below b
theorem Kps.put{d:Nat}{o:Obj}(h:Kps sc w (Mof w H) Hn W)(c:∀i q,lk H i=some q->∀b,q.fp b->b<w.heap.size)(p:w.heap.size<=d/\d<w.heap.size+2):Kps sc w (Mof w H) Hn (W.putObj d o):=
 h.chg λi g hi=>⟨rfl,rfl,rfl,O7,λk r m=>World.putObj_heap_other (λe=>m λl=>by
  subst e;cases ho:g.own with
  | false=>rcases h.off i g hi ho _ l with h|h<;>omega
  | true=>
   rcases h.mf i g hi ho _ l with⟨j,q,n,_,f⟩|h
   .have:=c j q n _ f;omega
   .omega)⟩
def Kps.sat(h:Kps sc w Mf Hn W)(b:a.tmps.size=N)(c:a.defers=[])(d:∀t v,lk env t=some v->a.tmps.getD t undef=v):Sat N sc env Hn a W:=⟨b,c,d,h.hold,h.sep,h.scope⟩
def Zo5(H:Hp)(w0:World):Prop:=lk H 0=some (Xd w0 (λ_=>False))/\lk H 92=none
def Mfs(sc:Nat->Prop)(w:World)(H:Hp)(b:Nat):Prop:=Mof w H b\/¬sc b
theorem Sat.ps {r F:World} {d:Hp}  (hs:Sat N sc env ((92,Xd r (Mfs sc w H))::Hn) a F) (k:lk Hn 92=none) (R:∀q,lk Hn 0=some q->q.own=false) (hb:w.heap.size+2<=r.heap.size)
  (S:FpM Hn d) (z:∀j q,lk d j=some q->∀b,q.fp b->q.own=true->Mof w H b) (o:∀j q,lk d j=some q->∀b,q.fp b->q.own=false->b<w.heap.size\/w.heap.size+2<=b) (v:∀i q,lk H i=some q->∀b,q.fp b->b<w.heap.size):Kps sc w (Mof w H) Hn F:=by
 have g:∀i c,lk Hn i=some c->lk ((92,Xd r (Mfs sc w H))::Hn) i=some c:=λi c hi=>by
  by_cases G:92=i
  .subst G;rw [k]at hi;cases hi
  .rw [Zp _ _ G];exact hi
 have x:∀i c,lk Hn i=some c->c.own=true->∀b,c.fp b->Mof w H b:=λi c hi n b f=>by
  have l:i≠92:=λe=>by subst e;rw [k]at hi;cases hi
  have s:i≠0:=λe=>by subst e;rw [R c hi]at n;cases n
  have D:=hs.scope i c s (g i c hi) b f;have:=hs.sep i 92 c _ l (g i c hi) (Yc _ _ _) n b f;by_cases m:b<r.heap.size
  .rcases(gJ.1 λY=>this ⟨m,Y⟩:Mfs sc w H b)with h|h
   .exact h
   .exact absurd D h
  .exact .inr O1
 refine⟨λi c hi=>hs.hold i c (g i c hi),λi j c M y hi V=>hs.sep i j c M y (g i c hi) (g j M V),λi c u hi=>hs.scope i c u (g i c hi),λi c hi n b f=>?_,x⟩;rcases S.lk i c hi with h|h
 .rw [n]at h;cases h
 .obtain⟨j,q,I,p⟩:=h b f;cases hqo:q.own with
  | false=>exact o j q I b p hqo
  | true=>
   rcases z j q I b p hqo with⟨Z,q',B,_,t⟩|h
   .exact .inl (v Z q' B b t)
   .exact .inr h
def RB(N:Nat)(sc:Nat->Prop)(Mf:Nat->Prop)(b:Hp){h i:Type}(j:h->Hp)(g:h->Prop)(k:i->Hp)(c:i->Prop)(l:World):Exit->Act->World->Prop:=λe a W=>
 (e= .normal/\∃d,g d/\FpM (j d) b/\∃env',Sat N sc env' ((92,Xd l Mf)::j d) a W)\/(e= .ret/\∃f,c f/\FpM (k f) b/\∃env',Sat N sc env' ((92,Xd l Mf)::k f) a W)
def RA(P:Program)(N:Nat)(sc:Nat->Prop)(l:Nat)(Mf:Nat->Prop)(b:Hp)(body:Code){h i:Type}(k:h->Hp)(g:h->Prop)(m:i->Hp)(f:i->Prop)(n:World):Exit->Act->World->Prop:=λe a W=>
 e= .normal/\∃c d,lk d 92=none/\(∀q,lk d 0=some q->q.own=false)/\FpM d b/\Sat N sc c ((92,Xd n Mf)::d) a W/\
  ∀j a W,Sat N sc c ((92,Xd j Mf)::d) a W->body.wpIn (Fence.wide.inRound l) 0 P (RB N sc Mf b k g m f j) a W
theorem Zxk:∀(l:List Pc) (n:Nat) (H:Hp) (j:Nat) (q:Pc),lk (adds n l H) j=some q->q∈l\/lk H j=some q
 | [],_,_,_,_,h=> .inr h
 | p::r,n,H,j,q,h=>by
  by_cases b:n=j
  .subst b;rw [show adds n (p::r) H=(n,p)::adds (n+1) r H from rfl,Yc]at h;cases h;exact .inl (bT ..)
  .rw [show adds n (p::r) H=(n,p)::adds (n+1) r H from rfl,Zp _ _ b]at h;exact(Zxk r (n+1) H j q h).imp (bF _) id
@[reducible] def renv:List Nat->List Value->Qt->Qt
 | p::ps,v::vs,env=>renv ps vs ((p,v)::env)
 | _,_,env=>env
theorem Sat.rounds{w:World} : ∀(ps:List Nat) (vs:List Value) {env:Qt} {b:Array Value},(ps.all λp=>Nat.blt p N)=true->Sat N sc env H { tmps:=b,defers:=[] } w->
  Sat N sc (renv ps vs env) H { tmps:=(ps.zip vs).foldl (λt c=>t.setIfInBounds c.1 c.2) b,defers:=[] } w
 | [],_,_,_,_,h=>h
 | _::_,[],_,_,_,h=>h
 | p::ps,v::vs,env,b,hp,h=>by simp only [mG,aO]at hp;exact Sat.rounds ps vs (env:=(p,v)::env) hp.2 (h.put p v hp.1)
theorem Zsq    {al:Bool} {c:Type} {φ:c->Prop} {Ye:c->Value} {b:c->List Pc}  {D:Nat}
  (d:W.heap[D]? = some (.deferred (some []))) (h:Zbc P fn w0 preF al φ Ye b .ret { a with defers:=[] } (W.putObj D (.deferred none))) :
  Zeo P fn w0 preF al φ Ye b .ret { a with defers:=[{ target:= .collected D,args:=#[] }] } W:=by
 obtain⟨-,v,f,e⟩:=h;exact⟨O7,.inl ⟨_,_,rfl,run_takeDeferred d,⟨v,f,e⟩⟩⟩
theorem e_rfi {g:Operand} {gf i6 g1:Nat} {ps:List Nat} {assign body:Code}   {α G:Type} {xs:List α} {ys:α->G->List Value} {F:α->G->List Pc} {lc:List Oper}    {al:Bool} {GF:Type} {φ:GF->Prop} {Ye:GF->Value} {R:GF->List Pc}
  {GG GX:Type} (S:Nat->GG->Hp) (c2:Nat->GG->Prop) (HX:GX->Hp) (c3:GX->Prop) (d0:GG)
  (hg:ev env g=some (.func (.func gf) #[] lbv.toArray)) (eg:∀args w,(callFunc gf args).run P w= .ok (.enter gf args) w) (hc:Ymy P gf lbv pre xs ys F)
  (hp:∀p∈pre,p.own=false/\∃i,lk H i=some p) (i2:∀x I,(ys x I).length=ps.length) (i1:(ps.all λp=>Nat.blt p N)=true)
  (hw:∀b,w0.heap.size<=b->sc b) (h0:lk H 0=some (Xd w0 (λ_=>False)))
  (b7:c2 0 d0) (b2:HSub (S 0 d0) H) (hk:∀k u,Zo5 (S k u) w0) (h8:∀gx,Zo5 (HX gx) w0)
  (c5:∀k x I u,xs[k]? = some x->c2 k u->∀l Mf V a W,Sat N sc (renv ps (ys x I) env) ((92,Xd V Mf)::adds 100 (F x I) (S k u)) a W->
   assign.wpIn (Fence.wide.inRound l) 0 P (RA P N sc l Mf (adds 100 (F x I) (S k u)) body (S (k+1)) (c2 (k+1)) HX c3 V) a W)
  (i0:lc.all Zfi=true)
  (hC:∀u,c2 xs.length u->∀D od,L P N sc lc.toArray lc (Eb λe a w=>e= .normal/\∃b5 H2,lk H2 92=none/\FpSub H2 (S xs.length u)/\Sat N sc b5 ((92,fx D od)::H2) a w/\X N sc .ret (Zbc P fn w0 preF al φ Ye R) b5 H2) env ((92,fx D od)::S xs.length u))
  (hX:∀gx,c3 gx->X N sc .ret (Zbc P fn w0 preF al φ Ye R) env (HX gx)) :
  E P N sc (.rangeFunc g ps.toArray assign body) (Exit.inBlock g1 (Exit.then ((Code.seq (.region i6 lc.toArray false) .ret).wp P (Zeo P fn w0 preF al φ Ye R)) (Zeo P fn w0 preF al φ Ye R))) env H:=λa w hs=>by
 have a0:∀i p,lk H i=some p->∀b,p.fp b->b<w.heap.size:=λi p hi b f=>p.lt w b (hs.hold i p hi) f;have i5:w0.heap.size<=w.heap.size:=(hs.hold 0 _ h0).size;refine(wpIn_wide (n:=0)).1 (wpIn_rangeFunc ?_);intro c9 h5;obtain⟨c,d⟩:∃c:LoopState->Option Code->Loop,c=λst pe=>{ state:=st,pending:=pe,fn:=c9,tmps:=a.tmps,params:=ps.toArray,assign,body,defers:=w.heap.size }:=⟨_,rfl⟩;obtain⟨W1,b6⟩:∃W1,(w.alloc (.deferred (some []))).alloc (.loop (c .ready none))=W1:=⟨_,rfl⟩;have g5:W1.heap[w.heap.size+1]? = some (.loop (c .ready none)):=by rw [<-b6];have:=World.alloc_heap_new (w.alloc (.deferred (some []))) (.loop (c .ready none));rwa [World.size_alloc]at this
 have g4:W1.heap[w.heap.size]? = some (.deferred (some [])):=by rw [<-b6];exact(Below.heap_alloc _ _ _ O7).trans (World.alloc_heap_new w _)
 have e9:Below w.heap.size w W1:=by rw [<-b6];exact((Below.refl _ w).alloc (aI _) _).alloc O7 _
 have j1:W1.heap.size=w.heap.size+2:=by rw [<-b6];simp
 have e0:(#[.func (.yield (w.heap.size+1)) #[] #[]] ++ lbv.toArray:Array Value)=(Value.func (.yield (w.heap.size+1)) #[] #[]::lbv).toArray:=O7;refine⟨w.heap.size+1,[{ target:= .collected w.heap.size,args:=#[] }],W1,{ target:= .fn (.func gf) lbv.toArray,args:=#[.func (.yield (w.heap.size+1)) #[] #[]] },W1,gf,
  (Value.func (.yield (w.heap.size+1)) #[] #[]::lbv).toArray,W1,?_,?_,λ_ _=>trivial,?_,λh=>(by cases h),?_⟩
 .rw [<-b6,d];exact run_enterLoop_outer _ _ _ _ _
 .simp only [resolve,hs.ev hg];simp [go_sem]
 .simp [invoke,go_sem,eg]
 have c1:∀(Hn:Hp) (r:Loop),Zlu λW=>W.heap[w.heap.size+1]? = some (.loop r)/\W.heap[w.heap.size]? = some (.deferred (some []))/\W1.heap.size<=W.heap.size/\Kps sc w (Mof w H) Hn W:=λHn r W W' ⟨h1,h2,h3,h4⟩ hB=>
  ⟨(hB.block _ (bB.1 h1).1).trans h1,(hB.block _ (bB.1 h2).1).trans h2,aB h3 hB.size,h4.stays hB⟩
 have h9:¬Mof w H (w.heap.size+1):=λh=>by
  rcases h with⟨i,q,hq,_,hf⟩|h
  .have:=a0 i q hq _ hf;omega
  .omega
 have d3:¬Mof w H w.heap.size:=λh=>by
  rcases h with⟨i,q,hq,_,hf⟩|h
  .have:=a0 i q hq _ hf;omega
  .omega
 have f6:∀(Hn:Hp) (W:World),Kps sc w (Mof w H) Hn W->∀(o:Obj),Kps sc w (Mof w H) Hn (W.putObj w.heap.size o):=λHn W h o=>h.put a0 ⟨aI _,O1⟩;have c0:∀(Hn:Hp) (W:World),Kps sc w (Mof w H) Hn W->∀(o:Obj),Kps sc w (Mof w H) Hn (W.putObj (w.heap.size+1) o):=λHn W h o=>h.put a0 ⟨O1,O1⟩;refine callsIn_wide.2 ((hc (w.heap.size+1) (λb=>(∃i q,lk H i=some q/\q.own=true/\q.fp b)\/b=w.heap.size+1)
  (λk W=>∃u,c2 k u/\(W.heap[w.heap.size+1]? = some (.loop (c .ready none))/\W.heap[w.heap.size]? = some (.deferred (some []))/\W1.heap.size<=W.heap.size/\Kps sc w (Mof w H) (S k u) W))
  (λW=>∃gx,c3 gx/\(W.heap[w.heap.size+1]? = some (.loop (c .done (some .ret)))/\W.heap[w.heap.size]? = some (.deferred (some []))/\W1.heap.size<=W.heap.size/\Kps sc w (Mof w H) (HX gx) W)) W1
  ?_ ?_ ?_ ?_ ?_ ?_).mono ?_)
 .intro p z;obtain⟨ho,i,hi⟩:=hp p z;exact p.stable _ _ (hs.hold i p hi) (Chg.of_below e9)
 .rintro p z b f (⟨i,q,hq,b1,i3⟩|rfl)
  .obtain⟨ho,j,M⟩:=hp p z;exact hs.sep i j q p (λe=>by subst e;rw [hq]at M;cases M;rw [ho]at b1;cases b1) hq M b1 b i3 f
  .obtain⟨ho,j,M⟩:=hp p z;have:=a0 j p M _ f;omega
 .rintro k W W' ⟨u,d7,h⟩ hB;exact⟨u,d7,c1 _ _ W W' h hB⟩
 .rintro W W' ⟨gx,d7,h⟩ hB;exact⟨gx,d7,c1 _ _ W W' h hB⟩
 .refine⟨d0,b7,g5,g4,aI _,λi s hi=>s.stable _ _ (hs.hold i s (b2.lk i s hi)) (Chg.of_below e9),λi j s jt b0 hi M=>hs.sep i j s jt b0 (b2.lk i s hi) (b2.lk j jt M),
   λi s b7 hi=>hs.scope i s b7 (b2.lk i s hi),λi s hi _ b f=> .inl (a0 i s (b2.lk i s hi) b f),λi s hi ho b f=> .inl ⟨i,s,b2.lk i s hi,ho,f⟩⟩
 .rintro k x I hx W V ⟨u,Y,hl,hd,f9,a2⟩ j2 hB Z;have f3:V.heap[w.heap.size+1]? = some (.loop (c .ready none)):=(hB.block _ O1).trans hl;have g7:V.heap[w.heap.size]? = some (.deferred (some [])):=(hB.block _ O1).trans hd;have hy:=run_yield (P:=P) (args:=(ys x I).toArray) f3 (by rw [d];simp [i2]);have b8:∀p∈F x I,∀b,p.fp b->w.heap.size+2<=b:=λp hp b f=>by have:=(Z p hp).2.2 b f;omega
  have s1:Sat N sc env (S k u) { tmps:=a.tmps,defers:=[] } V:=(a2.stays hB).sat hs.size rfl hs.env;have s2:Sat N sc env (adds 100 (F x I) (S k u)) { tmps:=a.tmps,defers:=[] } V:=s1.adds (w1:=V) _ _ λp z=>⟨(Z p z).1,(Z p z).2.1,λb f=>hw b (by have:=b8 p z b f;omega),λj jt M ho b f a5=>by have h1:=(Z p z).2.2 b f;have h2:=jt.lt W b (a2.hold j jt M) a5;omega⟩
  have c6:∀j q,lk (adds 100 (F x I) (S k u)) j=some q->(q∈F x I)\/lk (S k u) j=some q:=λj q h=>Zxk _ _ _ j q h;have z:∀j q,lk (adds 100 (F x I) (S k u)) j=some q->∀b,q.fp b->q.own=true->Mof w H b:=λj q M b f ho=>by
   rcases c6 j q M with h|h
   .rw [(Z q h).2.1]at ho;cases ho
   .exact a2.mf j q h ho b f
  have c8:∀j q,lk (adds 100 (F x I) (S k u)) j=some q->∀b,q.fp b->q.own=false->b<w.heap.size\/w.heap.size+2<=b:=λj q M b f ho=>by
   rcases c6 j q M with h|h
   .exact .inr (b8 q h b f)
   .exact a2.off j q h ho b f
  have s3:=s2.rounds ps (ys x I) i1;have s4:Sat N sc (renv ps (ys x I) env) ((92,Xd V (Mfs sc w H))::adds 100 (F x I) (S k u)) _ V:=s3.add 92 (Xd V (Mfs sc w H)) (Chg.refl _ _) (λj jt b0 M Kn b f a5=>by
   rcases Kn with h|h
   .cases h
   .exact f.2 (.inl (z j jt M b a5 h))) (λb f=>gJ.1 λhn=>f.2 (.inr hn))
  have f5:¬Mfs sc w H (w.heap.size+1):=λh=>h.elim h9 (λhn=>hn (hw _ O1));have e5:¬Mfs sc w H w.heap.size:=λh=>h.elim d3 (λhn=>hn (hw _ i5));rw [d]at hy;refine⟨c9,_,assign,body,hy,roundIn_of_wpIn h5 ?_⟩;have hr:=c5 k x I u hx Y (w.heap.size+1) (Mfs sc w H) V _ V s4;have e3:(ps.toArray.zip (ys x I).toArray).foldl (λt (p,v)=>t.setIfInBounds p v) a.tmps=(ps.zip (ys x I)).foldl (λt pv=>t.setIfInBounds pv.1 pv.2) a.tmps:=O7;have f7:w.heap.size+2<=V.heap.size:=by have:=hB.size;omega
  have h7:∀(Hn:Hp),Zo5 Hn w0->∀q,lk Hn 0=some q->q.own=false:=λHn h q hq=>by rw [h.1]at hq;cases hq;rfl
  rw [show(ps.toArray.zip (ys x I).toArray).foldl (λt (x:Nat×Value)=>t.setIfInBounds x.1 x.2) a.tmps=(ps.zip (ys x I)).foldl (λt pv=>t.setIfInBounds pv.1 pv.2) a.tmps from e3];refine wpIn_mono hr ?_;rintro e a1 W2 ⟨rfl,e2,H1,d1,e6,g2,a4,d6⟩;have a6:Chg (Mfs sc w H) V W2:=a4.hold 92 _ (Yc _ _ _);have a9:W2.heap[w.heap.size+1]? = some (.loop (c .ready none)):=(a6.block _ O1 f5).trans f3;have g9:W2.heap[w.heap.size]? = some (.deferred (some [])):=(a6.block _ O1 e5).trans g7;have p1:=a4.ps d1 e6 f7 g2 z c8 a0;have i8:V.heap.size<=W2.heap.size:=a6.size;obtain⟨m,y⟩:∃m,W2.putObj (w.heap.size+1) (.loop { c .ready none with state:= .busy })=m:=⟨_,rfl⟩;have i7:Sat N sc e2 ((92,Xd m (Mfs sc w H))::H1) a1 m:=by
   have p2:=c0 _ _ p1 (.loop { c .ready none with state:= .busy });rw [y]at p2;refine(p2.sat a4.size a4.defers a4.env).add 92 (Xd m (Mfs sc w H)) (Chg.refl _ _) (λj jt b0 M Kn b f a5=>?_) (λb f=>gJ.1 λhn=>f.2 (.inr hn));rcases Kn with h|h
   .cases h
   .exact f.2 (.inl (p2.mf j jt M h b a5))
  have i4:W2.heap.size=m.heap.size:=by rw [<-y];simp
  have f4:m.heap[w.heap.size+1]? = some (.loop { c .ready none with state:= .busy }):=by rw [<-y];exact World.putObj_heap_same O1
  have f1:m.heap[w.heap.size]? = some (.deferred (some [])):=by rw [<-y];exact(World.putObj_heap_other O1).trans g9
  refine⟨m,by rw [<-y];exact run_beginRound a9 (by rw [d]),wpIn_mono (d6 m a1 m i7) ?_⟩;have c7:∀(Hn:Hp) (env':Qt) (a3:Act) (B:World),Zo5 Hn w0->FpM Hn (adds 100 (F x I) (S k u))->Sat N sc env' ((92,Xd m (Mfs sc w H))::Hn) a3 B->∀(r:Loop),
    B.heap[w.heap.size+1]? = some (.loop { c .ready none with state:= .busy })/\(((B.putObj (w.heap.size+1) (.loop r)).heap[w.heap.size+1]? = some (.loop r)/\(B.putObj (w.heap.size+1) (.loop r)).heap[w.heap.size]? = some (.deferred (some []))/\
     W1.heap.size<=(B.putObj (w.heap.size+1) (.loop r)).heap.size/\Kps sc w (Mof w H) Hn (B.putObj (w.heap.size+1) (.loop r)))/\
     Chg (λb=>((∃i q,lk H i=some q/\q.own=true/\q.fp b)\/b=w.heap.size+1)\/W1.heap.size<=b) V (B.putObj (w.heap.size+1) (.loop r))):=by
   intro Hn env' a3 B d9 g3 b3 r;have a7:Chg (Mfs sc w H) m B:=b3.hold 92 _ (Yc _ _ _);have b9:=(a7.block _ O1 f5).trans f4;have a8:=(a7.block _ O1 e5).trans f1;have g0:=a7.size;have p3:=b3.ps d9.2 (h7 Hn d9) O1 g3 z c8 a0;refine⟨b9,⟨World.putObj_heap_same O1,(World.putObj_heap_other O1).trans a8,O9,c0 _ _ p3 _⟩,?_⟩;have k0:(Xd w0 (λ_=>False)).holds V:=a2.stays hB |>.hold 0 _ (hk k u).1;have k3:(Xd w0 (λ_=>False)).holds B:=p3.hold 0 _ d9.1;refine⟨?_,?_,?_,O9,λb f hn=>?_⟩
   .exact a7.os.trans ((by rw [<-y];rfl:m.os=W2.os).trans a6.os)
   .exact a7.tape.trans ((by rw [<-y];rfl:m.tape=W2.tape).trans a6.tape)
   .exact a7.output.trans ((by rw [<-y];rfl:m.output=W2.output).trans a6.output)
   .have f0:b≠w.heap.size+1:=λe=>hn (.inl (.inr e));have g6:¬Mof w H b:=λh=>by
     rcases h with h|h
     .exact hn (.inl (.inl h))
     .exact hn (.inr O1)
    refine(World.putObj_heap_other f0).trans ?_;by_cases f8:sc b
    .have e7:¬Mfs sc w H b:=λh=>h.elim g6 (λh=>h f8);refine(a7.block b O1 e7).trans ?_;have:m.heap[b]? = W2.heap[b]?:=by rw [<-y];exact World.putObj_heap_other f0
     exact this.trans (a6.block b f e7)
    .have e8:b<w0.heap.size:=by
      rcases bC b w0.heap.size with h|h
      .exact h
      .exact absurd (hw b h) f8
     exact(k3.block b e8 (λh=>h)).trans (k0.block b e8 (λh=>h)).symm
  rintro e a3 B (⟨rfl,e4,d8,d4,env',b3⟩|⟨rfl,gx,d8,d4,env',b3⟩)
  .obtain⟨b9,d5,d2⟩:=c7 _ env' a3 B (hk (k+1) e4) d4 b3 (c .ready none);have:=run_endRound (P:=P) none b9;rw [show({ ({ c .ready none with state:= .busy } : Loop)with state:=if(none:Option Code).isNone then LoopState.ready else .done,pending:=none } : Loop)=c .ready none by rw [d];rfl]at this;exact⟨_,_,this,.inl ⟨rfl,⟨e4,d8,d5⟩,d2⟩⟩
  .obtain⟨b9,d5,d2⟩:=c7 _ env' a3 B (h8 gx) d4 b3 (c .done (some .ret));have:=run_endRound (P:=P) (some .ret) b9;rw [show({ ({ c .ready none with state:= .busy } : Loop)with state:=if(some Code.ret).isNone then LoopState.ready else .done,pending:=some .ret } : Loop)=c .done (some .ret) by rw [d];rfl]at this;exact⟨_,_,this,.inr ⟨rfl,⟨gx,d8,d5⟩,d2⟩⟩
 .have i9:∀(Hn:Hp) (W:World),Kps sc w (Mof w H) Hn W->Kps sc w (Mof w H) Hn ((W.putObj (w.heap.size+1) (.loop (c .exhausted none))).putObj w.heap.size (.deferred none)):=λHn W h=>f6 _ _ (c0 _ _ h _) _;rintro e W2 ⟨⟨v,rfl⟩,⟨u,Y,hl,hd,f9,e1⟩|⟨gx,Y,hl,hd,f9,e1⟩⟩
  .refine⟨none,_,by have:=run_endLoop (P:=P) hl (by rw [d];simp);rw [d]at this;exact this,?_⟩;obtain⟨B,c4⟩:∃B,W2.putObj (w.heap.size+1) (.loop (c .exhausted none))=B:=⟨_,rfl⟩;have p3:=c0 _ _ e1 (.loop (c .exhausted none));rw [c4]at p3;have a8:B.heap[w.heap.size]? = some (.deferred (some [])):=by rw [<-c4];exact(World.putObj_heap_other O1).trans hd
   have g0:B.heap.size=W2.heap.size:=by rw [<-c4];simp
   rw [show W2.putObj (w.heap.size+1) (.loop { state:= .exhausted,pending:=none,fn:=c9,tmps:=a.tmps,params:=ps.toArray,assign:=assign,body:=body,defers:=w.heap.size })=B by rw [<-c4,d]];have s3:Sat N sc env (S xs.length u) { tmps:=a.tmps,defers:=[] } B:=p3.sat hs.size rfl hs.env;have s4:Sat N sc env ((92,fx w.heap.size (.deferred (some [])))::S xs.length u) { tmps:=a.tmps,defers:=[] } B:=s3.add 92 _ a8 (λj jt b0 M Kn b f a5=>by
    rcases Kn with h|h
    .cases h
    .have f:b=w.heap.size:=f;subst f;exact d3 (p3.mf j jt M h _ a5)) (λb f=>hw b (by have f:b=w.heap.size:=f;omega))
   rw [hs.defers];refine wp_seq (wp_region_lit (Zoz (P:=P) (ops:=lc.toArray) (Q:=Exit.then (Code.ret.wp P (Zeo P fn w0 preF al φ Ye R)) (Zeo P fn w0 preF al φ Ye R)) (ds:=[{ target:= .collected w.heap.size,args:=#[] }]) lc { tmps:=a.tmps,defers:=[] } B i0 ?_));refine Kq (λe a' W' h=>?_) lc _ B (hC u Y _ _ _ B s4);cases e with
   | normal=>
    obtain⟨-,b5,H2,d1,h6,b4,hx⟩:=h;refine wp_ret (Zsq (b4.hold 92 _ (Yc _ _ _)) ?_);have a9:∀i s,lk H2 i=some s->lk ((92,fx w.heap.size (.deferred (some [])))::H2) i=some s:=λi s hi=>by
     by_cases h1:92=i
     .subst h1;rw [d1]at hi;cases hi
     .rw [Zp _ _ h1];exact hi
    refine hx _ _ ⟨b4.size,rfl,b4.env,λi s hi=>s.stable _ _ (b4.hold i s (a9 i s hi)) ⟨rfl,rfl,rfl,O7,λk hk hn=>World.putObj_heap_other (λe=>hn λhf=>?_)⟩,λi j s jt b0 hi M=>b4.sep i j s jt b0 (a9 i s hi) (a9 j jt M),λi s b7 hi=>b4.scope i s b7 (a9 i s hi)⟩;subst e;obtain⟨q,hq,j0,f2⟩:=h6.lk i s hi;cases b1:q.own with
    | true=>exact d3 (p3.mf i q hq b1 _ (f2 _ hf))
    | false=>rcases p3.off i q hq b1 _ (f2 _ hf)with h|h<;>omega
   | _=>exact h.elim
  .refine⟨some .ret,_,by have:=run_endLoop (P:=P) hl (by rw [d];simp);rw [d]at this;exact this,wpIn_ret ?_⟩;have p3:=c0 _ _ e1 (.loop { c .done (some .ret)with state:= .exhausted });have a8:(W2.putObj (w.heap.size+1) (.loop { c .done (some .ret)with state:= .exhausted })).heap[w.heap.size]? = some (.deferred (some [])):=(World.putObj_heap_other O1).trans hd;rw [d]at p3 a8;rw [hs.defers];exact Zsq a8 (hX gx Y _ _ ((f6 _ _ p3 _).sat hs.size rfl hs.env))
end Go.Sky
namespace Go.Sky
open Go.Proofs.Tryz
open Go.Proofs
set_option synthInstance.maxHeartbeats 0
set_option synthInstance.maxSize 100000
set_option maxRecDepth 20000
set_option maxHeartbeats 1000000
set_option linter.unusedSimpArgs false
variable{x:Int}
theorem Zhj(fr R Q:Int)(S V W:Value)(x y z:List Int)(c d b:Int)(H:Sgo fr R Q x y z)(I:c.natAbs<=3600000)(M:d.natAbs<=3600000)(hd:1<=b/\b<=3600000):Cal prog 231 #[.agg #[.int .i64 fr,.int .i64 R,.int .i64 Q,S,V,W],.int .i64 c,.int .i64 d,.int .i64 b] [Ym 1 Yo S x,Ym 1 Yo V y,Ym 1 Yo W z] true (G:=SL×SL×SL) (λg=>True) (λg=> .agg #[Qi g.1,Qi g.2.1,Qi g.2.2]) (λg=>[Ym 2 wv (Qi g.1) (Nf x c d b),Ym 2 wv (Qi g.2.1) (Nf y c d b),Ym 2 wv (Qi g.2.2) (Nf z c d b)]):=by
 refine Zf func231 ntmps231 λw0 sc P B=>?_;have Y:=Zln I;have Z:=Zln M;have v:bl b.natAbs<=22:=Zln O1;refine go 2 ?_;refine Yh (Yi 4) λbx _=>Yh (Zw 5) λe _=>go 6 ?_;refine cl 5 [1,2,3] (Zny _ _ _ _ _ _ _ _ _) λ_ _=>go 4 ?_;refine Zg (Om 5 (q:=box e 210 (cellsOf (Kw (α:=List Int)) (Zry [])).toArray) (aK (box e 210) (show _=(cellsOf (Kw (α:=List Int)) (Zry [])).toArray from J)) J J)<|Zg (Qk qZ 71)<|lp (G:=Nat×List (SL×List Int)) [1,2,3,8,14] [0,1,2,3,4] (λq=>[(15,.int .i64 (q.1:Int))]) (λq=>[(5,box e 210 (cellsOf (Kw (α:=List Int)) (Zry q.2)).toArray),(71,Gf qZ q.2)]) (λq=>(q.1<=3)/\(q.2.length=q.1)/\(∀t,t<q.1->(q.2.getD t Z0).2=Nf (Zk t x y z) c d b)) (λq=>3-q.1) (0,[]) ⟨O2,rfl,λt F=>absurd F (cI t)⟩ K1 K2 ?_;rintro⟨i,zs⟩ ⟨hi,f,n⟩;dsimp only at hi f n;dsimp only;have N:=H.hc i;have m:=H.lc i;obtain⟨q1,q2,q3,q4,q5,q6,q7,q8⟩:=Zp0 N m I M hd;have h:(6-((Zk i x y z).length:Int)).toNat=6-(Zk i x y z).length:=O1;refine go 6 ?_;refine Zc J (λo=>?_) (λo=>?_)
 .refine go 5 ?_;refine Zg (Zbn i 1 2 3 50 J J J J J J)<|go 2 ?_;refine dt (Znc (i:=i) J J J underlying182 Zi0 isAgg33 J)<|go 7 ?_;refine cl 6 [50] (Bm _ _ N (aB m.2 O4)) λ_ _=>?_;refine Xp (Om 6 (q:=Ym 2 wv _ (tzl (Zk i x y z))) (aK (Ym 2 wv _) (aE (Zex m.2))) J J)<|go 11 ?_;refine cl 6 [] (Zn c) λ_ _=>go 1 ?_;refine cl 6 [] (Zn d) λ_ _=>go 1 ?_;refine cl 6 [] (Zn b) λ_ _=>cl 7 [6] (Zoh _ (tzl (Zk i x y z)) c d b q1 O1 O1 O1 O1 q2) λ_ _=>?_;refine go 13 ⟨O1,?_⟩;refine cl 7 [] (Gu b (6-((Zk i x y z).length:Int)) (aB v O4) O1 O1) λ_ _=>cl 8 [7] (Ob _ _ (b^(6-((Zk i x y z).length:Int)).toNat) q3 (by rw [h];exact aB q4 O4) (by rw [h];exact q5)) λ_ _=>?_;refine Yk1 (Oh 8 J Zo) (λu D=>?_);subst D;refine Xp (Om 8 (q:=Ym 2 wv (Qi u) (Nf (Zk i x y z) c d b)) (aK (Ym 2 wv (Qi u)) (by rw [h];rfl)) J J)<|Xp (Xb (q:=qZ) (z:=(u,(Nf (Zk i x y z) c d b))) 71 8 71 J J J J J)<|go 3 ?_;refine dt (Ii (i:=i) J J J underlying210 sizeOf40 J)<|tt (t_sbe (i:=5) (j:=i) (k:=1) (enc:=Kw) (u,(Nf (Zk i x y z) c d b)) J J J J J pS (by rw [Ye9 O1];omega) J P.h aA) (λ_ _=>?_);refine go 7 ⟨O1,?_⟩;exact Yq (i+1,zs ++ [(u,(Nf (Zk i x y z) c d b))]) ⟨O2,by rw [bA,f];rfl,λt F=>Ztg f n F⟩ O2 K1 ⟨by rw [Yed O1 f];rfl,rfl,aA⟩
 .obtain rfl:i=3:=O1;refine go 6 ?_;obtain⟨p,r,s,rfl⟩:=Yb5 f n;refine Zg (Zd7 (q:=qZ) 71 81 (p,Nf x c d b) J J O7 J)<|Zg (Zd7 (q:=qZ) 71 82 (r,Nf y c d b) J J O7 J)<|Zg (Zd7 (q:=qZ) 71 83 (s,Nf z c d b) J J O7 J)<|go 1 ?_;refine dt (d_lea (i:=5) (enc:=Kw) (l:=[(p,Nf x c d b),(r,Nf y c d b),(s,Nf z c d b)]) J J J pS isAgg210 sizeOf210 J)<|tt (t_sea (i:=5) (enc:=Kw) (l:=[(p,Nf x c d b),(r,Nf y c d b),(s,Nf z c d b)]) J J J J J O4 pS sizeOf210 J J J P.h aA) λ_ _=>go 3 ?_;exact Zqm (.inl J) B (p,r,s) _ (λa w hs=>Zde hs results231 (Fh (i:=5) (vs:=cellsOf Kw [(p,Nf x c d b),(r,Nf y c d b),(s,Nf z c d b)]) J J isAgg210 sizeOf210 J)) J aA J (Hm 81 J J J (Hm 82 J J J (Hm 83 J J J Za)))
theorem Ya2{s:Bool}(c:x.natAbs<=9223372036854775807)(h:sg s x):(x=0/\dg U x.natAbs=[])\/(s=true/\x<0/\dg U x.natAbs=[x.natAbs])\/(s=false/\0<x/\dg U x.natAbs=[x.natAbs]):=by
 have b:x.natAbs≠0->dg U x.natAbs=[x.natAbs]:=λd=>by have a:x.natAbs<U:=aZ c O4;rw [Za1 O4 O1,aS a,cS a];rfl
 rcases kH x 0 with q|q|q
 .right;left;refine⟨?_,q,b O1⟩;cases s
  .have:=h.2 rfl;omega
  .rfl
 .subst q;exact .inl ⟨rfl,rfl⟩
 .right;right;refine⟨?_,q,b O1⟩;cases s
  .rfl
  .have:=h.1 rfl;omega
theorem int_wn(a:x.natAbs<=9223372036854775807)(h:x<0):IntKind.i64.wrap (18446744073709551616-(x.natAbs:Int))=x:=by simp only [IntKind.wrap,IntKind.bits,IntKind.signed];simp;omega
theorem int_wp(a:x.natAbs<=9223372036854775807)(h:0<x):IntKind.i64.wrap ((([x.natAbs]:List Nat).getD 0 0:Nat):Int)=x:=by show IntKind.i64.wrap (x.natAbs:Int)=x;rw [Zal ⟨O1,O1⟩];omega
theorem int_d0(a:x.natAbs<=9223372036854775807):¬((([x.natAbs]:List Nat).getD 0 0:Nat):Int)>=9223372036854775808:=by show ¬(x.natAbs:Int)>=_;omega
theorem Yfc(a:x.natAbs<=9223372036854775807):¬((([x.natAbs]:List Nat).getD 0 0:Nat):Int)>9223372036854775808:=by show ¬(x.natAbs:Int)>_;omega
theorem int_m(h:x<0)(a:x.natAbs<=9223372036854775807):(-((([x.natAbs]:List Nat).getD 0 0:Nat):Int))%18446744073709551616=18446744073709551616-(x.natAbs:Int):=by show(-(x.natAbs:Int))%_=_;omega
theorem Zi2(x:Int)(e:x.natAbs<=9223372036854775807):Xo prog 113 #[wv x] [] (.tuple #[.int .i64 x,.int .i64 0]):=by
 refine Zf func113 ntmps113 λn m l f=>?_;have i:bl x.natAbs<=65536:=aB ((Xz 63 _).2 (aZ e O4)) O4;refine go 2 ?_;refine Yh (Yi 1) λk _=>go 8 ?_;refine cl 1 [] (Lo _ ‹_›) λ_ _=>go 9 ?_;refine cl 2 [] (Xy _ _ (Xa _)) λg j=>Yh (Zw 3) λh _=>go 6 ?_;rcases Ya2 e j with⟨rfl,c⟩|⟨d,c,a⟩|⟨d,c,a⟩
 .refine go 4 ?_;refine kt (aM (by rw [c];rfl))<|go 13 ?_;exact Mn f () results113 J aA Za
 .refine go 4 ?_;refine kf (aJ (by rw [a];simp))<|go 9 ?_;refine kf (aJ (by rw [a];simp))<|go 3 ?_;refine Kv (dF (Yb J J) (aK (λb=>Value.bool (!b)) d)) J J<|go 13 ⟨by rw [a];exact fH,by rw [a];exact fH,?_⟩;refine kfg (aJ (by rw [a];exact Yfc e))<|go 8 ?_;refine kt d<|go 10 ⟨by rw [a];exact fH,by rw [a];exact fH,?_⟩;refine dt (Yb0 (r:=18446744073709551616-(x.natAbs:Int)) J J (by rw [a];exact int_m c e))<|dt (Zgh (r:=x) J J Al uT3 (int_wn e c))<|go 7 ?_;exact Mn f () results113 J aA Za
 .refine go 4 ?_;refine kf (aJ (by rw [a];simp))<|go 9 ?_;refine kf (aJ (by rw [a];simp))<|go 3 ?_;refine Kv (dT (Yb J J) (aK (λb=>Value.bool (!b)) d)) J J<|go 5 ⟨by rw [a];exact fH,by rw [a];exact fH,?_⟩;refine kfg (aJ (by rw [a];exact int_d0 e))<|go 7 ⟨by rw [a];exact fH,by rw [a];exact fH,?_⟩;refine kfg (aJ (by rw [a];exact Yfc e))<|go 8 ?_;refine kf d<|go 13 ⟨by rw [a];exact fH,by rw [a];exact fH,?_⟩;refine dt (Zgh (r:=x) J J Al uT3 (by rw [a];exact int_wp e c))<|go 5 ?_;exact Mn f () results113 J aA Za
abbrev Yfu (o:Nat) (m:Int) (g:Zi):List Int:=formP o m g.1.2.2 (g.1.2.1-g.1.1) g.2.1.2 g.2.2.1.2 g.2.2.2.2
def Yfa(o:Nat)(ps:List Zi)(m:Int):Bool:=ps.all λg=>!Fz (Yfu o m g)
def Yjc(p:Nat->Bool):Nat->Nat->Nat->Nat
 | 0,i,_=>i
 | f+1,i,j=>if i<j then(if p ((i+j)/2)then Yjc p f i ((i+j)/2)else Yjc p f ((i+j)/2+1) j)else i
def Yi2(o:Nat)(ps:List Zi):Nat:=Yjc (λn=>Yfa o ps (n:Int)) 14 0 10001
end Go.Sky

