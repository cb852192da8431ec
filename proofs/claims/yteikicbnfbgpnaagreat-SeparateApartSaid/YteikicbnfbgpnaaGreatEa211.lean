/- Rules, arithmetic and contracts: part 12. No conditions but those that each theorem names. -/
import Derived.Test.YteikicbnfbgpnaaGreatEa210
import Derived.ChangeKeysEq
import Derived.RangeFuncFrom
import Derived.RangeFuncLeaves
import Derived.OrdersIn
import Derived.TacticsIn
import Derived.RangeFuncCalls
set_option linter.all false
set_option maxHeartbeats 4000000
namespace Go.Sky
open Go.Proofs.Tryz
open Go.Proofs
set_option synthInstance.maxHeartbeats 0
set_option synthInstance.maxSize 100000
set_option maxRecDepth 20000
set_option linter.unusedSimpArgs false
variable{ov a d:Int}{x y xs c:List Int}{z d0:SL×List Int}{i:Nat}{b:Bool}{M:Nat->Prop}{rest:List (Nat×Nat)}{zs:List (SL×List Int)}{f:Nat->List Int}{args:Array Value}{R:Value->World->Prop}{listed:Array Bool}
theorem Zu1{fr F:Int}{H I N:Value}{z:List Int}(a d:Int)(g:Sgo fr F ov x y z)(h:0<=a/\a<=3600000)(j:1<=d/\d<=3600000):Qe prog 177 #[.agg #[.int .i64 fr,.int .i64 F,.int .i64 ov,H,I,N],.int .i64 a,.int .i64 d] [Yx 1 Yj H x,Yx 1 Yj I y,Yx 1 Yj N z] (plV (pl x a d/(gS ov a d x y z 3)) (pl y a d/(gS ov a d x y z 3)) (pl z a d/(gS ov a d x y z 3)) (ov*d^5/(gS ov a d x y z 3))):=by
 refine Zg func177 ntmps177 λw0 sc S v=>?_;have t:bl a.natAbs<=60:=(Qs 60 _).2 O1;have s:bl d.natAbs<=60:=(Qs 60 _).2 O1;have P:=g.o1;have Q:=g.o2;obtain⟨k1,V⟩:=Znn g h j 0;refine go 2<|Yd (Yk 4) λW _=>Yd (Zw 5) λB _=>go 4<|Yd (Zw 6) λe _=>go 6 ?_;refine cl 6 [] (Ya ov) λ_ _=>go 1 ?_;refine cl 6 [] (Fz d 5 s O4 O4) λ_ _=>cl 6 [] (Aq ov (d^5) (aB ((Qs 40 _).2 O1) (by decide:40<=30000)) (aB (Zjk d ⟨O1,O1⟩ (k:=5) O4) O4)) λ_ _=>Yd (Zw 7) λD _=>go 6<|Yd (Zw 8) λn _=>go 7 ?_;refine cl 8 [1,2,3] Zqy λ_ _=>go 4<|Zf (Np 6 (q:=box e 166 (cellsOf wv (List.replicate 3 (0:Int))).toArray) (aD (box e 166) (show _=(cellsOf wv (List.replicate 3 (0:Int))).toArray from J)) J J) ?_;refine lp (G:=Nat) [1,2,6,7,8,9,22] [0,1,2,3,4,5,7] (λi=>[(23,.int .i64 (i:Int))]) (λi=>[(6,box e 166 (cellsOf wv (atS a d x y z i)).toArray),(8,box n 80 (wc (gS ov a d x y z i)))]) (λi=>i<=3) (λi=>3-i) 0 O2 K1 K2 ?_;rintro i hi;have m:=g.hc i;have u:=g.lc i;obtain⟨Y,o⟩:=Znn g h j i;refine go 6<|Ze J (λp=>?_) (λp=>?_)
 .refine go 5<|Zf (Ziv i 1 2 3 50 J J J J J J)<|go 2 ?_;refine dt (Zqf i J J J underlying182 Zc7 isAgg33 J)<|go 13 ?_;refine lp (G:=Nat) [1,2,6,7,8,9,10,22,23,27,28] [0,8,1,2,3,4,5,7,50] (λk=>[(29,.int .i64 (k:Int))]) (λk=>[(6,box e 166 (cellsOf wv ((atS a d x y z i).set i (plS (Zs i x y z) a d k))).toArray)]) (λk=>k<=(Zs i x y z).length) (λk=>(Zs i x y z).length-k) 0 O2 K1 ⟨by rw [show((atS a d x y z i).set i (plS (Zs i x y z) a d 0))=(atS a d x y z i)from(Yo3 a d x y z O1).symm];rfl,aA⟩ ?_;rintro k Z;refine go 6<|Ze J (λr=>?_) (λr=>?_)
  .refine go 13 ⟨O3,O3,?_⟩;refine Qb (λ_=>False) [(0,0),(1,0),(2,0),(3,0),(4,0),(6,0),(7,0),(9,0),(10,0),(11,0),(5,1),(8,1),(12,1),(13,1),(14,1),(15,1),(16,0),(17,3)]<|go 2 ?_;refine Xc J J (Xl (Fg i J J J Zo7 Ks J))<|Xc J J (Xl (Yz (wv (plS (Zs i x y z) a d k)) (Zxr 6 i (enc:=wv) (l:=((atS a d x y z i).set i (plS (Zs i x y z) a d k))) 0 J J J pV (by rw [bK,Bw];omega)) (aD wv (Zu8 (by rw [Bw];omega)))))<|go 6 ⟨O1,?_⟩;refine Yn (Zl 8 [] (Ya ((Zs i x y z).getD k 0) (Kb m k))) λ_ _=>Yn (Zl 8 [] (Fz a (k:Int) t O1 O1)) λ_ _=>Yn (Zl 8 [] (Fz d (5-(k:Int)) s O1 O1)) λ_ _=>Yn (Zl 8 [] (Aq (a^k) (d^(5-(k:Int)).toNat) (aB (Zjk _ h O1) O4) (aB (Zjk d ⟨O1,O1⟩ O1) O4))) λ_ _=>Yn (Zl 8 [] (Aq ((Zs i x y z).getD k 0) (a^k*d^(5-(k:Int)).toNat) (aB (Li (Kb m k)) O4) (aB (Zt3 m h j (k:=k) O1).1 O4))) λ_ _=>Yn (Zl 8 [] (Yix (plS (Zs i x y z) a d k) (plT (Zs i x y z) a d k) (aB (Zd4 m h j O1) O4) (aB (Zt3 m h j O1).2 O4))) λ_ _=>?_;refine Xc J J (Xl (Fg i J J J Zo7 Ks J))<|r3' J (t_sbe 6 i 2 (enc:=wv) ((plS (Zs i x y z) a d k)+plT (Zs i x y z) a d k) J J J J J pV (by rw [bK,Bw];omega) J S.h aA) (λ_ _=>?_);refine go 7 ⟨O1,?_⟩;exact Yh (k+1) O2 O2 K1 ⟨by rw [List.set_set];rfl,aA⟩
  .obtain rfl:k=(Zs i x y z).length:=O1;refine go 5<|Qb (λ_=>False) [(0,0),(1,0),(2,0),(3,0),(4,1),(5,3)]<|go 2 ?_;refine Xc J J (Xl (Fg i J J J Zo7 Ks J))<|Xc J J (Xl (Yz (wv (pl (Zs i x y z) a d)) (Zxr 6 i (enc:=wv) (l:=((atS a d x y z i).set i (pl (Zs i x y z) a d))) 0 J J J pV (by rw [bK,Bw];omega)) (aD wv (Zu8 (by rw [Bw];omega)))))<|Yn (Zl 8 [] (Zqx (gS ov a d x y z i) (pl (Zs i x y z) a d) (aB o O4) (aB (Zd4 m h j u.2) O4))) λ_ _=>?_;refine go 8 ⟨O1,?_⟩;exact Yh (i+1) O2 O2 K1 K2
 .obtain rfl:i=3:=O1;refine go 6<|Qb (λ_=>False) [(0,0),(1,0),(2,0),(4,0),(5,0),(6,0),(8,0),(9,0),(10,0),(12,0),(13,0),(3,1),(7,1),(11,1),(14,1),(15,0),(16,3)] ?_;refine Xc J J (Xl (Fg 0 J J J Zo7 Ks J))<|Xc J J (Xl (Yz (wv (pl x a d)) (Zxr 6 0 (enc:=wv) (l:=(atS a d x y z 3)) 0 J J J pV (by rw [Bw];decide)) (aD wv J)))<|go 1 ?_;refine Xc J J (Xl (Fg 1 J J J Zo7 Ks J))<|Xc J J (Xl (Yz (wv (pl y a d)) (Zxr 6 1 (enc:=wv) (l:=(atS a d x y z 3)) 0 J J J pV (by rw [Bw];decide)) (aD wv J)))<|go 1 ?_;refine Xc J J (Xl (Fg 2 J J J Zo7 Ks J))<|Xc J J (Xl (Yz (wv (pl z a d)) (Zxr 6 2 (enc:=wv) (l:=(atS a d x y z 3)) 0 J J J pV (by rw [Bw];decide)) (aD wv J)))<|go 3 ?_;refine Yn (Zl 8 [] (Zit (pl x a d) (gS ov a d x y z 3) (aB (Zd4 g.hx h j g.lx.2) O4) (aB o O4) O1)) λ_ _=>Yn (Zl 8 [] (Zit (pl y a d) (gS ov a d x y z 3) (aB (Zd4 g.hy h j g.ly.2) O4) (aB o O4) O1)) λ_ _=>Yn (Zl 8 [] (Zit (pl z a d) (gS ov a d x y z 3) (aB (Zd4 g.hz h j g.lz.2) O4) (aB o O4) O1)) λ_ _=>Yn (Zl 8 [] (Zit (ov*d^5) (gS ov a d x y z 3) (aB V O4) (aB o O4) O1)) λ_ _=>?_;refine Xc J J (Xl (Xy [(0,_),(1,_),(2,_),(3,_)] J K8 (λa w hs=>Zqm)))<|go 4 ?_;exact Xh v () results177 J aA Za
def eg162:Tryz.prog.eqGuardType Tryz.prog.depth 162=false:=O8
theorem eqlP(w:World){p q r o g h j e:Int}:(binOp .eql 162 (plV p q r o) (plV g h j e)).run Tryz.prog w= .ok (.bool (decide (p=g/\q=h/\r=j/\o=e))) w:=by
 have l:Tryz.prog.stoodInHeld 162=false:=O8;have k:Tryz.prog.underlying 162=some (.struct (Tryz.prog.fieldsOf 162)):=by unfold Program.fieldsOf;rw [Tryz.underlying162]
 rw [run_eql_struct,run_equalIn_agg w 9999 162 _ _ k l];unfold Program.fieldsOf;rw [Tryz.underlying162];simp [Op.eqFields,part,Tryz.isAgg80,Tryz.sizeOf80,Ysg,Ynb];by_cases m:p=g<;>by_cases n:q=h<;>by_cases s:r=j<;>by_cases t:o=e<;>simp_all
def litb(l:List Int):Bool:=(l.all λx=>decide (-1000000<=x) && decide (x<=1000000)) && (decide (tzl l=l) && decide (l.length<=25))
instance eokDec:∀f a b,Decidable (eok f a b)
 | 0,_,b=>inferInstanceAs (Decidable (b=[]))
 | f+1,a,b=>@instDecidableOr _ _ _ (@instDecidableAnd _ _ _ (eokDec f b (Yb (Qu a b))))
def lessx(xs:List Int)(m:Int):List Int:=Ek xs (tzl [m])
def Zyi(xs:List Int)(m:Int):Prop:=∃x:Rat,0<=x/\x<=1/\Zi xs x<(m:Rat)
theorem Ygp{m n:Int}(h:Zyi xs m)(e:m<=n):Zyi xs n:=by
 obtain⟨x,a,b,c⟩:=h;have:(m:Rat)<=(n):=by exact_mod_cast e
 exact⟨x,a,b,O5⟩
def lws:List Int->Int
 | []=>0
 | c::p=>-(c.natAbs:Int)+lws p
theorem Yl2{n:Nat} : ∀p:List Int,(∀c∈p,c.natAbs<=n)->-((p.length*n:Nat):Int)<=lws p/\lws p<=0
 | [],_=>by show -((0*n):Int)<=0/\(0)<=0;simp
 | c::p,h=>by have g:=Yl2 p λd e=>h d (bH _ e);show -(((p.length+1)*n))<=-(c.natAbs)+lws p/\-(c.natAbs)+lws p<=0;grind
theorem Yc7{x:Rat}(e:0<=x)(g:x<=1):∀p:List Int,((lws p:Int):Rat)<=Zi p x
 | []=>by rfl
 | c::p=>by
  have q:=Yc7 e g p;have h:=(Yl2 (n:=p.foldl (λm c=>max m c.natAbs) 0) p (λc k=>by
   have:∀(l:List Int) (a:Nat),(a<=l.foldl (λm c=>max m c.natAbs) a)/\∀c∈l,c.natAbs<=l.foldl (λm c=>max m c.natAbs) a:=λl=>by
    induction l with
    | nil=>simp
    | cons d l q=>
     grind
   grind)).2
  have j:((lws p):Rat)<=0:=by exact_mod_cast h
  have k:((-(c.natAbs:Int)))<=(c:Rat):=by exact_mod_cast (show -(c.natAbs)<=c by omega)
  have r:=aE (show 0<=1-x by grind) (show 0<=-((lws p):Rat) by grind);have o:=aE e (show 0<=Zi p x-((lws p)) by grind);show((-(c.natAbs)+lws p:Int))<=(c)+x*Zi p x;grind
theorem Yl5(xs:List Int):¬Zyi xs (lws xs):=by rintro⟨x,a,b,c⟩;grind [Yc7]
theorem Yq7(xs:List Int):Zi xs 0=((cf xs 0:Int):Rat):=by
 cases xs with
 | nil=>rfl
 | cons c p=>show(c)+0*Zi p 0=(c);grind
theorem Ygq(xs:List Int):Zyi xs (cf xs 0+1):=by refine⟨0,by rfl,by rfl,?_⟩;grind [Yq7]
theorem Yr4{l h:Int}(e:¬Zyi xs l)(g:Zyi xs h):l<h:=by grind [Int.lt_or_le,Ygp]
def Zuu(hs:Sz 40 xs)(i:Nat):(cf xs i).natAbs<1099511627776:=(Qs 40 _).1 (hs i)
theorem Yl1(hs:Sz 40 xs)(o:xs.length<=9)(i:Nat):-9895604649984<=lws (xs.take i)/\lws (xs.take i)<=0:=by
 obtain⟨h,j⟩:=Yl2 (n:=1099511627776) _ λc g=>by
  obtain⟨k,m,rfl⟩:=cQ.1 g;have l:=Zuu hs k;have e:(xs.take i)[k]=cf xs k:=by unfold cf;grind
  omega
 grind
structure FlI (xs:List Int) (lo hi:Int):Prop where
 l:¬Zyi xs lo
 h:Zyi xs hi
 b1:-17592186044416<=lo
 b2:hi<=17592186044416
def FlI.lt{e hi:Int}(h:FlI xs e hi):e<hi:=Yr4 h.l h.h
theorem FlI.start(hs:Sz 40 xs)(e:xs.length<=9)(hi:xs.length<=i):FlI xs (lws (xs.take i)) (cf xs 0+1):=by have g:=Yl1 hs e i;have h:=Zuu hs 0;refine⟨by grind [List.take_of_length_le,Yl5],Ygq xs,O1,O1⟩
theorem qv_01:qv (0,1)=0/\qv (1,1)=1:=by unfold qv;grind
structure Ef (a:R2):Prop where
 p:0<a.2
 b1:bl a.1.natAbs<=512
 b2:bl a.2.natAbs<=512
def E32.ef{a:R2}(h:E32 a):Ef a:=⟨h.p,aB h.b1 O4,aB h.b2 O4⟩
def plx(a b:R2):Int:=a.1*b.2
def ply(a b:R2):Int:=b.1*a.2
def pld(a b:R2):Int:=a.2*b.2
def plc(xs:List Int)(a b:R2):List Int:=Lv xs (plx a b) (ply a b-plx a b) (pld a b)
def psum(c:List Int)(d j:Nat)(i:Nat):Int:=Yl (λi=>cf c i*(Ou (d-i) (j-i):Int)) i
def plainB(xs:List Int)(a b:R2):Bool:=if xs.length=0 then true else(List.range xs.length).all λj=>decide (0<=psum (plc xs a b) (xs.length-1) j (min (j+1) (plc xs a b).length))
abbrev PTs:=Int×R2×R2
abbrev P0:PTs:=(0,(0,0),(0,0))
abbrev encP9 (z:PTs):Value:= .agg #[.int .i64 z.1,.bool (decide (z.2.1.1<0)),.string (Qp z.2.1.1.natAbs),.bool (decide (z.2.1.2<0)),.string (Qp z.2.1.2.natAbs),.bool (decide (z.2.2.1<0)),.string (Qp z.2.2.1.natAbs),.bool (decide (z.2.2.2<0)),.string (Qp z.2.2.2.natAbs)]
def shw(xs:List Int)(z:PTs):Bool:=if z.1=1 then plainB xs z.2.1 z.2.2 else if xs.length=0\/cmp z.2.1 z.2.2=0 then decide (0<=vlu (Pr xs) z.2.1)else decide (0<aft (Pr xs) z.2.1) && !crb (Aj xs) z.2.1 z.2.2
def okpB(xs:List Int)(l:R2)(z:PTs):Bool:=decide (cmp l z.2.1=0) && decide (¬0<cmp z.2.1 z.2.2) && shw xs z
def lst(a:R2)(ps:List PTs)(i:Nat):R2:=if i=0 then a else(ps.getD (i-1) P0).2.2
def chkP(xs:List Int)(ps:List PTs)(a b:R2):Bool:=decide (0<ps.length) && (List.range ps.length).all (λk=>okpB xs (lst a ps k) (ps.getD k P0)) && decide (cmp (lst a ps ps.length) b=0)
def ValP(ps:List PTs):Prop:=∀z∈ps,(z.1=1\/z.1=2)/\Ef z.2.1/\Ef z.2.2
theorem Ef.efit{a:R2}(h:Ef a):Go.Sky.efit a=true:=by have:=h.b1;have:=h.b2;unfold Go.Sky.efit;exact aG O1
theorem Zt0(h:(!b)=true):b=false:=by cases b<;>simp_all
theorem Zt1(h:(!b)=false):b=true:=by cases b<;>simp_all
theorem Af {P:Program} {N:Nat} {sc:Nat->Prop} {env:Pw} {H:Hp}  {ops:Array Oper} {F:Pw->Hp->Prop}  {o:Oper} {d j e:Nat}  (q:ops[i]? = some o) (n:o.guard=some (j,b)) (p:(ops[j]?).bind (·.dst)=some e) (m:lk env e=some undef) (l:o.dst=some d) 
  (h:LD P N sc M ops F rest ((d,undef)::env) H) (k:Nat.blt d N=true:=by rfl):LD P N sc M ops F ((i,2)::rest) env H:=⟨o,d,q,l,k,λa w g=>by simp [Region.wanted,n,g.yieldedu p m],h⟩
theorem Yiu{fr k e l h:Int}{v B D m n o:Value}{z q r s:List Int}(F:Sgo fr k ov x y z)(p:Sgo e l h q r s):Qe prog 159 #[.agg #[.int .i64 fr,.int .i64 k,.int .i64 ov,v,B,D],.agg #[.int .i64 e,.int .i64 l,.int .i64 h,m,n,o]] [Yx 1 Yj v x,Yx 1 Yj B y,Yx 1 Yj D z,Yx 1 Yj m q,Yx 1 Yj n r,Yx 1 Yj o s] (.bool (Zj7 k ov x y z e h q r s)):=by
 refine Zg func159 ntmps159 λI H u j=>go 2 ?_;refine Yd (Yk 7) λG _=>Yd (Yk 8) λt _=>go 4 ?_;rcases(show k=e\/k≠e by omega)with g|g
 .refine Qb (λ_=>False) [(0,0),(1,0),(2,0),(3,0),(4,0),(5,0),(6,0),(8,0),(7,1),(9,1),(10,0),(11,0),(12,3)]<|go 4 ?_;refine Xc J J (Xl (dT (Ynu J J J) (vB (aG g))))<|go 3 ?_;refine Zfu J J J J J (Xe 8 (Zu1 1 1 F ⟨O4,O4⟩ ⟨O4,O4⟩) J J J K3 call177 (Zm 1 J J J (Zm 2 J J J (Zm 3 J J J Zn))) J u.h) (λ_ _=>?_);refine Zfu J J J J J (Xe 8 (Zu1 0 1 p ⟨O4,O4⟩ ⟨O4,O4⟩) J J J K3 call177 (Zm 4 J J J (Zm 5 J J J (Zm 6 J J J Zn))) J u.h) (λ_ _=>?_);refine Em (Xl (Zdy J J J eg162 (λw=>eqlP w))) J J J J J<|go 5 ?_;exact Xh j () results159 (by unfold Zj7;rw [aG g];rfl) aA Za
 .refine Qb (λ_=>False) [(0,0),(1,0),(2,0),(3,0),(4,0),(5,0),(6,2),(8,2),(7,2),(9,2),(10,2),(11,0),(12,3)]<|go 4 ?_;refine Xc J J (Xl (dF (Ynu J J J) (vB (aI g))))<|go 11 ?_;exact Xh j () results159 (by unfold Zj7;rw [aI g];rfl) aA Za
theorem Nu{v:Value}{ps:List Zk}(t:∀g∈ps,Gin g):Qe prog 89 #[v] [Xn 6 Xv qG v ps] (.bool (Yf ps)):=by
 refine Zg func89 ntmps89 λD B u l=>?_;refine Pi (Mi (i:=1) J Zc) λs=>go 14 ?_;refine lp (G:=Nat) [0,5,6] [0,1] (λi=>[(7,.int .i64 (i:Int))]) (λi=>[]) (λi=>(i<=ps.length)/\(∀k,k<i->Ze4 ps k=true)) (λi=>ps.length-i) 0 ⟨O2,λk n=>absurd n (bD k)⟩ K1 aA ?_;rintro i ⟨hi,n⟩;refine go 6<|Ze J (λo=>?_) (λo=>?_)
 .refine go 5 ?_;have h:=t _ (Zd (d:=G0) (show i<ps.length by omega));refine Zf (Pf (ps.getD i G0) ((ps.getD i G0).2.1) 1 51 J J (Zd O1) O6)<|Zf (Pf (ps.getD i G0) ((ps.getD i G0).2.2.1) 1 52 J J (Zd O1) O6)<|Zf (Pf (ps.getD i G0) ((ps.getD i G0).2.2.2) 1 53 J J (Zd O1) O6)<|go 3 ⟨O3,?_⟩;refine dt (Yw 1 G0 J J J Zc pG O3)<|Yd (Zw 2) λw _=>go 5 ?_;rcases Zph (ps.getD i G0) i with e|⟨e,j⟩|⟨e,j⟩
  .refine Qb (λ_=>False) [(0,0),(1,1),(2,0),(3,0),(4,2),(5,2),(6,2),(7,2),(8,2),(9,2),(10,2),(11,2),(12,2),(13,2),(14,2),(15,2),(16,0)]<|go 1<|Yn (Zl 2 [51,52,53] (Zda h.f h.t h.o h.x h.y h.z)) λ_ _=>?_;refine Xc J J (Xl (dT (Yq J J) (vB (by rw [show Bf _ _ _ _ _ _=_ from e];rfl))))<|go 4 ?_;refine Af J J J J J<|Af J J J J J<|Af J J J J J<|Af J J J J J<|Af J J J J J<|Af J J J J J<|Af J J J J J<|Af J J J J J<|go 16 ?_;exact Xh l () results89 (by rw [Zhb i O1 (Yle e)]) aA Za
  .refine Qb (λ_=>False) [(0,0),(1,1),(2,0),(3,0),(4,0),(5,0),(6,0),(7,2),(8,2),(9,2),(10,2),(11,2),(12,2),(13,2),(14,2),(15,0),(16,0)]<|go 1<|Yn (Zl 2 [51,52,53] (Zda h.f h.t h.o h.x h.y h.z)) λ_ _=>?_;refine Xc J J (Xl (dF (Yq J J) (vB (by rw [show Bf _ _ _ _ _ _=_ from e];rfl))))<|go 2 ?_;refine Em (Xl (dF (Zb0 J J J) (vB (aI O1)))) J J J J J<|go 21 ⟨O1,?_⟩;exact Yh (i+1) ⟨O2,λk r=>by rcases aY.1 r with m|m;exact n k m;subst m;exact Ylf e j⟩ O2 K1 aA
  .refine Zf (Pf (ps.getD (i-1) G0) ((ps.getD (i-1) G0).2.1) 1 54 J J (Zd O1) O6)<|Zf (Pf (ps.getD (i-1) G0) ((ps.getD (i-1) G0).2.2.1) 1 55 J J (Zd O1) O6)<|Zf (Pf (ps.getD (i-1) G0) ((ps.getD (i-1) G0).2.2.2) 1 56 J J (Zd O1) O6)<|Qb (λ_=>False) [(0,0),(1,1),(2,0),(3,0),(4,0),(5,0),(6,0),(7,0),(8,0),(9,0),(10,0),(11,0),(12,0),(13,1),(14,0),(15,0),(16,0)]<|go 1<|Yn (Zl 2 [51,52,53] (Zda h.f h.t h.o h.x h.y h.z)) λ_ _=>?_;refine Xc J J (Xl (dF (Yq J J) (vB (by rw [show Bf _ _ _ _ _ _=_ from e];rfl))))<|go 2 ?_;refine Em (Xl (dT (Zb0 J J J) (vB (aG O1)))) J J J J J<|go 4 ⟨O1,?_⟩;refine Em (Xl (Zv 1 (i-1) J J J J Zc Lz Ir)) J J J J J<|Em (Xl (Yw 1 G0 J J J Zc pG)) J J J J J<|go 1 ?_;refine Zfu J J J J J (Xe 2 (Yiu (Oj (t _ (Zd O1)) (Nx (n (i-1) O1))) (Oj h e)) J J J K2 call159 (Zm 54 J J J (Zm 55 J J J (Zm 56 J J J (Zm 51 J J J (Zm 52 J J J (Zm 53 J J J Zn)))))) J u.h) λ_ _=>go 5 ?_;refine Mz J (λp=>?_) (λp=>?_)
   .refine go 11 ?_;exact Xh l () results89 (by rw [Zhb i O1 ((Zdn e j).trans (Zt0 ‹_›))]) aA Za
   .refine go 7 ⟨O1,?_⟩;exact Yh (i+1) ⟨O2,λk r=>by rcases aY.1 r with m|m;exact n k m;subst m;exact(Zdn e j).trans (Zt1 ‹_›)⟩ O2 K1 aA
 .obtain rfl:i=ps.length:=O1;refine go 11<|Xf 33 J (λq=>?_) (λq=>?_)
  .refine go 8 ?_;exact Xh l () results89 (by rw [Zlb n];first|exact vB (bF.2 O1)|exact vB (aI O1)) aA Za
  .refine go 8 ?_;exact Xh l () results89 (by rw [Zlb n];first|exact vB (bF.2 O1)|exact vB (aI O1)) aA Za
def Pe(c:List Int)(a b d:Int):List Int:=Zt (Lv (tzl c) a b d) (d^(6-c.length))
def Bd(h:a.natAbs<=3600000):bl a.natAbs<=22:=(Qs 22 _).2 (aV h O4)
theorem Zql(h:bl d.natAbs<=22):∀k,k<=5->bl (d^k).natAbs<=132
 | 0,_=>by rw [dC];decide
 | k+1,g=>by
  have e:∀k,bl (d^k).natAbs<=22*k+1:=λk=>by
   induction k with
   | zero=>rw [dC];decide
   | succ k j=>rw [dD];have:=Zy (d^k) d;omega
  have:=e (k+1);omega
theorem Zjj(h:∀a∈c,Nc a)(t:1<=c.length/\c.length<=6){b:Int}(r:a.natAbs<=3600000)(s:b.natAbs<=3600000)(F:1<=d/\d<=3600000) :
  Vp (tzl c)/\¬Zn0 (tzl c) a b d/\Vp (Lv (tzl c) a b d)/\bl (d^(6-c.length)).natAbs<=132/\(∀i,bl (cf (Lv (tzl c) a b d) i*d^(6-c.length)).natAbs<=65536)/\Vp (Pe c a b d)/\Sz 1000 (Pe c a b d)/\(Pe c a b d).length<=6:=by
 have w:(tzl c).length<=6:=aB (Ns c) t.2;have n:Sz 64 (tzl c):=(Yfd h).sz O4;have o:=Bd r;have p:=Bd s;have g:bl d.natAbs<=22:=Bd O1;have l:=cp_not (cp_nf n o p g O1 O1);have hs:Sz 300 (Lv (tzl c) a b d):=by
  have h:=Zky (x:=a) (y:=b) (z:=d) (m:=22) n o p g ((tzl c).length-1);unfold Lv;split
  .exact Sz.nil _
  .refine(Sz.tzl h).mono ?_;have:((tzl c).length-1)*(22+1)<=5*23:=aP O1 O1;omega
 have v:Tr (Lv (tzl c) a b d):=by
  unfold Lv;split
  .exact .inl rfl
  .exact Qn _
 have j:(Lv (tzl c) a b d).length<=6:=aB (Zfx _ _ _ _) w;have u:=Zql g (6-c.length) O1;have q:∀i,bl (cf (Lv (tzl c) a b d) i*d^(6-c.length)).natAbs<=500:=λi=>by have B:=hs i;have D:=Zy (cf (Lv (tzl c) a b d) i) (d^(6-c.length));omega
 have e:Sz 1000 (Pe c a b d):=λi=>by unfold Pe;rw [Yo];have:=q i;omega
 have k:(Pe c a b d).length<=6:=aB (Ok _ _) j;exact⟨⟨n.mono O1,Qn _,O1⟩,l,⟨hs.mono O1,v,O1⟩,u,λi=>by have:=q i;omega,⟨e.mono O1,Ql _ _,O1⟩,e,k⟩
def Zv8(zs:List (SL×List Int)):List (SL×List Int):=zs ++ List.replicate (3-zs.length) ((none,0,0),[])
theorem Yl7(h:zs.length<=3):(Zv8 zs).length=3:=by unfold Zv8;rw [bG,aR];omega
theorem Yk7(hi:i<3)(h:zs.length=i):(Zv8 zs).set i z=Zv8 (zs ++ [z]):=by subst h;unfold Zv8;rw [jN _ _ (aF _),fE,bG,eC];congr 1;obtain⟨k,e⟩:∃k,3-zs.length=k+1:=⟨2-zs.length,O1⟩;rw [e,iV,mK,show 3-(zs.length+[z].length)=k by simp;omega];rfl
theorem Zx3{t:Nat}{s:SL}(g:zs.length=i)(h:∀t,t<i->(zs.getD t d0).2=f t)(j:t<i+1):((zs ++ [(s,f i)]).getD t d0).2=f t:=by
 subst g;rw [aL];rcases aY.1 j with e|e
 .rw [eN e,<-aL];exact h t e
 .subst e;simp
theorem Yh5{z:List Int}{b:Int}(k:zs.length=3)(h:∀t,t<3->(zs.getD t d0).2=Pe (Zs t x y z) a b d):∃l m n:SL,zs=[(l,Pe x a b d),(m,Pe y a b d),(n,Pe z a b d)]:=by
 match zs,k with
 | [o,p,q],_=>
  have e:=h 0 O4;have g:=h 1 O4;have j:=h 2 O4;simp [Zs]at e g j;exact⟨o.1,p.1,q.1,by rw [<-e,<-g,<-j]⟩
open Go.RowKit Below
variable {P:Program} {N:Nat} {sc:Nat->Prop} {env env':Pw} {H H':Hp} {Q Q':Exit->Act->World->Prop}
def Yjt{n:Nat}{e:String}{w:World}(h:Rows P e args w R):RowsIn Fence.wide n P e args w R:=λc g _=>
 let ⟨v,w',r,s⟩:=h c g;⟨v,w',r,stepsIn_wide.2 s⟩
def noQ:Exit->Act->World->Prop:=λ_ _ _=>False
section
variable {ops:Array Oper} {C:World->World->Prop}
def wpAnyZ(P:Program)(ops:Array Oper)(g:List Nat)(C:World->World->Prop)(Q:Exit->Act->World->Prop):Nat->Array Bool->Act->World->Prop
 | 0,_,_,_=>False
 | e+1,listed,a,w=>if Fn ops g listed=true then wpAnyIn Fence.wide 0 P .any ops Q (e+1) listed a w else
  (Region.ready .any ops listed=[]->False)/\
  ∀i∈Region.ready .any ops listed,wpOp P ops noQ i (λj h=>C w h/\wpAnyZ P ops g C Q e (listed.setIfInBounds i true) j h) a w
inductive Dep (ops:Array Oper) (i:Nat):Nat->Prop
 | base {j:Nat} {o:Oper} {e:Edge} : ops[j]? = some o->e∈o.after->Region.binds .any e=true->e.on=i->Dep ops i j
 | step {j:Nat} {o:Oper} {e:Edge} : ops[j]? = some o->e∈o.after->Region.binds .any e=true->Dep ops i e.on->Dep ops i j
def Ynn(ops:Array Oper)(i:Nat):Nat->List Nat
 | 0=>[]
 | k+1=>match ops[k]? with
  | some o=>if o.after.any (λe=>Region.binds .any e && (e.on == i || (Ynn ops i k).contains e.on))then k::Ynn ops i k else Ynn ops i k
  | none=>Ynn ops i k
def Clo(ops:Array Oper)(listed:Array Bool):Prop:=∀k o,ops[k]? = some o->listed.getD k true=true->∀e∈o.after,Region.binds .any e=true->listed.getD e.on true=true
theorem Clo.un{j:Nat}(m:Clo ops listed)(hi:listed.getD i true=false)(n:Dep ops i j):listed.getD j true=false:=by
 induction n with
 | @base k o e l h g p=>
  cases hl:listed.getD k _ with
  | false=>rfl
  | true=>have:=m _ _ l hl _ h g;grind
 | @step k o e l h g _ q=>
  cases hl:listed.getD k _ with
  | false=>rfl
  | true=>have:=m _ _ l hl _ h g;grind
theorem Clo.set{j:Nat}(n:Clo ops listed)(q:j∈Region.ready .any ops listed):Clo ops (listed.setIfInBounds j true):=λk o s l e p m=>by
 obtain⟨u,w,t,h⟩:=mem_ready.1 q;have v:listed.getD e.on true=true:=by
  by_cases g:j=k
  .grind
  .rw [getD_set_ne _ g]at l;exact n k o s l e p m
 by_cases r:j=e.on
 all_goals simp_all
end
def Ycp(ops:Array Oper)(e:List Nat):List (Nat×Nat)->Array Bool->Bool
 | [],_=>true
 | (i,1)::rest,listed=>(Region.ready .any ops listed == [i]) && !(Fn ops e listed) && Ycp ops e rest (listed.setIfInBounds i true)
 | (i,3)::rest,listed=>false
 | (i,_)::rest,listed=>(Region.ready .any ops listed).contains i && Region.free .any ops listed i && !(e.contains i) && e.all (λj=>(Ynn ops i ops.size).contains j) && Ycp ops e rest (listed.setIfInBounds i true)
def YL(P:Program)(N:Nat)(sc:Nat->Prop)(ops:Array Oper)(Q:Exit->Act->World->Prop)(k:Nat)(listed:Array Bool)(env:Pw)(H:Hp):Prop:=
 ∀a w,Sat N sc env H a w->wpAnyIn Fence.wide 0 P .any ops Q (k+1) listed a w
end Go.Sky
namespace Go.Sky
open Go.RowKit Below
variable {P:Program} {N:Nat} {sc:Nat->Prop} {env env':Pw} {H H':Hp} {Q Q':Exit->Act->World->Prop}
def CalY(P:Program)(f:FuncId)(d:List Value)(pre:List Pc)(i:Prop){G:Type}(j:G->Prop)(h:G->Value):Prop:=
 ∀(l:Nat) (J:World->Prop) (w:World),(∀p∈pre,p.holds w)->
  (∀g,j g->∀a,Below w.heap.size w a->YieldAt Fence.wide 0 P l #[h g] a λe c=>e= .returned (.bool false)/\J c)->
  Calls P f (.func (.yield l) #[] #[]::d).toArray w λe b=>(∃v,e= .returned v)/\((i/\Below w.heap.size w b)\/J b)
def FPostY(P:Program)(fn:Func)(w0:World)(b:Prop)(J:World->Prop):Exit->Act->World->Prop:=
 bodyPost P fn λe a=>(∃v,e= .returned v)/\((b/\Below w0.heap.size w0 a)\/J a)
def YJ(P:Program)(w0:World)(l:Nat){G:Type}(d:G->Prop)(c:G->Value)(J:World->Prop):Prop:=
 ∀g,d g->∀a,Below w0.heap.size w0 a->YieldAt Fence.wide 0 P l #[c g] a λe b=>e= .returned (.bool false)/\J b
theorem Yj0{fn:Func}{tmps:Array Value}{w:World}(a:fn.results=#[]):(results fn tmps).run P w= .ok (.tuple #[]) w:=by simp_all [Zmq]
end Go.Sky
namespace Go.Sky
open Go.RowKit Below
variable {P:Program} {N:Nat} {sc:Nat->Prop} {env env':Pw} {H H':Hp} {Q Q':Exit->Act->World->Prop}
end Go.Sky
namespace Go.Sky
open Go.RowKit Below
variable{f:FuncId}{vs:List Value}{pre:List Pc}{o:Oper}{a:Act}{w:World}{K K':Act->World->Prop}{r:Nat}{ρ:Operand->Value}{Q1:Exit->Act->World->Prop}
variable {P:Program} {N:Nat} {sc:Nat->Prop} {env env':Pw} {H H':Hp} {Q Q':Exit->Act->World->Prop}
def Zf9(P:Program)(fn:Func)(w0:World)(pre:List Pc)(al:Bool){G:Type}(φ:G->Prop)(Yt:G->Value)(c:G->List Pc):Exit->Act->World->Prop:=
  bodyPostM Fence.wide 0 P fn λe d => ∃ g, e = .returned (Yt g) /\ φ g /\ Below w0.heap.size w0 d /\
        ∀p∈c g,p.holds d/\p.own=false/\∀b,p.fp b->w0.heap.size<=b\/(al=true/\∃q∈pre,q.fp b)
theorem Zcx  {fn:Func} {c:Code}   {al:Bool} {G:Type} {φ:G->Prop} {Yt:G->Value} {k:G->List Pc} {N:Nat}
    (y:P.funcs[f]? = some fn) (d:fn.body=some c) (M:fn.ntmps=N) (z:Nat.ble vs.length N=true) (m:AllRo pre)
    (h:∀w0 (sc:Nat->Prop),(∀b,w0.heap.size<=b->sc b)->(∀b,sc b->w0.heap.size<=b\/∃q∈pre,q.fp b)->
      E P N sc c (Zf9 P fn w0 pre al φ Yt k) (Qz 0 vs) ((0,Yy w0 (λ_=>False))::Xd 1 pre)) :
    Cal P f vs.toArray pre al φ Yt k:=λw F=>by
  refine(callsIn_wide).1 (callsIn_of_wp_marks y d aA (wpIn_wide.2 (h w _ (λb d=> .inl d) (λb d=>d) _ w ?_)));have s:vs.length<=N:=O11;refine⟨O5,rfl,λt v I=>?_,λi p hi=>?_,λi j p q D hi R u b d x=>?_,λi p l hi b d=>?_⟩
  . have n:=(Ft vs 0 t v I).2;have n:vs.toArray[t]? = some v:=O5;have B:=(aS.1 n).1;simp_all [bM,eF]
  . by_cases g:0=i
    . subst g;cases hi;exact Chg.refl _ w
    . rw [Zx _ _ g]at hi;exact F p (Mp pre 1 i p hi).2
  . by_cases g:0=i
    . subst g;cases hi;cases u
    . rw [Zx _ _ g]at hi;rw [m.mem p (Mp pre 1 i p hi).2]at u;grind
  . rw [Zx _ _ (λe=>l e.symm)]at hi;exact .inr ⟨p,(Mp pre 1 i p hi).2,d⟩
def onlyR(Q:Exit->Act->World->Prop):Exit->Act->World->Prop:=Fc Q
theorem Dc:¬LetsOut (Fc Q):=λ⟨_,_,h⟩=>h
theorem Ycu(b:∀c,o.op≠ .defer c)(h:o.wp P a w K (Fc Q)):o.wpIn (Fence.wide.inRound r) 0 P a w K Q:=by
  refine⟨λ_ _=>trivial,?_⟩;unfold Oper.wp at h;show o.uponIn _ 0 P a K Q ((o.semAt (some r) _).run P w);rw [Oper.semAt_some r _ o b];generalize (execOp _ o).run P w=x at *;cases x with
  | ok n g=>
    cases n<;>simp only [Oper.upon,Oper.uponIn]at h ⊢
    case value=>omega
    case skip=>omega
    case defer=>omega
    case enter f args=>
      refine⟨λh=>(by cases h),CallsIn.inRound r (callsIn_wide.2 (h.mono λe i d=>?_))⟩;cases e with
      | returned v=>omega
      | panicked c=>exact d.elim
      | outgrown=>grind [Dc]
    case row row args=>exact⟨λh=>(by cases h),Yjt h⟩
  | halt x g=>
    cases x<;>simp only [Oper.upon]at h
    case panic u=>exact h.elim
def Zle(l:List Oper):Prop:=∀o∈l,∀c,o.op≠ .defer c
theorem Zsh{ops:Array Oper}{r:Nat} : ∀(l:List Oper) (a:Act) (w:World),Zle l->wpList P ops (Fc Q) l a w->wpListIn (Fence.wide.inRound r) 0 P ops Q l a w
  | [],_,_,_,h=>h
  | o::l,a,w,hnd,h=>by
    unfold wpList at h;unfold wpListIn;split
    . rename_i c;simp only [c,kL]at h;exact Oper.wpIn_mono (λa w d=>Zsh l a w (λo b=>hnd o (bH _ b)) d) (Ycu (hnd o (bR ..)) (h.resolve_right λh=>Dc h.2))
    . rename_i c;simp only [c]at h;exact⟨λ_ _=>trivial,Zsh l _ w (λo b=>hnd o (bH _ b)) h⟩
def Yj2{id:Nat}{l:List Oper}(b:Zle l)(h:L P N sc l.toArray l (Fc Q) env H)(hs:Sat N sc env H a w):(Code.region id l.toArray false).wpIn (Fence.wide.inRound r) 0 P Q a w:=
  wpIn_region_lit (Zsh l a w b (h a w hs))
def fx(l:Nat)(o:Obj):Pc:=
  { own:=false,fp:=λb=>b=l,holds:=λw=>w.heap[l]? = some o
    lt:=λw b h c=>by subst c;exact(aS.1 h).1
    stable:=λw g h d=>(d.block l (aS.1 h).1 (λe=>e rfl)).trans h }
def Zg9(o:Oper):Bool:=match o.op with
  | .build ..=>true
  | .store ..=>true
  | .load ..=>true
  | .alloc ..=>true
  | _=>false
theorem Yk1(h:Zg9 o=true){w':World}{d:Deferred} : (execOp ρ o).run P w≠ .ok (.defer d) w':=λb=>by
  unfold Zg9 at h;cases ho:o.op<;>simp only [ho]at h<;>try (cases h)
  all_goals
    simp only [execOp,ho,Sem.run_bind]at b;revert b;generalize Sem.run P _ w=r;cases r<;>simp [Result.andThen,Sem.run_pure]
theorem Zmu(a:Act)(ds:List Deferred)(d:Option Tmp)(v:Value):({ a with defers:=ds } : Act).put d v={ a.put d v with defers:=ds }:=by cases d<;>rfl
theorem Yrt    {ds:List Deferred}   (b:Zg9 o=true) (k:∀a w,K a w->K' { a with defers:=ds } w)
    (l:∀e a w,¬Q1 e a w) (h:o.wp P a w K Q1):o.wp P { a with defers:=ds } w K' Q:=by
  unfold Oper.wp at h ⊢;have i:=λd w'=>Yk1 (P:=P) b (ρ:=a.eval) (w:=w) (w':=w') (d:=d);show o.upon P _ K' Q ((execOp a.eval o).run P w);generalize (execOp _ o).run P w=x at *;cases x with
  | ok n w'=>
    cases n<;>simp only [Oper.upon]at h ⊢
    case value=>grind [Zmu]
    case skip=>grind [Zmu]
    case defer d=>grind
    case enter f args=>
      refine h.mono λe j g=>?_;cases e with
      | returned v=>grind [Zmu]
      | panicked c=>grind
      | outgrown=>obtain⟨_,_,h⟩:=g;grind
    case row row args=>exact h.mono λ_ _ g=>by grind [Zmu]
  | halt x w'=>
    cases x<;>simp only [Oper.upon]at h;grind
theorem Zsi{ops:Array Oper}{ds:List Deferred} : ∀(l:List Oper) (a:Act) (w:World),l.all Zg9=true->wpList P ops (Fc λe a w=>Q e { a with defers:=ds } w) l a w->wpList P ops Q l { a with defers:=ds } w
  | [],_,_,_,h=>h
  | o::l,a,w,hnd,h=>by
    simp only [List.all_cons,aN]at hnd;unfold wpList at h ⊢;split
    . rename_i d;simp only [d,kL]at h;have h:=h.resolve_right λh=>Dc h.2;refine .inl (Yrt hnd.1 (λa w g=>Zsi l a w hnd.2 g) (λ_ _ _ h=>h) ?_);unfold Oper.wp at h ⊢;revert h;generalize (execOp _ o).run P w=x;intro h;cases x with
      | ok n i=>
        cases n<;>simp only [Oper.upon]at h ⊢
        case value=>exact h
        case skip=>exact h
        case defer=>exact h
        case enter f args=>
          refine h.mono λe j b=>?_;cases e with
          | returned v=>exact b
          | panicked c=>exact b
          | outgrown=>exact absurd b Dc
        case row row args=>exact h
      | halt x i=>
        cases x<;>simp only [Oper.upon]at h ⊢
        case panic u=>exact h
    . rename_i d;rw [aK d]at h;rw [Zmu];exact Zsi l _ w hnd.2 h
end Go.Sky
namespace Go.Sky
open Go.RowKit Below
variable{a:Act}{w:World}{i:Nat}
variable {P:Program} {N:Nat} {sc:Nat->Prop} {env env':Pw} {H H':Hp} {Q Q':Exit->Act->World->Prop}
abbrev ALL:Nat->Prop:=λ_=>True
def FpSub:Hp->Hp->Prop
 | [],_=>True
 | (i,p)::r,H=>(∃q,lk H i=some q/\p.own=q.own/\∀b,p.fp b->q.fp b)/\FpSub r H
theorem FpSub.lk:∀{H' H:Hp},FpSub H' H->∀i p,lk H' i=some p->∃q,lk H i=some q/\p.own=q.own/\∀b,p.fp b->q.fp b
 | [],_,_,_,_,h=>by cases h
 | (k,u)::r,H,h,i,p,hi=>by
  by_cases c:k=i
  .subst c;rw [Ys]at hi;cases hi;exact h.1
  .rw [Zx _ _ c]at hi;exact FpSub.lk h.2 i p hi
theorem Sat.re{w':World}(hs:Sat N sc env H a w)(l:∀i p,lk H' i=some p->∃q,lk H i=some q/\p.own=q.own/\∀b,p.fp b->q.fp b)(n:∀i p,lk H' i=some p->p.holds w'):Sat N ALL env H' a w':=
 ⟨hs.size,hs.defers,hs.env,n,λi j p q f hi o r b m c=>by obtain⟨s,h,g,d⟩:=l i p hi;obtain⟨t,k,_,e⟩:=l j q o;exact hs.sep i j s t f h k (g▸r) b (d b m) (e b c),λ_ _ _ _ _ _=>trivial⟩
def FpN:Hp->Hp->Prop
 | [],_=>True
 | (i,p)::r,H=>(p.own=true\/∃q,lk H i=some q/\∀b,p.fp b->q.fp b)/\FpN r H
theorem FpN.lk:∀{H' H:Hp},FpN H' H->∀i p,lk H' i=some p->p.own=true\/∃q,lk H i=some q/\∀b,p.fp b->q.fp b
 | [],_,_,_,_,h=>by cases h
 | (k,u)::r,H,h,i,p,hi=>by
  by_cases c:k=i
  .subst c;rw [Ys]at hi;cases hi;exact h.1
  .rw [Zx _ _ c]at hi;exact FpN.lk h.2 i p hi
theorem lk3{p q:Pc}{r:Pc}(h:lk ((90,p)::(91,q)::H) i=some r):(i=90/\r=p)\/(i=91/\r=q)\/(i≠90/\i≠91/\lk H i=some r):=by grind [Ys,Zx]
theorem lk3'{p q:Pc}(b:i≠90)(c:i≠91):lk ((90,p)::(91,q)::H) i=lk H i:=by grind [Zx]
theorem Sat.turn{l D:Nat}{o d f:Obj}(hs:Sat N ALL env ((90,fx l o)::(91,fx D f)::H) a w)(c:l≠D)(s:∀i p,i≠90->i≠91->lk H i=some p->¬p.fp l) :
  Sat N ALL env ((90,fx l d)::(91,fx D f)::H) a (w.putObj l d):=by
 have n:=hs.hold 90 _ rfl;have m:=hs.hold 91 _ rfl;refine hs.re (λi p hi=>?_) (λi p hi=>?_)
 .rcases lk3 hi with⟨rfl,rfl⟩|⟨rfl,rfl⟩|⟨g,j,hi⟩
  .exact⟨_,rfl,rfl,λ_ h=>h⟩
  .exact⟨_,rfl,rfl,λ_ h=>h⟩
  grind [lk3']
 .rcases lk3 hi with⟨rfl,rfl⟩|⟨rfl,rfl⟩|⟨g,j,q⟩
  .exact World.putObj_heap_same (aS.1 n).1
  .exact(World.putObj_heap_other (λe=>c e.symm)).trans m
  .refine p.stable _ _ (hs.hold i p (by grind [lk3'])) ⟨rfl,rfl,rfl,O6,λk r b=>World.putObj_heap_other (λe=>b ?_)⟩;grind
theorem Sat.round(hs:Sat N sc env H a w)(d:Nat)(v:Value)(b:Nat.blt d N=true):Sat N sc ((d,v)::env) H { tmps:=(#[d].zip #[v]).foldl (λt (p,v)=>t.setIfInBounds p v) a.tmps,defers:=[] } w:=by
 have h:=hs.put d v b;have e:(a.put (some d) v)={ tmps:=(#[d].zip #[v]).foldl (λt (p,v)=>t.setIfInBounds p v) a.tmps,defers:=[] }:=by show({ a with tmps:=a.tmps.setIfInBounds d v })=_;rw [<-hs.defers];simp
 grind
theorem Iz{ops:Array Oper}{k m:Exit->Act->World->Prop}(b:∀e a w,k e a w->m e a w):∀(l:List Oper) (a:Act) (w:World),wpList P ops k l a w->wpList P ops m l a w
 | [],_,_,h=>b _ _ _ h
 | o::l,a,w,h=>by
  unfold wpList at h ⊢;split
  .rename_i g;rw [aM g]at h;rcases h with h|⟨q,p,j,r⟩
   .refine .inl ?_;unfold Oper.wp at h ⊢;revert h;generalize (execOp _ o).run P w=x;intro h;cases x with
    | ok n j=>
     cases n<;>simp only [Oper.upon]at h ⊢
     case value=>exact Iz b l _ _ h
     case skip=>exact Iz b l _ _ h
     case defer=>exact Iz b l _ _ h
     case enter f args=>
      refine h.mono λe s d=>?_;cases e with
      | returned v=>exact Iz b l _ _ d
      | panicked c=>grind
      | outgrown=>obtain⟨a,w,h⟩:=d;exact⟨a,w,b _ _ _ h⟩
     case row row args=>exact h.mono λ_ _ d=>Iz b l _ _ d
    | halt x j=>
     cases x<;>simp only [Oper.upon]at h ⊢;grind
   .exact .inr ⟨q,p,j,b _ _ _ r⟩
  .rename_i g;rw [aK g]at h;exact Iz b l _ _ h
end Go.Sky
namespace Go.Sky
open Go.RowKit Below
variable{f:FuncId}{fn:Func}{lb:List Value}{pre:List Pc}{ops:Array Oper}{o:Oper}{ts:Array Value}{rest:List Oper}{d:Nat}{w0 W:World}{M:Nat->Prop}{x:Operand}{ops':List Operand}{tys:Array TypeId}{Jx:World->Prop}
variable {P:Program} {N:Nat} {sc:Nat->Prop} {env env':Pw} {H H':Hp} {Q Q':Exit->Act->World->Prop}
def YJI(P:Program)(w0:World)(l:Nat)(M:Nat->Prop)(J:Nat->World->Prop)(Jx:World->Prop){α G:Type}(xs:List α)(ys:α->G->List Value)(h:α->G->List Pc):Prop:=
 ∀k x g,xs[k]? = some x->∀W a,J k W->w0.heap.size<=W.heap.size->Below W.heap.size W a->(∀p∈h x g,p.holds a/\p.own=false/\∀b,p.fp b->W.heap.size<=b)->
  YieldAt Fence.wide 0 P l (ys x g).toArray a λe c=>(e= .returned (.bool true)/\J (k+1) c/\Chg (λb=>M b\/w0.heap.size<=b) a c)\/(e= .returned (.bool false)/\Jx c/\Chg (λb=>M b\/w0.heap.size<=b) a c)
def Zke(J:World->Prop):Prop:=∀W a,J W->Below W.heap.size W a->J a
def Yhn(P:Program)(f:FuncId)(lb:List Value)(pre:List Pc){α G:Type}(xs:List α)(ys:α->G->List Value)(a:α->G->List Pc):Prop:=
 ∀(l:Nat) (M:Nat->Prop) (J:Nat->World->Prop) (Jx:World->Prop) (w:World),
  (∀p∈pre,p.holds w)->(∀p∈pre,∀b,p.fp b->¬M b)->(∀k,Zke (J k))->Zke Jx->J 0 w->YJI P w l M J Jx xs ys a->
  Calls P f (.func (.yield l) #[] #[]::lb).toArray w λe c=>(∃v,e= .returned v)/\(J xs.length c\/Jx c)
def Ypi(P:Program)(fn:Func)(n:Nat)(J:Nat->World->Prop)(Jx:World->Prop):Exit->Act->World->Prop:=
 bodyPost P fn λe a=>(∃v,e= .returned v)/\(J n a\/Jx a)
theorem Zty   {c:Code}   {α G:Type} {xs:List α} {ys:α->G->List Value} {n:α->G->List Pc} {N:Nat}
  (V:P.funcs[f]? = some fn) (a:fn.body=some c) (hN:fn.ntmps=N) (Y:Nat.ble (lb.length+1) N=true) (y:AllRo pre)
  (h:∀(l:Nat) (M:Nat->Prop) (J:Nat->World->Prop) (Jx:World->Prop) w0 (sc:Nat->Prop),(∀b,w0.heap.size<=b->sc b)->(∀p∈pre,∀b,p.fp b->b<w0.heap.size/\¬M b)->(∀k,Zke (J k))->Zke Jx->J 0 w0->YJI P w0 l M J Jx xs ys n->
   E P N sc c (Ypi P fn xs.length J Jx) (Qz 0 (.func (.yield l) #[] #[]::lb)) ((0,Yy w0 (λ_=>False))::Xd 1 pre)) :
  Yhn P f lb pre xs ys n:=λl M J Jx w F hm I s r R=>by
 refine calls_of_wp V a (h l M J Jx w (λb=>w.heap.size<=b\/∃q∈pre,q.fp b) (λb a=> .inl a) (λp m b a=>⟨p.lt w b (F p m) a,hm p m b a⟩) I s r R _ w ?_);have B:lb.length+1<=N:=O11;refine⟨O5,rfl,λt v ht=>?_,λi p hi=>?_,λi j p q a0 hi hj D b a S=>?_,λi p u hi b a=>?_⟩
 .have z:=(Ft _ 0 t v ht).2;have z:(Value.func (.yield l) #[] #[]::lb).toArray[t]? = some v:=O5;have Z:=(aS.1 z).1;simp_all [bM,eF]
 .by_cases g:0=i
  .subst g;cases hi;exact Chg.refl _ w
  .rw [Zx _ _ g]at hi;exact F p (Mp pre 1 i p hi).2
 .by_cases g:0=i
  .subst g;cases hi;cases D
  .rw [Zx _ _ g]at hi;rw [y.mem p (Mp pre 1 i p hi).2]at D;grind
 .rw [Zx _ _ (λe=>u e.symm)]at hi;exact .inr ⟨p,(Mp pre 1 i p hi).2,a⟩
def LI(P:Program)(N:Nat)(sc:Nat->Prop)(ops:Array Oper)(rest:List Oper)(Q:Exit->Act->World->Prop)(env:Pw)(H:Hp):Prop:=
 ∀a w,Sat N sc env H a w->wpListIn Fence.wide 0 P ops Q rest a w
def Yg8{id:Nat}{l:List Oper}(h:LI P N sc l.toArray l Q env H):E P N sc (.region id l.toArray false) Q env H:=λa w hs=>
 (wpIn_wide).1 (wpIn_region_lit (h a w hs))
theorem Zjo(a:o.guard=none):Region.wanted o (yielded ops ts)=true:=by simp [Region.wanted,a]
theorem Lg{v:Value}(g:Lk P N sc o env H v)(c:o.dst=some d)(h:LI P N sc ops rest Q ((d,v)::env) H)(e:o.guard=none:=by rfl)(b:Nat.blt d N=true:=by rfl):LI P N sc ops (o::rest) Q env H:=λa w hs=>by unfold wpListIn;rw [aM (Zjo e)];refine⟨λ_ _=>trivial,?_⟩;show o.uponIn _ 0 P a _ Q ((execOp _ o).run P w);rw [g a w hs];show wpListIn _ 0 P ops Q _ _ w;rw [c];exact h _ w (hs.put d v b)
def Bi(h:X N sc .normal Q env H):LI P N sc ops [] Q env H:=λa w hs=>h a w hs
theorem Sat.base {r m:World}   {a:Act} (hs:Sat N sc env H a r) (u:∀p∈pre,∀b,p.fp b->b<w0.heap.size/\¬M b) (n:AllRo pre) (c:HSub (Xd 1 pre) H)
  (h:Chg (λb=>M b\/w0.heap.size<=b) r m):Sat N sc env ((0,Yy m (λ_=>False))::Xd 1 pre) a m:=by
 refine⟨hs.size,hs.defers,hs.env,λi p hi=>?_,λi j p q y hi B t b s v=>?_,λi p l hi b s=>?_⟩
 .by_cases g:0=i
  .subst g;cases hi;exact Chg.refl _ _
  .rw [Zx _ _ g]at hi;have F:=(Mp pre 1 i p hi).2;refine p.stable _ _ (hs.hold i p (c.lk i p hi)) ⟨h.os,h.tape,h.output,h.size,λk w D=>h.block k w (λz=>?_)⟩;grind
 .by_cases g:0=i
  .subst g;cases hi;cases t
  .rw [Zx _ _ g]at hi;rw [n.mem p (Mp pre 1 i p hi).2]at t;grind
 .rw [Zx _ _ (λe=>l e.symm)]at hi;exact hs.scope i p l (c.lk i p hi) b s
theorem Zwl (vs:List Value)(pre:List Pc)    {l:Nat}       {J:Nat->World->Prop}  {α G:Type} {xs:List α} {ys:α->G->List Value} {F:α->G->List Pc} 
  {k:Nat} (y:α) (g:G) (hY:YJI P w0 l M J Jx xs ys F) (hy:xs[k]? = some y) (hJ:J k W) (hW:w0.heap.size<=W.heap.size) (n:∀p∈pre,∀b,p.fp b->b<w0.heap.size/\¬M b)
  (ho:o.op= .call { callee:= .value x,args:=ops'.toArray,argTypes:=tys }) (hg:o.guard=none) (hd:o.dst=some d) (hN:Nat.blt d N=true) (hx:ev env x=some (.func (.yield l) #[] #[])) (s:EvL env ops' vs) (V:vs=ys y g)
  (h0:lk H 0=some (Yy W (λ_=>False))) (v:∀p∈F y g,p.own=false/\(∀b,p.fp b->W.heap.size<=b)/\∃i R,lk H i=some R/\∀w,R.holds w->p.holds w)
  (z:AllRo pre) (q:HSub (Xd 1 pre) H)
  (ht:∀c,J (k+1) c->w0.heap.size<=c.heap.size->LI P N sc ops rest Q ((d,.bool true)::env) ((0,Yy c (λ_=>False))::Xd 1 pre))
  (hf:∀c,Jx c->w0.heap.size<=c.heap.size->LI P N sc ops rest Q ((d,.bool false)::env) ((0,Yy c (λ_=>False))::Xd 1 pre)):LI P N sc ops (o::rest) Q env H:=λa w hs=>by
 subst V;have Z:=Hx (hs.hold 0 _ h0);obtain⟨fn,I,j,t,B,m⟩:=hY k y g hy W w hJ hW Z (λp hp=>by obtain⟨h1,h2,i,R,hi,hh⟩:=v p hp;exact⟨hh w (hs.hold i R hi),h1,h2⟩)
 have S:(o.semAt Fence.wide.round a.eval).run P w= .ok (.round l fn I j t) w:=by show(execOp _ o).run P w=_;have hm:=s.map hs;have Y:=hs.ev hx;simp [execOp,ho,resolve,invoke,Deferred.ofValue,hm,Y,B,Sem.run_bind]
 unfold wpListIn;rw [aM (Zjo hg)];refine⟨λ_ _=>trivial,?_⟩;rw [S];refine⟨λh=>(by cases h),m.mono ?_⟩;have D:=aB hW Z.size;rintro e c (⟨rfl,r,u⟩|⟨rfl,r,u⟩)
 .rw [hd];exact ht c r (aB D u.size) _ c ((hs.base n z q u).put d _ hN)
 .rw [hd];exact hf c r (aB D u.size) _ c ((hs.base n z q u).put d _ hN)
theorem Zb7{J:Nat->World->Prop}{n:Nat}{e:Exit}(l:e= .ret\/e= .normal)(m:fn.results=#[])(j:lk H 0=some (Yy W (λ_=>False)))(b:∀k,Zke (J k))(c:Zke Jx)(h:J n W\/Jx W):X N sc e (Ypi P fn n J Jx) env H:=λa w hs=>by
 have i:=Hx (hs.hold 0 _ j);have g:a.defers=[]/\∃v,(results fn a.tmps).run P w= .ok v w/\((∃u,Ending.returned v= .returned u)/\(J n w\/Jx w)):=
  ⟨hs.defers,_,Yj0 m,⟨_,rfl⟩,h.imp (λh=>b n W w h i) (λh=>c W w h i)⟩
 rcases l with rfl|rfl<;>exact g
end Go.Sky
namespace Go.Sky
open Go.RowKit Below
variable{w W W':World}{m:Nat}{Mf:Nat->Prop}{Hn:Hp}{a:Act}{fn:Func}{preF:List Pc}{lbv:List Value}
variable {P:Program} {N:Nat} {sc:Nat->Prop} {env env':Pw} {H H':Hp} {Q Q':Exit->Act->World->Prop}
def FpM:Hp->Hp->Prop
 | [],_=>True
 | (i,p)::r,H=>(p.own=true\/∀b,p.fp b->∃j q,lk H j=some q/\q.fp b)/\FpM r H
theorem FpM.lk:∀{H' H:Hp},FpM H' H->∀i p,lk H' i=some p->p.own=true\/∀b,p.fp b->∃j q,lk H j=some q/\q.fp b
 | [],_,_,_,_,h=>by cases h
 | (k,u)::r,H,h,i,p,hi=>by
  by_cases c:k=i
  .subst c;rw [Ys]at hi;cases hi;exact h.1
  .rw [Zx _ _ c]at hi;exact FpM.lk h.2 i p hi
structure Kps (sc:Nat->Prop) (w:World) (m:Nat) (Mf:Nat->Prop) (Hn:Hp) (W:World):Prop where
 hold:∀i it,lk Hn i=some it->it.holds W
 sep:∀i j it jt,i≠j->lk Hn i=some it->lk Hn j=some jt->it.own=true->∀b,it.fp b->jt.fp b->False
 scope:∀i it,i≠0->lk Hn i=some it->∀b,it.fp b->sc b
 off:∀i it,lk Hn i=some it->it.own=false->∀b,it.fp b->b<w.heap.size\/m<=b
 mf:∀i it,lk Hn i=some it->it.own=true->∀b,it.fp b->Mf b
def Mof(m:Nat)(H:Hp)(b:Nat):Prop:=(∃i q,lk H i=some q/\q.own=true/\q.fp b)\/m<=b
def Kps.chg(h:Kps sc w m Mf Hn W)(d:∀i c,lk Hn i=some c->Chg (λb=>¬c.fp b) W W'):Kps sc w m Mf Hn W':=
 ⟨λi c hi=>c.stable _ _ (h.hold i c hi) (d i c hi),h.sep,h.scope,h.off,h.mf⟩
def Kps.stays(h:Kps sc w m Mf Hn W)(b:Below W.heap.size W W'):Kps sc w m Mf Hn W':=h.chg λ_ _ _=>Chg.of_below b
theorem Kps.put{d:Nat}{o:Obj}(h:Kps sc w m (Mof m H) Hn W)(g:∀i q,lk H i=some q->∀b,q.fp b->b<w.heap.size)(p:w.heap.size<=d/\d<m):Kps sc w m (Mof m H) Hn (W.putObj d o):=
 h.chg λi c hi=>⟨rfl,rfl,rfl,O6,λk r l=>World.putObj_heap_other (λe=>l λf=>by
  cases ho:c.own with
  | false=>rcases h.off i c hi ho _ f with h|h<;>omega
  | true=>
   rcases h.mf i c hi ho _ f with⟨j,q,s,_,n⟩|h
   all_goals grind)⟩
def Kps.sat(h:Kps sc w m Mf Hn W)(b:a.tmps.size=N)(c:a.defers=[])(d:∀t v,lk env t=some v->a.tmps.getD t undef=v):Sat N sc env Hn a W:=⟨b,c,d,h.hold,h.sep,h.scope⟩
def Zsr(H:Hp)(w0:World):Prop:=lk H 0=some (Yy w0 (λ_=>False))/\lk H 92=none
def Mfs(sc:Nat->Prop)(m:Nat)(H:Hp)(b:Nat):Prop:=Mof m H b\/¬sc b
theorem Sat.ps {o y:World} {n:Nat} {d:Hp}  (hs:Sat N sc env ((n,Yy o (Mfs sc m H))::Hn) a y) (S:lk Hn n=none) (R:n≠0) (Z:∀q,lk Hn 0=some q->q.own=false) (hb:m<=o.heap.size)
  (F:FpM Hn d) (u:∀j q,lk d j=some q->∀b,q.fp b->q.own=true->Mof m H b) (B:∀j q,lk d j=some q->∀b,q.fp b->q.own=false->b<w.heap.size\/m<=b) (M:∀i q,lk H i=some q->∀b,q.fp b->b<w.heap.size):Kps sc w m (Mof m H) Hn y:=by
 have g:∀i c,lk Hn i=some c->lk ((n,Yy o (Mfs sc m H))::Hn) i=some c:=λi c hi=>by grind [Zx]
 have s:∀i c,lk Hn i=some c->c.own=true->∀b,c.fp b->Mof m H b:=λi c hi z b f=>by
  have k:i≠n:=λe=>O5;have p:i≠0:=λe=>O5;have Y:=hs.scope i c p (g i c hi) b f;have:=hs.sep i n c _ k (g i c hi) (Ys _ _ _) z b f;by_cases l:b<o.heap.size
  .rcases(eW.1 λv=>this ⟨l,v⟩)with h|h
   all_goals grind
  .exact .inr O1
 refine⟨λi c hi=>hs.hold i c (g i c hi),λi j c D t hi I=>hs.sep i j c D t (g i c hi) (g j D I),λi c r hi=>hs.scope i c r (g i c hi),λi c hi z b f=>?_,s⟩;rcases F.lk i c hi with h|h
 .grind
 .obtain⟨j,q,v,x⟩:=h b f;cases hqo:q.own with
  | false=>grind
  | true=>
   rcases u j q v b x hqo with⟨i',q',V,_,G⟩|h
   all_goals grind
def LpAt(l:Nat)(Mf:Nat->Prop)(W:World):Prop:=(∃r,W.heap[l]? = some (.loop r))/\¬Mf l
def RBn(n:Nat)(N:Nat)(sc:Nat->Prop)(Mf:Nat->Prop)(b:Hp){h i:Type}(j:h->Hp)(g:h->Prop)(k:i->Hp)(c:i->Prop)(l:World):Exit->Act->World->Prop:=λe a W=>
 (e= .normal/\∃d,g d/\FpM (j d) b/\∃env',Sat N sc env' ((n,Yy l Mf)::j d) a W)\/(e= .ret/\∃f,c f/\FpM (k f) b/\∃env',Sat N sc env' ((n,Yy l Mf)::k f) a W)
def RAn(n:Nat)(P:Program)(N:Nat)(sc:Nat->Prop)(l:Nat)(Mf:Nat->Prop)(b:Hp)(body:Code){i j:Type}(k:i->Hp)(h:i->Prop)(o:j->Hp)(f:j->Prop)(p:World):Exit->Act->World->Prop:=λe a W=>
 e= .normal/\∃c d,lk d n=none/\(∀q,lk d 0=some q->q.own=false)/\FpM d b/\Sat N sc c ((n,Yy p Mf)::d) a W/\
  ∀g,LpAt l Mf g->∀a W,Sat N sc c ((n,Yy g Mf)::d) a W->body.wpIn (Fence.wide.inRound l) 0 P (RBn n N sc Mf b k h o f g) a W
theorem Zsg:∀(l:List Pc) (n:Nat) (H:Hp) (j:Nat) (q:Pc),lk (adds n l H) j=some q->q∈l\/lk H j=some q
 | [],_,_,_,_,h=> .inr h
 | p::r,n,H,j,q,h=>by
  by_cases b:n=j
  .subst b;rw [Ys]at h;cases h;exact .inl (bR ..)
  .rw [Zx _ _ b]at h;exact(Zsg r _ H j q h).imp (bH _) id
@[reducible] def renv:List Nat->List Value->Pw->Pw
 | p::ps,v::vs,env=>renv ps vs ((p,v)::env)
 | _,_,env=>env
theorem Sat.rounds{w:World} : ∀(ps:List Nat) (vs:List Value) {env:Pw} {b:Array Value},(ps.all λp=>Nat.blt p N)=true->Sat N sc env H { tmps:=b,defers:=[] } w->
  Sat N sc (renv ps vs env) H { tmps:=(ps.zip vs).foldl (λt c=>t.setIfInBounds c.1 c.2) b,defers:=[] } w
 | [],_,_,_,_,h=>h
 | _::_,[],_,_,_,h=>h
 | p::ps,v::vs,env,b,hp,h=>by simp only [List.all_cons,aN]at hp;exact Sat.rounds ps vs hp.2 (h.put p v hp.1)
theorem Zw7  {w0:World}  {al:Bool} {c:Type} {φ:c->Prop} {Yt:c->Value} {b:c->List Pc}  {D:Nat}
  (d:W.heap[D]? = some (.deferred (some []))) (h:Zc6 P fn w0 preF al φ Yt b .ret { a with defers:=[] } (W.putObj D (.deferred none))) :
  Zf9 P fn w0 preF al φ Yt b .ret { a with defers:=[{ target:= .collected D,args:=#[] }] } W:=by
 obtain⟨-,v,f,e⟩:=h;exact⟨O6,.inl ⟨_,_,rfl,run_takeDeferred d,⟨v,f,e⟩⟩⟩
theorem Zxd (pre:List Pc)(w0:World) {g:Operand} {gf i5 f9:Nat} {ps:List Nat} {assign body:Code}   {α G:Type} {xs:List α} {ys:α->G->List Value} {B:α->G->List Pc} {lc:List Oper}    {al:Bool} {GF:Type} {φ:GF->Prop} {Yt:GF->Value} {M:GF->List Pc}
  {GG GX:Type} (R:Nat->GG->Hp) (c0:Nat->GG->Prop) (HX:GX->Hp) (c1:GX->Prop) (c9:GG)
  (hg:ev env g=some (.func (.func gf) #[] lbv.toArray)) (eg:∀args w,(callFunc gf args).run P w= .ok (.enter gf args) w) (hc:Yhn P gf lbv pre xs ys B)
  (hp:∀p∈pre,p.own=false/\∃i,lk H i=some p) (j1:∀x F,(ys x F).length=ps.length) (i0:(ps.all λp=>Nat.blt p N)=true)
  (hw:∀b,w0.heap.size<=b->sc b) (h0:lk H 0=some (Yy w0 (λ_=>False)))
  (b3:c0 0 c9) (a9:HSub (R 0 c9) H) (hk:∀k u,Zsr (R k u) w0) (h7:∀gx,Zsr (HX gx) w0)
  (c3:∀k x F u,xs[k]? = some x->c0 k u->∀l Mf S a W,Sat N sc (renv ps (ys x F) env) ((92,Yy S Mf)::adds 100 (B x F) (R k u)) a W->
   assign.wpIn (Fence.wide.inRound l) 0 P (RAn 92 P N sc l Mf (adds 100 (B x F) (R k u)) body (R (k+1)) (c0 (k+1)) HX c1 S) a W)
  (h9:lc.all Zg9=true)
  (hC:∀u,c0 xs.length u->∀D od,L P N sc lc.toArray lc (Fc λe a w=>e= .normal/\∃b2 H2,lk H2 92=none/\FpSub H2 (R xs.length u)/\Sat N sc b2 ((92,fx D od)::H2) a w/\X N sc .ret (Zc6 P fn w0 preF al φ Yt M) b2 H2) env ((92,fx D od)::R xs.length u))
  (hX:∀gx,c1 gx->X N sc .ret (Zc6 P fn w0 preF al φ Yt M) env (HX gx)) :
  E P N sc (.rangeFunc g ps.toArray assign body) (Exit.inBlock f9 (Exit.then ((Code.seq (.region i5 lc.toArray false) .ret).wp P (Zf9 P fn w0 preF al φ Yt M)) (Zf9 P fn w0 preF al φ Yt M))) env H:=λa w hs=>by
 have b7:∀i p,lk H i=some p->∀b,p.fp b->b<w.heap.size:=λi p hi b f=>p.lt w b (hs.hold i p hi) f;have i4:w0.heap.size<=w.heap.size:=(hs.hold 0 _ h0).size;refine(wpIn_wide (n:=0)).1 (wpIn_rangeFunc ?_);intro c8 g7;obtain⟨c,I⟩:∃c:LoopState->Option Code->Loop,c=λst pe=>{ state:=st,pending:=pe,fn:=c8,tmps:=a.tmps,params:=ps.toArray,assign,body,defers:=w.heap.size }:=⟨_,rfl⟩;obtain⟨W1,d5⟩:∃W1,(w.alloc (.deferred (some []))).alloc (.loop (c .ready none))=W1:=⟨_,rfl⟩;have g3:W1.heap[w.heap.size+1]? = some (.loop (c .ready none)):=by grind [World.alloc_heap_new,World.size_alloc]
 have g2:W1.heap[w.heap.size]? = some (.deferred (some [])):=by rw [<-d5];exact(Below.heap_alloc _ _ _ O6).trans (World.alloc_heap_new w _)
 have f1:Below w.heap.size w W1:=by rw [<-d5];exact((Below.refl _ w).alloc (aF _) _).alloc O6 _
 have j2:W1.heap.size=w.heap.size+2:=by rw [<-d5];simp
 have e0:(#[.func (.yield (w.heap.size+1)) #[] #[]] ++ lbv.toArray:Array Value)=(Value.func (.yield (w.heap.size+1)) #[] #[]::lbv).toArray:=O6;refine⟨w.heap.size+1,[{ target:= .collected w.heap.size,args:=#[] }],W1,{ target:= .fn (.func gf) lbv.toArray,args:=#[.func (.yield (w.heap.size+1)) #[] #[]] },W1,gf,
  (Value.func (.yield (w.heap.size+1)) #[] #[]::lbv).toArray,W1,?_,?_,λ_ _=>trivial,?_,λh=>(by cases h),?_⟩
 .simp_all [run_enterLoop_outer]
 .simp only [resolve,hs.ev hg];simp [go_sem]
 .simp [invoke,go_sem,eg]
 have b9:∀(Hn:Hp) (r:Loop),Zke λW=>W.heap[w.heap.size+1]? = some (.loop r)/\W.heap[w.heap.size]? = some (.deferred (some []))/\W1.heap.size<=W.heap.size/\Kps sc w (w.heap.size+2) (Mof (w.heap.size+2) H) Hn W:=λHn r W W' ⟨h1,h2,h3,h4⟩ hB=>
  ⟨(hB.block _ (aS.1 h1).1).trans h1,(hB.block _ (aS.1 h2).1).trans h2,aB h3 hB.size,h4.stays hB⟩
 have h8:¬Mof (w.heap.size+2) H (w.heap.size+1):=λh=>by
  rcases h with⟨i,q,hq,_,hf⟩|h
  all_goals grind
 have d2:¬Mof (w.heap.size+2) H w.heap.size:=λh=>by
  rcases h with⟨i,q,hq,_,hf⟩|h
  all_goals grind
 have f5:∀(Hn:Hp) (W:World),Kps sc w (w.heap.size+2) (Mof (w.heap.size+2) H) Hn W->∀(o:Obj),Kps sc w (w.heap.size+2) (Mof (w.heap.size+2) H) Hn (W.putObj w.heap.size o):=λHn W h o=>h.put b7 ⟨aF _,O6⟩;have b8:∀(Hn:Hp) (W:World),Kps sc w (w.heap.size+2) (Mof (w.heap.size+2) H) Hn W->∀(o:Obj),Kps sc w (w.heap.size+2) (Mof (w.heap.size+2) H) Hn (W.putObj (w.heap.size+1) o):=λHn W h o=>h.put b7 ⟨O6,O6⟩;refine callsIn_wide.2 ((hc (w.heap.size+1) (λb=>(∃i q,lk H i=some q/\q.own=true/\q.fp b)\/b=w.heap.size+1)
  (λk W=>∃u,c0 k u/\(W.heap[w.heap.size+1]? = some (.loop (c .ready none))/\W.heap[w.heap.size]? = some (.deferred (some []))/\W1.heap.size<=W.heap.size/\Kps sc w (w.heap.size+2) (Mof (w.heap.size+2) H) (R k u) W))
  (λW=>∃gx,c1 gx/\(W.heap[w.heap.size+1]? = some (.loop (c .done (some .ret)))/\W.heap[w.heap.size]? = some (.deferred (some []))/\W1.heap.size<=W.heap.size/\Kps sc w (w.heap.size+2) (Mof (w.heap.size+2) H) (HX gx) W)) W1
  ?_ ?_ ?_ ?_ ?_ ?_).mono ?_)
 .intro p z;obtain⟨ho,i,hi⟩:=hp p z;exact p.stable _ _ (hs.hold i p hi) (Chg.of_below f1)
 .rintro p z b f (⟨i,q,hq,c2,i1⟩|rfl)
  .obtain⟨ho,j,Z⟩:=hp p z;exact hs.sep i j q p (λe=>O5) hq Z c2 b i1 f
  grind
 .rintro k W W' ⟨u,d8,h⟩ hB;exact⟨u,d8,b9 _ _ W W' h hB⟩
 .rintro W W' ⟨gx,d8,h⟩ hB;exact⟨gx,d8,b9 _ _ W W' h hB⟩
 .refine⟨c9,b3,g3,g2,aF _,λi s hi=>s.stable _ _ (hs.hold i s (a9.lk i s hi)) (Chg.of_below f1),λi j s jt a8 hi Z=>hs.sep i j s jt a8 (a9.lk i s hi) (a9.lk j jt Z),
   λi s b3 hi=>hs.scope i s b3 (a9.lk i s hi),λi s hi _ b f=> .inl (b7 i s (a9.lk i s hi) b f),λi s hi ho b f=> .inl ⟨i,s,a9.lk i s hi,ho,f⟩⟩
 .rintro k x F hx W S ⟨u,Y,hl,hd,f7,a0⟩ j3 hB b4;have f4:S.heap[w.heap.size+1]? = some (.loop (c .ready none)):=(hB.block _ O1).trans hl;have g6:S.heap[w.heap.size]? = some (.deferred (some [])):=(hB.block _ O1).trans hd;have hy:=run_yield (P:=P) (args:=(ys x F).toArray) f4 O5;have h5:∀p∈B x F,∀b,p.fp b->w.heap.size+2<=b:=λp hp b f=>O5;have s1:Sat N sc env (R k u) { tmps:=a.tmps,defers:=[] } S:=(a0.stays hB).sat hs.size rfl hs.env;have s2:Sat N sc env (adds 100 (B x F) (R k u)) { tmps:=a.tmps,defers:=[] } S:=s1.adds (w1:=S) _ _ λp z=>⟨(b4 p z).1,(b4 p z).2.1,λb f=>hw b O5,λj jt Z ho b f a4=>by have h1:=(b4 p z).2.2 b f;have h2:=jt.lt W b (a0.hold j jt Z) a4;omega⟩
  have c4:∀j q,lk (adds 100 (B x F) (R k u)) j=some q->(q∈B x F)\/lk (R k u) j=some q:=λj q h=>Zsg _ _ _ j q h;have z:∀j q,lk (adds 100 (B x F) (R k u)) j=some q->∀b,q.fp b->q.own=true->Mof (w.heap.size+2) H b:=λj q Z b f ho=>by
   rcases c4 j q Z with h|h
   .grind
   .exact a0.mf j q h ho b f
  have c7:∀j q,lk (adds 100 (B x F) (R k u)) j=some q->∀b,q.fp b->q.own=false->b<w.heap.size\/w.heap.size+2<=b:=λj q Z b f ho=>by
   rcases c4 j q Z with h|h
   .grind
   .exact a0.off j q h ho b f
  have s3:=s2.rounds ps (ys x F) i0;have s4:Sat N sc (renv ps (ys x F) env) ((92,Yy S (Mfs sc (w.heap.size+2) H))::adds 100 (B x F) (R k u)) _ S:=s3.add 92 (Yy S (Mfs sc (w.heap.size+2) H)) (Chg.refl _ _) (λj jt a8 Z Ff b f a4=>by
   rcases Ff with h|h
   .cases h
   .exact f.2 (.inl (z j jt Z b a4 h))) (λb f=>eW.1 λhn=>f.2 (.inr hn))
  have e2:¬Mfs sc (w.heap.size+2) H (w.heap.size+1):=λh=>h.elim h8 (λhn=>hn (hw _ O1));have e7:¬Mfs sc (w.heap.size+2) H w.heap.size:=λh=>h.elim d2 (λhn=>hn (hw _ i4));rw [I]at hy;refine⟨c8,_,assign,body,hy,roundIn_of_wpIn g7 ?_⟩;have hr:=c3 k x F u hx Y (w.heap.size+1) (Mfs sc (w.heap.size+2) H) S _ S s4;have e3:(ps.toArray.zip (ys x F).toArray).foldl (λt (p,v)=>t.setIfInBounds p v) a.tmps=(ps.zip (ys x F)).foldl (λt pv=>t.setIfInBounds pv.1 pv.2) a.tmps:=O6;have f6:w.heap.size+2<=S.heap.size:=O5;have h6:∀(Hn:Hp),Zsr Hn w0->∀q,lk Hn 0=some q->q.own=false:=λHn h q hq=>by rw [h.1]at hq;cases hq;rfl
  rw [show(ps.toArray.zip (ys x F).toArray).foldl (λt (x:Nat×Value)=>t.setIfInBounds x.1 x.2) a.tmps=(ps.zip (ys x F)).foldl (λt pv=>t.setIfInBounds pv.1 pv.2) a.tmps from e3];refine wpIn_mono hr ?_;rintro e a1 W2 ⟨rfl,e5,H1,d0,e8,g0,a2,d7⟩;have a5:Chg (Mfs sc (w.heap.size+2) H) S W2:=a2.hold 92 _ (Ys _ _ _);have b5:W2.heap[w.heap.size+1]? = some (.loop (c .ready none)):=(a5.block _ O1 e2).trans f4;have i8:W2.heap[w.heap.size]? = some (.deferred (some [])):=(a5.block _ O1 e7).trans g6;have p1:=a2.ps d0 O1 e8 f6 g0 z c7 b7;have i7:S.heap.size<=W2.heap.size:=a5.size;obtain⟨d,V⟩:∃d,W2.putObj (w.heap.size+1) (.loop { c .ready none with state:= .busy })=d:=⟨_,rfl⟩;have i6:Sat N sc e5 ((92,Yy d (Mfs sc (w.heap.size+2) H))::H1) a1 d:=by
   have p2:=b8 _ _ p1 (.loop { c .ready none with state:= .busy });rw [V]at p2;refine(p2.sat a2.size a2.defers a2.env).add 92 (Yy d (Mfs sc (w.heap.size+2) H)) (Chg.refl _ _) (λj jt a8 Z Ff b f a4=>?_) (λb f=>eW.1 λhn=>f.2 (.inr hn));rcases Ff with h|h
   .cases h
   .exact f.2 (.inl (p2.mf j jt Z h b a4))
  have i3:W2.heap.size=d.heap.size:=by rw [<-V];simp
  have c6:d.heap[w.heap.size+1]? = some (.loop { c .ready none with state:= .busy }):=by grind [World.putObj_heap_same]
  have f2:d.heap[w.heap.size]? = some (.deferred (some [])):=by grind [World.putObj_heap_other]
  refine⟨d,by grind [run_beginRound],wpIn_mono (d7 d ⟨⟨_,c6⟩,e2⟩ a1 d i6) ?_⟩;have c5:∀(Hn:Hp) (env':Pw) (a3:Act) (y:World),Zsr Hn w0->FpM Hn (adds 100 (B x F) (R k u))->Sat N sc env' ((92,Yy d (Mfs sc (w.heap.size+2) H))::Hn) a3 y->∀(r:Loop),
    y.heap[w.heap.size+1]? = some (.loop { c .ready none with state:= .busy })/\(((y.putObj (w.heap.size+1) (.loop r)).heap[w.heap.size+1]? = some (.loop r)/\(y.putObj (w.heap.size+1) (.loop r)).heap[w.heap.size]? = some (.deferred (some []))/\
     W1.heap.size<=(y.putObj (w.heap.size+1) (.loop r)).heap.size/\Kps sc w (w.heap.size+2) (Mof (w.heap.size+2) H) Hn (y.putObj (w.heap.size+1) (.loop r)))/\
     Chg (λb=>((∃i q,lk H i=some q/\q.own=true/\q.fp b)\/b=w.heap.size+1)\/W1.heap.size<=b) S (y.putObj (w.heap.size+1) (.loop r))):=by
   intro Hn env' a3 y e1 g1 b0 r;have a6:Chg (Mfs sc (w.heap.size+2) H) d y:=b0.hold 92 _ (Ys _ _ _);have b6:=(a6.block _ O1 e2).trans c6;have a7:=(a6.block _ O1 e7).trans f2;have f8:=a6.size;have p3:=b0.ps e1.2 O1 (h6 Hn e1) O1 g1 z c7 b7;refine⟨b6,⟨World.putObj_heap_same O1,(World.putObj_heap_other O6).trans a7,O9,b8 _ _ p3 _⟩,?_⟩;have k0:(Yy w0 (λ_=>False)).holds S:=a0.stays hB |>.hold 0 _ (hk k u).1;have k3:(Yy w0 (λ_=>False)).holds y:=p3.hold 0 _ e1.1;refine⟨?_,?_,?_,O9,λb f hn=>?_⟩
   .exact a6.os.trans ((by rw [<-V];rfl:d.os=W2.os).trans a5.os)
   .exact a6.tape.trans ((by rw [<-V];rfl:d.tape=W2.tape).trans a5.tape)
   .exact a6.output.trans ((by rw [<-V];rfl:d.output=W2.output).trans a5.output)
   .have g5:b≠w.heap.size+1:=λe=>hn (.inl (.inr e));have g4:¬Mof (w.heap.size+2) H b:=λh=>by
     rcases h with h|h
     all_goals grind
    refine(World.putObj_heap_other g5).trans ?_;by_cases i2:sc b
    .have e9:¬Mfs sc (w.heap.size+2) H b:=λh=>h.elim g4 (λh=>h i2);refine(a6.block b O1 e9).trans ?_;have:d.heap[b]? = W2.heap[b]?:=by grind [World.putObj_heap_other]
     exact this.trans (a5.block b f e9)
    .have f0:b<w0.heap.size:=by grind
     exact(k3.block b f0 (λh=>h)).trans (k0.block b f0 (λh=>h)).symm
  rintro e a3 y (⟨rfl,e6,d9,d3,env',b0⟩|⟨rfl,gx,d9,d3,env',b0⟩)
  .obtain⟨b6,d4,d1⟩:=c5 _ env' a3 y (hk (k+1) e6) d3 b0 (c .ready none);have:=run_endRound (P:=P) none b6;rw [show({ ({ c .ready none with state:= .busy } : Loop)with state:=if(none:Option Code).isNone then LoopState.ready else .done,pending:=none } : Loop)=c .ready none by rw [I];rfl]at this;exact⟨_,_,this,.inl ⟨rfl,⟨e6,d9,d4⟩,d1⟩⟩
  .obtain⟨b6,d4,d1⟩:=c5 _ env' a3 y (h7 gx) d3 b0 (c .done (some .ret));have:=run_endRound (P:=P) (some .ret) b6;rw [show({ ({ c .ready none with state:= .busy } : Loop)with state:=if(some Code.ret).isNone then LoopState.ready else .done,pending:=some .ret } : Loop)=c .done (some .ret) by rw [I];rfl]at this;exact⟨_,_,this,.inr ⟨rfl,⟨gx,d9,d4⟩,d1⟩⟩
 .have i9:∀(Hn:Hp) (W:World),Kps sc w (w.heap.size+2) (Mof (w.heap.size+2) H) Hn W->Kps sc w (w.heap.size+2) (Mof (w.heap.size+2) H) Hn ((W.putObj (w.heap.size+1) (.loop (c .exhausted none))).putObj w.heap.size (.deferred none)):=λHn W h=>f5 _ _ (b8 _ _ h _) _;rintro e W2 ⟨⟨v,rfl⟩,⟨u,Y,hl,hd,f7,e4⟩|⟨gx,Y,hl,hd,f7,e4⟩⟩
  .refine⟨none,_,by have:=run_endLoop (P:=P) hl O5;rw [I]at this;omega,?_⟩;obtain⟨y,d6⟩:∃y,W2.putObj (w.heap.size+1) (.loop (c .exhausted none))=y:=⟨_,rfl⟩;have p3:=b8 _ _ e4 (.loop (c .exhausted none));rw [d6]at p3;have a7:y.heap[w.heap.size]? = some (.deferred (some [])):=by rw [<-d6];exact(World.putObj_heap_other O1).trans hd
   have f8:y.heap.size=W2.heap.size:=by rw [<-d6];simp
   rw [show W2.putObj (w.heap.size+1) (.loop { state:= .exhausted,pending:=none,fn:=c8,tmps:=a.tmps,params:=ps.toArray,assign:=assign,body:=body,defers:=w.heap.size })=y by grind];have s3:Sat N sc env (R xs.length u) { tmps:=a.tmps,defers:=[] } y:=p3.sat hs.size rfl hs.env;have s4:Sat N sc env ((92,fx w.heap.size (.deferred (some [])))::R xs.length u) { tmps:=a.tmps,defers:=[] } y:=s3.add 92 _ a7 (λj jt a8 Z Ff b f a4=>by
    rcases Ff with h|h
    .cases h
    .have f:b=w.heap.size:=f;subst f;exact d2 (p3.mf j jt Z h _ a4)) (λb f=>hw b (by have f:b=w.heap.size:=f;omega))
   rw [hs.defers];refine wp_seq (wp_region_lit (Zsi (P:=P) (ops:=lc.toArray) (Q:=Exit.then (Code.ret.wp P (Zf9 P fn w0 preF al φ Yt M)) (Zf9 P fn w0 preF al φ Yt M)) (ds:=[{ target:= .collected w.heap.size,args:=#[] }]) lc { tmps:=a.tmps,defers:=[] } y h9 ?_));refine Iz (λe a' W' h=>?_) lc _ y (hC u Y _ _ _ y s4);cases e with
   | normal=>
    obtain⟨-,b2,H2,d0,g9,b1,hx⟩:=h;refine wp_ret (Zw7 (b1.hold 92 _ (Ys _ _ _)) ?_);have b5:∀i s,lk H2 i=some s->lk ((92,fx w.heap.size (.deferred (some [])))::H2) i=some s:=λi s hi=>by
     by_cases h1:92=i
     .subst h1;rw [d0]at hi;cases hi
     .rw [Zx _ _ h1];exact hi
    refine hx _ _ ⟨b1.size,rfl,b1.env,λi s hi=>s.stable _ _ (b1.hold i s (b5 i s hi)) ⟨rfl,rfl,rfl,O6,λk hk hn=>World.putObj_heap_other (λe=>hn λhf=>?_)⟩,λi j s jt a8 hi Z=>b1.sep i j s jt a8 (b5 i s hi) (b5 j jt Z),λi s b3 hi=>b1.scope i s b3 (b5 i s hi)⟩;subst e;obtain⟨q,hq,j0,f3⟩:=g9.lk i s hi;cases c2:q.own with
    | true=>exact d2 (p3.mf i q hq c2 _ (f3 _ hf))
    | false=>rcases p3.off i q hq c2 _ (f3 _ hf)with h|h<;>omega
   | _=>exact h.elim
  .refine⟨some .ret,_,by have:=run_endLoop (P:=P) hl O5;rw [I]at this;omega,wpIn_ret ?_⟩;have p3:=b8 _ _ e4 (.loop { c .done (some .ret)with state:= .exhausted });have a7:(W2.putObj (w.heap.size+1) (.loop { c .done (some .ret)with state:= .exhausted })).heap[w.heap.size]? = some (.deferred (some [])):=(World.putObj_heap_other O1).trans hd;rw [I]at p3 a7;rw [hs.defers];exact Zw7 a7 (hX gx Y _ _ ((f5 _ _ p3 _).sat hs.size rfl hs.env))
end Go.Sky
namespace Go.Sky
open Go.Proofs.Tryz
open Go.Proofs
set_option synthInstance.maxHeartbeats 0
set_option synthInstance.maxSize 100000
set_option maxRecDepth 20000
set_option linter.unusedSimpArgs false
variable{ov x:Int}{y z c:List Int}{m i:Nat}{d:SL×List Int}{b:Bool}
theorem Zjx{fr S:Int}{V W Y:Value}{x:List Int}(f h e:Int)(M:Sgo fr S ov x y z)(N:f.natAbs<=3600000)(P:h.natAbs<=3600000)(hd:1<=e/\e<=3600000):Cal prog 231 #[.agg #[.int .i64 fr,.int .i64 S,.int .i64 ov,V,W,Y],.int .i64 f,.int .i64 h,.int .i64 e] [Yx 1 Yj V x,Yx 1 Yj W y,Yx 1 Yj Y z] true (G:=SL×SL×SL) (λg=>True) (λg=> .agg #[Xk g.1,Xk g.2.1,Xk g.2.2]) (λg=>[Yx 2 wv (Xk g.1) (Pe x f h e),Yx 2 wv (Xk g.2.1) (Pe y f h e),Yx 2 wv (Xk g.2.2) (Pe z f h e)]):=by
 refine Zg func231 ntmps231 λw0 sc R F=>?_;have Z:=Bd N;have a0:=Bd P;have D:bl e.natAbs<=22:=Bd O1;refine go 2<|Yd (Yk 4) λbx _=>Yd (Zw 5) λj _=>go 6 ?_;refine cl 5 [1,2,3] Zqy λ_ _=>go 4<|Zf (Np 5 (q:=box j 210 (cellsOf (Nn (α:=List Int)) (Zv8 [])).toArray) (aD (box j 210) (show _=(cellsOf (Nn (α:=List Int)) (Zv8 [])).toArray from J)) J J)<|Zf (Yi qZ 71) ?_;refine lp (G:=Nat×List (SL×List Int)) [1,2,3,8,14] [0,1,2,3,4] (λq=>[(15,.int .i64 (q.1:Int))]) (λq=>[(5,box j 210 (cellsOf (Nn (α:=List Int)) (Zv8 q.2)).toArray),(71,Nf qZ q.2)]) (λq=>(q.1<=3)/\(q.2.length=q.1)/\(∀t,t<q.1->(q.2.getD t Z0).2=Pe (Zs t x y z) f h e)) (λq=>3-q.1) (0,[]) ⟨O2,rfl,λt I=>absurd I (bD t)⟩ K1 K2 ?_;rintro⟨i,zs⟩ ⟨hi,k,p⟩;dsimp only at hi k p;dsimp only;have Q:=M.hc i;have o:=M.lc i;obtain⟨q1,q2,q3,q4,q5,q6,q7,q8⟩:=Zjj Q o N P hd;have n:(6-((Zs i x y z).length:Int)).toNat=6-(Zs i x y z).length:=O1;refine go 6<|Ze J (λr=>?_) (λr=>?_)
 .refine go 5<|Zf (Ziv i 1 2 3 50 J J J J J J)<|go 2 ?_;refine dt (Zqf i J J J underlying182 Zc7 isAgg33 J)<|go 7 ?_;refine cl 6 [50] (Zg8 Q (aB o.2 O4)) λ_ _=>?_;refine Xg (Np 6 (q:=Yx 2 wv _ (tzl (Zs i x y z))) (aD (Yx 2 wv _) (aK (Zqq o.2))) J J)<|go 11 ?_;refine cl 6 [] (Ya f) λ_ _=>go 1 ?_;refine cl 6 [] (Ya h) λ_ _=>go 1 ?_;refine cl 6 [] (Ya e) λ_ _=>cl 7 [6] (Zrw (tzl (Zs i x y z)) f h e q1 O1 O1 O1 O1 q2) λ_ _=>?_;refine go 13 ⟨O1,?_⟩;refine cl 7 [] (Fz e (6-((Zs i x y z).length:Int)) (aB D O4) O1 O1) λ_ _=>cl 8 [7] (Ie (e^(6-((Zs i x y z).length:Int)).toNat) q3 (by rw [n];exact aB q4 O4) (by rw [n];exact q5)) λ_ _=>?_;refine Zkj (Xp 8 J Zr) (λB H=>?_);subst H;refine Xg (Np 8 (q:=Yx 2 wv (Xk B) (Pe (Zs i x y z) f h e)) (aD (Yx 2 wv (Xk B)) (by rw [n];rfl)) J J)<|Xg (Zq (q:=qZ) (z:=(B,(Pe (Zs i x y z) f h e))) 71 8 71 J J J J J)<|go 3 ?_;refine dt (Fg i J J J underlying210 sizeOf40 J)<|tt (t_sbe 5 i 1 (enc:=Nn) (B,(Pe (Zs i x y z) f h e)) J J J J J pS (by rw [Yl7 O1];omega) J R.h aA) (λ_ _=>?_);refine go 7 ⟨O1,?_⟩;exact Yh (i+1,zs ++ [(B,(Pe (Zs i x y z) f h e))]) ⟨O2,by rw [bG,k];rfl,λt I=>Zx3 k p I⟩ O2 K1 ⟨by rw [Yk7 O1 k];rfl,rfl,aA⟩
 .obtain rfl:i=3:=O1;refine go 6 ?_;obtain⟨s,u,v,rfl⟩:=Yh5 k p;refine Zf (Za8 (q:=qZ) 71 81 (s,Pe x f h e) J J O6 J)<|Zf (Za8 (q:=qZ) 71 82 (u,Pe y f h e) J J O6 J)<|Zf (Za8 (q:=qZ) 71 83 (v,Pe z f h e) J J O6 J)<|go 1 ?_;refine dt (d_lea (i:=5) (enc:=Nn) (l:=[(s,Pe x f h e),(u,Pe y f h e),(v,Pe z f h e)]) J J J pS isAgg210 sizeOf210 J)<|tt (t_sea (i:=5) (enc:=Nn) (l:=[(s,Pe x f h e),(u,Pe y f h e),(v,Pe z f h e)]) J J J J J O4 pS sizeOf210 J J J R.h aA) λ_ _=>go 3 ?_;exact Zue (.inl J) F (s,u,v) (λa w hs=>Zcj hs results231 (Ep 5 (vs:=cellsOf Nn [(s,Pe x f h e),(u,Pe y f h e),(v,Pe z f h e)]) J J isAgg210 sizeOf210 J)) J aA J (Gt 81 J J J (Gt 82 J J J (Gt 83 J J J Za)))
theorem Ygy{s:Bool}(f:x.natAbs<=9223372036854775807)(h:sg s x):(x=0/\dg U x.natAbs=[])\/(s=true/\x<0/\dg U x.natAbs=[x.natAbs])\/(s=false/\0<x/\dg U x.natAbs=[x.natAbs]):=by
 have e:x.natAbs≠0->dg U x.natAbs=[x.natAbs]:=λg=>by have a:x.natAbs<U:=aV f O4;rw [Zcu O4 O1,bJ a,cT a];rfl
 rcases mU x 0 with q|q|q
 .right;left;refine⟨?_,q,e O1⟩;cases s
  .have:=h.2 rfl;omega
  .rfl
 .subst q;exact .inl ⟨rfl,rfl⟩
 .right;right;refine⟨?_,q,e O1⟩;cases s
  .rfl
  .have:=h.1 rfl;omega
theorem int_wn(a:x.natAbs<=9223372036854775807)(h:x<0):IntKind.i64.wrap (18446744073709551616-(x.natAbs:Int))=x:=by simp only [IntKind.wrap,IntKind.bits,IntKind.signed];simp;omega
theorem int_wp(a:x.natAbs<=9223372036854775807)(h:0<x):IntKind.i64.wrap ((([x.natAbs]:List Nat).getD 0 0:Nat):Int)=x:=by show IntKind.i64.wrap (x.natAbs:Int)=x;rw [Zb8 ⟨O1,O1⟩];omega
theorem int_d0(a:x.natAbs<=9223372036854775807):¬((([x.natAbs]:List Nat).getD 0 0:Nat):Int)>=9223372036854775808:=by show ¬(x.natAbs:Int)>=_;omega
theorem Ymf(a:x.natAbs<=9223372036854775807):¬((([x.natAbs]:List Nat).getD 0 0:Nat):Int)>9223372036854775808:=by show ¬(x.natAbs:Int)>_;omega
theorem int_m(h:x<0)(a:x.natAbs<=9223372036854775807):(-((([x.natAbs]:List Nat).getD 0 0:Nat):Int))%18446744073709551616=18446744073709551616-(x.natAbs:Int):=by show(-(x.natAbs:Int))%_=_;omega
theorem Zui(x:Int)(h:x.natAbs<=9223372036854775807):Qe prog 113 #[wv x] [] (.tuple #[.int .i64 x,.int .i64 0]):=by
 refine Zg func113 ntmps113 λs q p j=>?_;have l:bl x.natAbs<=65536:=aB ((Qs 63 _).2 (aV h O4)) O4;refine go 2<|Yd (Yk 1) λo _=>go 8 ?_;refine cl 1 [] (Ky ‹_›) λ_ _=>go 9 ?_;refine cl 2 [] (Nl (Qv _)) λg n=>Yd (Zw 3) λk _=>go 6 ?_;rcases Ygy h n with⟨rfl,e⟩|⟨f,e,a⟩|⟨f,e,a⟩
 .refine go 4<|kt (aG (by rw [e];rfl))<|go 13 ?_;exact Nm j () results113 J aA Za
 .refine go 4<|kf (aI (by rw [a];simp))<|go 9<|kf (aI (by rw [a];simp))<|go 3 ?_;refine Hk (dF (Yq J J) (aD (λb=>Value.bool (!b)) f)) J J<|go 13 ⟨by rw [a];exact eQ,by rw [a];exact eQ,?_⟩;refine kfg (aI (by rw [a];exact Ymf h))<|go 8<|kt f<|go 10 ⟨by rw [a];exact eQ,by rw [a];exact eQ,?_⟩;refine dt (Yh1 (18446744073709551616-(x.natAbs:Int)) J J (by rw [a];exact int_m e h))<|dt (Zil (r:=x) J J Zbi uT3 (int_wn h e))<|go 7 ?_;exact Nm j () results113 J aA Za
 .refine go 4<|kf (aI (by rw [a];simp))<|go 9<|kf (aI (by rw [a];simp))<|go 3 ?_;refine Hk (dT (Yq J J) (aD (λb=>Value.bool (!b)) f)) J J<|go 5 ⟨by rw [a];exact eQ,by rw [a];exact eQ,?_⟩;refine kfg (aI (by rw [a];exact int_d0 h))<|go 7 ⟨by rw [a];exact eQ,by rw [a];exact eQ,?_⟩;refine kfg (aI (by rw [a];exact Ymf h))<|go 8<|kf f<|go 13 ⟨by rw [a];exact eQ,by rw [a];exact eQ,?_⟩;refine dt (Zil (r:=x) J J Zbi uT3 (by rw [a];exact int_wp h e))<|go 5 ?_;exact Nm j () results113 J aA Za
abbrev Ymu (o:Nat) (m:Int) (g:Zk):List Int:=formP o m g.1.2.2 (g.1.2.1-g.1.1) g.2.1.2 g.2.2.1.2 g.2.2.2.2
def Ymb(o:Nat)(ps:List Zk)(m:Int):Bool:=ps.all λg=>!It (Ymu o m g)
def Yp9(p:Nat->Bool):Nat->Nat->Nat->Nat
 | 0,i,_=>i
 | f+1,i,j=>if i<j then(if p ((i+j)/2)then Yp9 p f i ((i+j)/2)else Yp9 p f ((i+j)/2+1) j)else i
def Yp0(o:Nat)(ps:List Zk):Nat:=Yp9 (λn=>Ymb o ps (n:Int)) 14 0 10001
def joG(g h:Zk):Bool:=joinB g.1.1 g.1.2.1 g.1.2.2 g.2.1.2 g.2.2.1.2 g.2.2.2.2 h.1.1 h.1.2.1 h.1.2.2 h.2.1.2 h.2.2.1.2 h.2.2.2.2
def joAll(ps:List Zk):Bool:=(List.range ps.length).all λi=>decide (i=0) || joG (ps.getD (i-1) G0) (ps.getD i G0)
def topV(ps:List Zk):Int×Int×Int:=
 if 10000<Yp0 1 ps\/10000<Yp0 2 ps then(0,0,3)else if joAll ps then((Yp0 1 ps:Int),(Yp0 2 ps:Int),0)else(0,0,10)
theorem Zr1{ps:List Zk}(j:∀g∈ps,Gin g)(h:Yf ps=true):∀g∈ps,SgG g:=λg f=>by obtain⟨i,hi,e⟩:=cQ.1 f;have a:=Nx ((Qd h).1 i hi);rw [aL,aO hi,fD,e]at a;exact Oj (j g f) a
def g8(g:Zk):Bool:=decide (g.2.1.2.length<=8) && decide (g.2.2.1.2.length<=8) && decide (g.2.2.2.2.length<=8)
def Zbc(ps:List Zk)(m:Nat):Bool:=(List.range ps.length).all (λi=>decide (m<i) || g8 (ps.getD i G0)) && decide (ps.length<=m)
theorem g8_t{g:Zk}(a:g.2.1.2.length<=8)(e:g.2.2.1.2.length<=8)(f:g.2.2.2.2.length<=8):g8 g=true:=by unfold g8;rw [aG a,aG e,aG f];rfl
theorem g8_f{g:Zk}(h:¬(g.2.1.2.length<=8/\g.2.2.1.2.length<=8/\g.2.2.2.2.length<=8)):g8 g=false:=by
 cases hb:g8 g with
 | false=>rfl
 | true=>
  unfold g8 at hb;simp only [aN,cF]at hb;exact absurd ⟨hb.1.1,hb.1.2,hb.2⟩ h
theorem Zz5 (i:Nat){ps:List Zk}(hi:i<ps.length)(a:i<=m)(h:g8 (ps.getD i G0)=false):Zbc ps m=false:=by
 cases hb:Zbc ps m with
 | false=>rfl
 | true=>
  unfold Zbc at hb;rw [aN]at hb;have:=cI.1 hb.1 i (fX.2 hi);rw [h,aI O1]at this;cases this
theorem Ym1 (n:Nat){ps:List Zk}(a:n=ps.length\/m<n)(h:∀k,k<n->g8 (ps.getD k G0)=true):Zbc ps m=decide (ps.length<=m):=by
 unfold Zbc;rw [cI.2 λi hi=>by
  have hi:=fX.1 hi;rcases aW m i with q|q
  .rw [aG q];rfl
  .rw [h i O1,Bool.or_true]]
 rfl
theorem Ytp:∀n,n<=5->∀i,i<n->(Ou n i:Int)*((n:Int)-(i:Int))/((i:Int)+1)=(Ou n (i+1):Int):=by intro n e i hi;have a:∀n,n<6->∀i,i<n->(Ou n i:Int)*((n:Int)-(i:Int))/((i:Int)+1)=(Ou n (i+1):Int):=O7;exact a n O1 i hi
theorem getD3{α:Type}{a b c d:α}(h:i<3):[a,b,c].getD i d=Zs i a b c:=by
 match i,h with
 | 0,_=>rfl
 | 1,_=>rfl
 | 2,_=>rfl
theorem Yjb{α β:Type}(i:Nat)(a b c:α×β):(Zs i a b c).2=Zs i a.2 b.2 c.2:=by unfold Zs;split<;>rfl
theorem Zfi{a e f:SL}{x:List Int}(h:i<3):([(a,x),(e,y),(f,z)].getD i d).2=Zs i x y z:=by rw [getD3 h,Yjb]
theorem Zyu{a b:Int} : 0<(a-b).sign↔b<a:=by rw [sgp];omega
theorem Yi3{a b:Int} : (a-b).sign<0↔a<b:=by rw [sign_neg_iff];omega
def Yta(t m:Int):m<t\/(¬m<t/\t < -m)\/(¬m<t/\¬t < -m):=O1
def axc(c:List Int):Bool:=!(decide (1<=c.length) && decide (c.length<=6) && !(decide (1<c.length) && decide (c.getD (c.length-1) 0=0)))
theorem axc_f(h:b=axc c)(a:b=false):1<=c.length/\c.length<=6/\¬(1<c.length/\c.getD (c.length-1) 0=0):=by subst h;unfold axc at a;simp only [Bool.not_eq_false',aN,fI,iF,cF,fJ]at a;exact⟨a.1.1,a.1.2,λh=>by rcases a.2 with q|q;exact q h.1;exact q h.2⟩
theorem axc_t(h:b=axc c)(a:b=true):axB c ov=false:=by
 cases ha:axB c ov with
 | false=>rfl
 | true=>
  exfalso;unfold axB at ha;rw [aN]at ha;have:axc c=false:=by unfold axc;rw [ha.1];rfl
  rw [h,this]at a;cases a
theorem Ye8(h:¬1<=c.length):true=axc c:=by unfold axc;rw [aI h];rfl
theorem Ye7(h:¬c.length<=6):true=axc c:=by unfold axc;rw [aI h,Bool.and_false];rfl
theorem Ye6(a:1<=c.length)(e:c.length<=6)(f:¬1<c.length):false=axc c:=by unfold axc;rw [aG a,aG e,aI f];rfl
theorem Ye5(a:1<=c.length)(e:c.length<=6)(f:1<c.length):decide (c.getD (c.length-1) 0=0)=axc c:=by unfold axc;rw [aG a,aG e,aG f];simp
theorem Yt8(h:bl ov.natAbs<=64):bl (62914560*ov).natAbs<=100:=by have a:=Zy 62914560 ov;have e:bl (62914560:Int).natAbs<=30:=O4;omega
end Go.Sky

