/- Rules, arithmetic and contracts: part 13. No conditions but those that each theorem names. -/
import Derived.Test.YtlnoheikolgejaaGreatLa11
import Derived.ChangeKeysEq
import Derived.RangeFuncFrom
import Derived.RangeFuncLeaves
import Derived.OrdersIn
import Derived.TacticsIn
import Derived.RangeFuncCalls
set_option linter.all false
set_option maxHeartbeats 4000000
namespace Go.Sky
open Go.Proofs.Tryz
open Go.Proofs
set_option synthInstance.maxHeartbeats 0
set_option synthInstance.maxSize 100000
set_option maxRecDepth 20000
set_option linter.unusedSimpArgs false
variable{ov a d:Int}{x y xs c:List Int}{z d0:SL×List Int}{i:Nat}{b:Bool}{M:Nat->Prop}{rest:List (Nat×Nat)}{zs:List (SL×List Int)}{f:Nat->List Int}{args:Array Value}{R:Value->World->Prop}{listed:Array Bool}
theorem Zol{fr F:Int}{H I N:Value}{z:List Int}(a d:Int)(g:Sgo fr F ov x y z)(h:0<=a/\a<=3600000)(j:1<=d/\d<=3600000):Qp prog 151 #[.agg #[.int .i64 fr,.int .i64 F,.int .i64 ov,H,I,N],.int .i64 a,.int .i64 d] [Yg 1 Zz H x,Yg 1 Zz I y,Yg 1 Zz N z] (plV (pl x a d/(gS ov a d x y z 3)) (pl y a d/(gS ov a d x y z 3)) (pl z a d/(gS ov a d x y z 3)) (ov*d^5/(gS ov a d x y z 3))):=by
 refine Zf func151 ntmps151 λw0 sc S v=>?_;have t:bl a.natAbs<=60:=(Qg 60 _).2 O;have s:bl d.natAbs<=60:=(Qg 60 _).2 O;have P:=g.o1;have Q:=g.o2;obtain⟨k1,V⟩:=Ycp g h j 0;refine go 2<|Ym (Yj 4) λW _=>Ym (Yd 5) λB _=>go 4<|Ym (Yd 6) λe _=>go 6 ?_;refine cl 6 [] (Zn ov) λ_ _=>go 1 ?_;refine cl 6 [] (He d 5 s O3 O3) λ_ _=>cl 6 [] (Dn ov (d^5) (aB ((Qg 40 _).2 O) (by decide:40<=30000)) (aB (Zs5 d ⟨O,O⟩ (k:=5) O3) O3)) λ_ _=>Ym (Yd 7) λD _=>go 6<|Ym (Yd 8) λn _=>go 7 ?_;refine cl 8 [1,2,3] Zlz λ_ _=>go 4<|Zl (Ol 6 (q:=box e 151 (cellsOf wv (List.replicate 3 (0:Int))).toArray) (aL (box e 151) (show _=(cellsOf wv (List.replicate 3 (0:Int))).toArray from J)) J J) ?_;refine lp (G:=Nat) [1,2,6,7,8,9,22] [0,1,2,3,4,5,7] (λi=>[(23,.int .i64 (i:Int))]) (λi=>[(6,box e 151 (cellsOf wv (atS a d x y z i)).toArray),(8,box n 144 (wc (gS ov a d x y z i)))]) (λi=>i<=3) (λi=>3-i) 0 O1 K1 K2 ?_;rintro i hi;have m:=g.hc i;have u:=g.lc i;obtain⟨Y,o⟩:=Ycp g h j i;refine go 6<|Zc J (λp=>?_) (λp=>?_)
 .refine go 5<|Zl (Zav i 1 2 3 50 J J J J J J)<|go 2 ?_;refine dt (Zle i J J J underlying215 sizeOf25 isAgg25 J)<|go 13 ?_;refine lp (G:=Nat) [1,2,6,7,8,9,10,22,23,27,28] [0,8,1,2,3,4,5,7,50] (λk=>[(29,.int .i64 (k:Int))]) (λk=>[(6,box e 151 (cellsOf wv ((atS a d x y z i).set i (plS (Zt i x y z) a d k))).toArray)]) (λk=>k<=(Zt i x y z).length) (λk=>(Zt i x y z).length-k) 0 O1 K1 ⟨by rw [show((atS a d x y z i).set i (plS (Zt i x y z) a d 0))=(atS a d x y z i)from(Yey a d x y z O).symm];rfl,aA⟩ ?_;rintro k Z;refine go 6<|Zc J (λr=>?_) (λr=>?_)
  .refine go 13 ⟨O2,O2,?_⟩;refine Qj (λ_=>False) [(0,0),(1,0),(2,0),(3,0),(4,0),(6,0),(7,0),(9,0),(10,0),(11,0),(5,1),(8,1),(12,1),(13,1),(14,1),(15,1),(16,0),(17,3)]<|go 2 ?_;refine Xp J J (Qv (Ir i J J J Zkb Pe J))<|Xp J J (Qv (Zy (wv (plS (Zt i x y z) a d k)) (Zqq 6 i (enc:=wv) (l:=((atS a d x y z i).set i (plS (Zt i x y z) a d k))) 0 J J J pV (by rw [cI,Ew];omega)) (aL wv (Zor (by rw [Ew];omega)))))<|go 6 ⟨O,?_⟩;refine Xq (Zs 8 [] (Zn ((Zt i x y z).getD k 0) (Iw m k))) λ_ _=>Xq (Zs 8 [] (He a (k:Int) t O O)) λ_ _=>Xq (Zs 8 [] (He d (5-(k:Int)) s O O)) λ_ _=>Xq (Zs 8 [] (Dn (a^k) (d^(5-(k:Int)).toNat) (aB (Zs5 _ h O) O3) (aB (Zs5 d ⟨O,O⟩ O) O3))) λ_ _=>Xq (Zs 8 [] (Dn ((Zt i x y z).getD k 0) (a^k*d^(5-(k:Int)).toNat) (aB (Ek (Iw m k)) O3) (aB (Yej m h j (k:=k) O).1 O3))) λ_ _=>Xq (Zs 8 [] (Zzs (plS (Zt i x y z) a d k) (plT (Zt i x y z) a d k) (aB (Zfy m h j O) O3) (aB (Yej m h j O).2 O3))) λ_ _=>?_;refine Xp J J (Qv (Ir i J J J Zkb Pe J))<|r3' J (t_sbe 6 i 2 (enc:=wv) ((plS (Zt i x y z) a d k)+plT (Zt i x y z) a d k) J J J J J pV (by rw [cI,Ew];omega) J S.h aA) (λ_ _=>?_);refine go 7 ⟨O,?_⟩;exact Yv (k+1) O1 O1 K1 ⟨by rw [List.set_set];rfl,aA⟩
  .obtain rfl:k=(Zt i x y z).length:=O;refine go 5<|Qj (λ_=>False) [(0,0),(1,0),(2,0),(3,0),(4,1),(5,3)]<|go 2 ?_;refine Xp J J (Qv (Ir i J J J Zkb Pe J))<|Xp J J (Qv (Zy (wv (pl (Zt i x y z) a d)) (Zqq 6 i (enc:=wv) (l:=((atS a d x y z i).set i (pl (Zt i x y z) a d))) 0 J J J pV (by rw [cI,Ew];omega)) (aL wv (Zor (by rw [Ew];omega)))))<|Xq (Zs 8 [] (Zly (gS ov a d x y z i) (pl (Zt i x y z) a d) (aB o O3) (aB (Zfy m h j u.2) O3))) λ_ _=>?_;refine go 8 ⟨O,?_⟩;exact Yv (i+1) O1 O1 K1 K2
 .obtain rfl:i=3:=O;refine go 6<|Qj (λ_=>False) [(0,0),(1,0),(2,0),(4,0),(5,0),(6,0),(8,0),(9,0),(10,0),(12,0),(13,0),(3,1),(7,1),(11,1),(14,1),(15,0),(16,3)] ?_;refine Xp J J (Qv (Ir 0 J J J Zkb Pe J))<|Xp J J (Qv (Zy (wv (pl x a d)) (Zqq 6 0 (enc:=wv) (l:=(atS a d x y z 3)) 0 J J J pV (by rw [Ew];decide)) (aL wv J)))<|go 1 ?_;refine Xp J J (Qv (Ir 1 J J J Zkb Pe J))<|Xp J J (Qv (Zy (wv (pl y a d)) (Zqq 6 1 (enc:=wv) (l:=(atS a d x y z 3)) 0 J J J pV (by rw [Ew];decide)) (aL wv J)))<|go 1 ?_;refine Xp J J (Qv (Ir 2 J J J Zkb Pe J))<|Xp J J (Qv (Zy (wv (pl z a d)) (Zqq 6 2 (enc:=wv) (l:=(atS a d x y z 3)) 0 J J J pV (by rw [Ew];decide)) (aL wv J)))<|go 3 ?_;refine Xq (Zs 8 [] (Zfg (pl x a d) (gS ov a d x y z 3) (aB (Zfy g.hx h j g.lx.2) O3) (aB o O3) O)) λ_ _=>Xq (Zs 8 [] (Zfg (pl y a d) (gS ov a d x y z 3) (aB (Zfy g.hy h j g.ly.2) O3) (aB o O3) O)) λ_ _=>Xq (Zs 8 [] (Zfg (pl z a d) (gS ov a d x y z 3) (aB (Zfy g.hz h j g.lz.2) O3) (aB o O3) O)) λ_ _=>Xq (Zs 8 [] (Zfg (ov*d^5) (gS ov a d x y z 3) (aB V O3) (aB o O3) O)) λ_ _=>?_;refine Xp J J (Qv (Xv [(0,_),(1,_),(2,_),(3,_)] J K8 (λa w hs=>Zyi)))<|go 4 ?_;exact Xc v () results151 J aA Za
def eg147:Tryz.prog.eqGuardType Tryz.prog.depth 147=false:=O5
theorem eqlP(w:World){p q r o g h j e:Int}:(binOp .eql 147 (plV p q r o) (plV g h j e)).run Tryz.prog w= .ok (.bool (decide (p=g/\q=h/\r=j/\o=e))) w:=by
 have l:Tryz.prog.stoodInHeld 147=false:=O5;have k:Tryz.prog.underlying 147=some (.struct (Tryz.prog.fieldsOf 147)):=by unfold Program.fieldsOf;rw [Tryz.underlying147]
 rw [run_eql_struct,run_equalIn_agg w 9999 147 _ _ k l];unfold Program.fieldsOf;rw [Tryz.underlying147];simp [Op.eqFields,part,Tryz.isAgg144,Tryz.sizeOf144,in144,Yc7];by_cases m:p=g<;>by_cases n:q=h<;>by_cases s:r=j<;>by_cases t:o=e<;>simp_all
def litb(l:List Int):Bool:=(l.all λx=>decide (-1000000<=x) && decide (x<=1000000)) && (decide (tzl l=l) && decide (l.length<=25))
instance eokDec:∀f a b,Decidable (eok f a b)
 | 0,_,b=>inferInstanceAs (Decidable (b=[]))
 | f+1,a,b=>@instDecidableOr _ _ _ (@instDecidableAnd _ _ _ (eokDec f b (Yi (Xs a b))))
def lessx(xs:List Int)(m:Int):List Int:=Aq xs (tzl [m])
def Zrf(xs:List Int)(m:Int):Prop:=∃x:Rat,0<=x/\x<=1/\Zb xs x<(m:Rat)
theorem Zxn{m n:Int}(h:Zrf xs m)(e:m<=n):Zrf xs n:=by
 obtain⟨x,a,b,c⟩:=h;have:(m:Rat)<=(n:Rat):=by exact_mod_cast e
 exact⟨x,a,b,O4⟩
def lws:List Int->Int
 | []=>0
 | c::p=>-(c.natAbs:Int)+lws p
theorem Ybp{n:Nat} : ∀p:List Int,(∀c∈p,c.natAbs<=n)->-((p.length*n:Nat):Int)<=lws p/\lws p<=0
 | [],_=>by show -((0*n:Nat):Int)<=0/\(0:Int)<=0;omega
 | c::p,h=>by have g:=Ybp p λd e=>h d (bJ _ e);have j:=h c bX;show -(((p.length+1)*n:Nat):Int)<=-(c.natAbs:Int)+lws p/\-(c.natAbs:Int)+lws p<=0;rw [eF];omega
theorem Zus{x:Rat}(g:0<=x)(k:x<=1):∀p:List Int,((lws p:Int):Rat)<=Zb p x
 | []=>by show((0:Int):Rat)<=0;exact iI
 | c::p=>by
  have j:=Zus g k p;have o:=(Ybp (n:=p.foldl (λm c=>max m c.natAbs) 0) p (λc e=>by
   have:∀(l:List Int) (a:Nat),(a<=l.foldl (λm c=>max m c.natAbs) a)/\∀c∈l,c.natAbs<=l.foldl (λm c=>max m c.natAbs) a:=λl=>by
    induction l with
    | nil=>intro a;exact⟨aK _,λc e=>absurd e O7⟩
    | cons d l j=>
     intro a;obtain⟨h,s⟩:=j (max a d.natAbs);refine⟨aB (Nat.le_max_left _ _) h,λc e=>?_⟩;rcases bG.1 e with rfl|e
     .exact aB (Nat.le_max_right _ _) h
     .exact s c e
   exact(this p 0).2 c e)).2
  have q:((lws p:Int):Rat)<=0:=by exact_mod_cast o
  have e:((-(c.natAbs:Int):Int):Rat)<=(c:Rat):=by exact_mod_cast (show -(c.natAbs:Int)<=c by omega)
  have t:=aI (show 0<=1-x by grind) (show 0<=-((lws p:Int):Rat) by grind);have r:=aI g (show 0<=Zb p x-((lws p:Int):Rat) by grind);show((-(c.natAbs:Int)+lws p:Int):Rat)<=(c:Rat)+x*Zb p x;push_cast at e ⊢;grind
theorem Ybs(xs:List Int):¬Zrf xs (lws xs):=by rintro⟨x,a,b,c⟩;have:=Zus a b xs;grind
theorem Ygv(xs:List Int):Zb xs 0=((cf xs 0:Int):Rat):=by
 cases xs with
 | nil=>rfl
 | cons c p=>show(c:Rat)+0*Zb p 0=(c:Rat);grind
theorem Zxo(xs:List Int):Zrf xs (cf xs 0+1):=by refine⟨0,O4,O3,?_⟩;rw [Ygv];push_cast;grind
theorem Yhi{l h:Int}(e:¬Zrf xs l)(g:Zrf xs h):l<h:=by
 rcases jE l h with q|q
 .exact q
 .exact absurd (Zxn g q) e
def Zof(hs:Sz 40 xs)(i:Nat):(cf xs i).natAbs<1099511627776:=(Qg 40 _).1 (hs i)
theorem Ybo(hs:Sz 40 xs)(p:xs.length<=9)(i:Nat):-9895604649984<=lws (xs.take i)/\lws (xs.take i)<=0:=by
 obtain⟨l,g⟩:=Ybp (n:=1099511627776) (xs.take i) λc h=>by
  obtain⟨k,j,rfl⟩:=eA.1 h;have o:=Zof hs k;rw [aU]at j;have e:(xs.take i)[k]=cf xs k:=by rw [List.getElem_take];unfold cf;rw [aC,aH O];rfl
  rw [e];omega
 have m:(xs.take i).length*1099511627776<=9*1099511627776:=aM _ (by rw [aU];omega);exact⟨O,g⟩
structure FlI (xs:List Int) (lo hi:Int):Prop where
 l:¬Zrf xs lo
 h:Zrf xs hi
 b1:-17592186044416<=lo
 b2:hi<=17592186044416
def FlI.lt{lo hi:Int}(h:FlI xs lo hi):lo<hi:=Yhi h.l h.h
theorem FlI.start(hs:Sz 40 xs)(e:xs.length<=9)(hi:xs.length<=i):FlI xs (lws (xs.take i)) (cf xs 0+1):=by have g:=Ybo hs e i;have h:=Zof hs 0;refine⟨by rw [cK hi];exact Ybs xs,Zxo xs,O,O⟩
structure Ef (a:R2):Prop where
 p:0<a.2
 b1:bl a.1.natAbs<=512
 b2:bl a.2.natAbs<=512
def E32.ef{a:R2}(h:E32 a):Ef a:=⟨h.p,aB h.b1 O3,aB h.b2 O3⟩
def plx(a b:R2):Int:=a.1*b.2
def ply(a b:R2):Int:=b.1*a.2
def pld(a b:R2):Int:=a.2*b.2
def plc(xs:List Int)(a b:R2):List Int:=Le xs (plx a b) (ply a b-plx a b) (pld a b)
def psum(c:List Int)(d j:Nat)(i:Nat):Int:=Yb (λi=>cf c i*(Ph (d-i) (j-i):Int)) i
def plainB(xs:List Int)(a b:R2):Bool:=if xs.length=0 then true else(List.range xs.length).all λj=>decide (0<=psum (plc xs a b) (xs.length-1) j (min (j+1) (plc xs a b).length))
abbrev PTs:=Int×R2×R2
abbrev P0:PTs:=(0,(0,0),(0,0))
abbrev encP9 (z:PTs):Value:= .agg #[.int .i64 z.1,.bool (decide (z.2.1.1<0)),.string (Xn z.2.1.1.natAbs),.bool (decide (z.2.1.2<0)),.string (Xn z.2.1.2.natAbs),.bool (decide (z.2.2.1<0)),.string (Xn z.2.2.1.natAbs),.bool (decide (z.2.2.2<0)),.string (Xn z.2.2.2.natAbs)]
def shw(xs:List Int)(z:PTs):Bool:=if z.1=1 then plainB xs z.2.1 z.2.2 else if xs.length=0\/cmp z.2.1 z.2.2=0 then decide (0<=vlu (Pk xs) z.2.1)else decide (0<aft (Pk xs) z.2.1) && !crb (chx xs) z.2.1 z.2.2
def okpB(xs:List Int)(l:R2)(z:PTs):Bool:=decide (cmp l z.2.1=0) && decide (¬0<cmp z.2.1 z.2.2) && shw xs z
def lst(a:R2)(ps:List PTs)(i:Nat):R2:=if i=0 then a else(ps.getD (i-1) P0).2.2
def chkP(xs:List Int)(ps:List PTs)(a b:R2):Bool:=decide (0<ps.length) && (List.range ps.length).all (λk=>okpB xs (lst a ps k) (ps.getD k P0)) && decide (cmp (lst a ps ps.length) b=0)
def ValP(ps:List PTs):Prop:=∀z∈ps,(z.1=1\/z.1=2)/\Ef z.2.1/\Ef z.2.2
theorem Ef.efit{a:R2}(h:Ef a):Go.Sky.efit a=true:=by have:=h.b1;have:=h.b2;unfold Go.Sky.efit;exact aN O
theorem Bc(h:(!b)=true):b=false:=by cases b<;>simp_all
theorem Dx(h:(!b)=false):b=true:=by cases b<;>simp_all
theorem r2u {P:Program} {N:Nat} {sc:Nat->Prop} {env:Xz} {H:Hp}  {ops:Array Oper} {F:Xz->Hp->Prop}  {o:Oper} {d j e:Nat}  (q:ops[i]? = some o) (n:o.guard=some (j,b)) (p:(ops[j]?).bind (·.dst)=some e) (m:lk env e=some undef) (l:o.dst=some d) 
  (h:LD P N sc M ops F rest ((d,undef)::env) H) (k:Nat.blt d N=true:=by rfl):LD P N sc M ops F ((i,2)::rest) env H:=⟨o,d,q,l,k,λa w g=>by simp [Region.wanted,n,g.yieldedu p m],h⟩
theorem Zzq{fr k e l h:Int}{v B D m n o:Value}{z q r s:List Int}(F:Sgo fr k ov x y z)(p:Sgo e l h q r s):Qp prog 135 #[.agg #[.int .i64 fr,.int .i64 k,.int .i64 ov,v,B,D],.agg #[.int .i64 e,.int .i64 l,.int .i64 h,m,n,o]] [Yg 1 Zz v x,Yg 1 Zz B y,Yg 1 Zz D z,Yg 1 Zz m q,Yg 1 Zz n r,Yg 1 Zz o s] (.bool (Zpm k ov x y z e h q r s)):=by
 refine Zf func135 ntmps135 λI H u j=>go 2 ?_;refine Ym (Yj 7) λG _=>Ym (Yj 8) λt _=>go 4 ?_;rcases(show k=e\/k≠e by omega)with g|g
 .refine Qj (λ_=>False) [(0,0),(1,0),(2,0),(3,0),(4,0),(5,0),(6,0),(8,0),(7,1),(9,1),(10,0),(11,0),(12,3)]<|go 4 ?_;refine Xp J J (Qv (dT (Ydt J J J) (vB (aN g))))<|go 3 ?_;refine Ygy J J J J J (Ea 8 (Zol 1 1 F ⟨O3,O3⟩ ⟨O3,O3⟩) J J J K3 call151 (Zx 1 J J J (Zx 2 J J J (Zx 3 J J J Zu))) J u.h) (λ_ _=>?_);refine Ygy J J J J J (Ea 8 (Zol 0 1 p ⟨O3,O3⟩ ⟨O3,O3⟩) J J J K3 call151 (Zx 4 J J J (Zx 5 J J J (Zx 6 J J J Zu))) J u.h) (λ_ _=>?_);refine r0g (Qv (d_eqg J J J eg147 (λw=>eqlP w))) J J J J J<|go 5 ?_;exact Xc j () results135 (by unfold Zpm;rw [aN g];rfl) aA Za
 .refine Qj (λ_=>False) [(0,0),(1,0),(2,0),(3,0),(4,0),(5,0),(6,2),(8,2),(7,2),(9,2),(10,2),(11,0),(12,3)]<|go 4 ?_;refine Xp J J (Qv (dF (Ydt J J J) (vB (aJ g))))<|go 11 ?_;exact Xc j () results135 (by unfold Zpm;rw [aJ g];rfl) aA Za
theorem Ho{v:Value}{ps:List Zj}(t:∀g∈ps,Gin g):Qp prog 72 #[v] [Qh 6 Qu qG v ps] (.bool (Xk ps)):=by
 refine Zf func72 ntmps72 λD B u l=>?_;refine Qf (Py (i:=1) J Zp) λs=>go 14 ?_;refine lp (G:=Nat) [0,5,6] [0,1] (λi=>[(7,.int .i64 (i:Int))]) (λi=>[]) (λi=>(i<=ps.length)/\(∀k,k<i->Zc4 ps k=true)) (λi=>ps.length-i) 0 ⟨O1,λk n=>absurd n (cN k)⟩ K1 aA ?_;rintro i ⟨hi,n⟩;refine go 6<|Zc J (λo=>?_) (λo=>?_)
 .refine go 5 ?_;have h:=t _ (Zk (d:=G0) (show i<ps.length by omega));refine Zl (Ny (ps.getD i G0) ((ps.getD i G0).2.1) 1 51 J J Zk O7)<|Zl (Ny (ps.getD i G0) ((ps.getD i G0).2.2.1) 1 52 J J Zk O7)<|Zl (Ny (ps.getD i G0) ((ps.getD i G0).2.2.2) 1 53 J J Zk O7)<|go 3 ⟨O2,?_⟩;refine dt (Po 1 G0 J J J Zp pG O2)<|Ym (Yd 2) λw _=>go 5 ?_;rcases Zw4 (ps.getD i G0) i with e|⟨e,j⟩|⟨e,j⟩
  .refine Qj (λ_=>False) [(0,0),(1,1),(2,0),(3,0),(4,2),(5,2),(6,2),(7,2),(8,2),(9,2),(10,2),(11,2),(12,2),(13,2),(14,2),(15,2),(16,0)]<|go 1<|Xq (Zs 2 [51,52,53] (Zhw h.f h.t h.o h.x h.y h.z)) λ_ _=>?_;refine Xp J J (Qv (dT (Xi J J) (vB (by rw [show Bj _ _ _ _ _ _=_ from e];rfl))))<|go 4 ?_;refine r2u J J J J J<|r2u J J J J J<|r2u J J J J J<|r2u J J J J J<|r2u J J J J J<|r2u J J J J J<|r2u J J J J J<|r2u J J J J J<|go 16 ?_;exact Xc l () results72 (by rw [Zuf i O (okAt_s e)]) aA Za
  .refine Qj (λ_=>False) [(0,0),(1,1),(2,0),(3,0),(4,0),(5,0),(6,0),(7,2),(8,2),(9,2),(10,2),(11,2),(12,2),(13,2),(14,2),(15,0),(16,0)]<|go 1<|Xq (Zs 2 [51,52,53] (Zhw h.f h.t h.o h.x h.y h.z)) λ_ _=>?_;refine Xp J J (Qv (dF (Xi J J) (vB (by rw [show Bj _ _ _ _ _ _=_ from e];rfl))))<|go 2 ?_;refine r0g (Qv (dF (Zqs J J J) (vB (aJ O)))) J J J J J<|go 21 ⟨O,?_⟩;exact Yv (i+1) ⟨O1,λk r=>by rcases bL.1 r with m|m;exact n k m;subst m;exact okAt_0 e j⟩ O1 K1 aA
  .refine Zl (Ny (ps.getD (i-1) G0) ((ps.getD (i-1) G0).2.1) 1 54 J J Zk O7)<|Zl (Ny (ps.getD (i-1) G0) ((ps.getD (i-1) G0).2.2.1) 1 55 J J Zk O7)<|Zl (Ny (ps.getD (i-1) G0) ((ps.getD (i-1) G0).2.2.2) 1 56 J J Zk O7)<|Qj (λ_=>False) [(0,0),(1,1),(2,0),(3,0),(4,0),(5,0),(6,0),(7,0),(8,0),(9,0),(10,0),(11,0),(12,0),(13,1),(14,0),(15,0),(16,0)]<|go 1<|Xq (Zs 2 [51,52,53] (Zhw h.f h.t h.o h.x h.y h.z)) λ_ _=>?_;refine Xp J J (Qv (dF (Xi J J) (vB (by rw [show Bj _ _ _ _ _ _=_ from e];rfl))))<|go 2 ?_;refine r0g (Qv (dT (Zqs J J J) (vB (aN O)))) J J J J J<|go 4 ⟨O,?_⟩;refine r0g (Qv (Yh 1 (i-1) J J J J Zp Zdq Zaa)) J J J J J<|r0g (Qv (Po 1 G0 J J J Zp pG)) J J J J J<|go 1 ?_;refine Ygy J J J J J (Ea 2 (Zzq (Hr (t _ Zk) (Zg5 (n (i-1) O))) (Hr h e)) J J J K2 call135 (Zx 54 J J J (Zx 55 J J J (Zx 56 J J J (Zx 51 J J J (Zx 52 J J J (Zx 53 J J J Zu)))))) J u.h) λ_ _=>go 5 ?_;refine Pr J (λp=>?_) (λp=>?_)
   .refine go 11 ?_;exact Xc l () results72 (by rw [Zuf i O ((Zr4 e j).trans (Bc ‹_›))]) aA Za
   .refine go 7 ⟨O,?_⟩;exact Yv (i+1) ⟨O1,λk r=>by rcases bL.1 r with m|m;exact n k m;subst m;exact(Zr4 e j).trans (Dx ‹_›)⟩ O1 K1 aA
 .obtain rfl:i=ps.length:=O;refine go 11<|Yn 33 J (λq=>?_) (λq=>?_)
  .refine go 8 ?_;exact Xc l () results72 (by rw [Zug n];first|exact vB (dD.2 O)|exact vB (aJ O)) aA Za
  .refine go 8 ?_;exact Xc l () results72 (by rw [Zug n];first|exact vB (dD.2 O)|exact vB (aJ O)) aA Za
def Oa(c:List Int)(a b d:Int):List Int:=Yf (Le (tzl c) a b d) (d^(6-c.length))
def Zjo(h:a.natAbs<=3600000):bl a.natAbs<=22:=(Qg 22 _).2 (bA h O3)
theorem Zli(h:bl d.natAbs<=22):∀k,k<=5->bl (d^k).natAbs<=132
 | 0,_=>by rw [cW];decide
 | k+1,g=>by
  have e:∀k,bl (d^k).natAbs<=22*k+1:=λk=>by
   induction k with
   | zero=>rw [cW];decide
   | succ k j=>rw [dX];have:=Xg (d^k) d;omega
  have:=e (k+1);omega
theorem Znk(h:∀a∈c,Me a)(t:1<=c.length/\c.length<=6){b:Int}(r:a.natAbs<=3600000)(s:b.natAbs<=3600000)(F:1<=d/\d<=3600000) :
  Vp (tzl c)/\¬Zjd (tzl c) a b d/\Vp (Le (tzl c) a b d)/\bl (d^(6-c.length)).natAbs<=132/\(∀i,bl (cf (Le (tzl c) a b d) i*d^(6-c.length)).natAbs<=65536)/\Vp (Oa c a b d)/\Sz 1000 (Oa c a b d)/\(Oa c a b d).length<=6:=by
 have w:(tzl c).length<=6:=aB (Kl c) t.2;have n:Sz 64 (tzl c):=(ab_in h).sz O3;have o:=Zjo r;have p:=Zjo s;have g:bl d.natAbs<=22:=Zjo O;have l:=cp_not (cp_nf n o p g O O);have hs:Sz 300 (Le (tzl c) a b d):=by
  have h:=Zgv (x:=a) (y:=b) (z:=d) (m:=22) n o p g ((tzl c).length-1);unfold Le;split
  .exact Sz.nil _
  .refine(Sz.tzl h).mono ?_;have:((tzl c).length-1)*(22+1)<=5*23:=aT O O;omega
 have v:Tr (Le (tzl c) a b d):=by
  unfold Le;split
  .exact .inl rfl
  .exact Qa _
 have j:(Le (tzl c) a b d).length<=6:=aB (Zc8 _ _ _ _) w;have u:=Zli g (6-c.length) O;have q:∀i,bl (cf (Le (tzl c) a b d) i*d^(6-c.length)).natAbs<=500:=λi=>by have B:=hs i;have D:=Xg (cf (Le (tzl c) a b d) i) (d^(6-c.length));omega
 have e:Sz 1000 (Oa c a b d):=λi=>by unfold Oa;rw [Xx];have:=q i;omega
 have k:(Oa c a b d).length<=6:=aB Mp j;exact⟨⟨n.mono O,Qa _,O⟩,l,⟨hs.mono O,v,O⟩,u,λi=>by have:=q i;omega,⟨e.mono O,Ob,O⟩,e,k⟩
def Zpf(zs:List (SL×List Int)):List (SL×List Int):=zs ++ List.replicate (3-zs.length) ((none,0,0),[])
theorem Yb1(h:zs.length<=3):(Zpf zs).length=3:=by unfold Zpf;rw [aS,aV];omega
theorem Ya5(hi:i<3)(h:zs.length=i):(Zpf zs).set i z=Zpf (zs ++ [z]):=by subst h;unfold Zpf;rw [List.set_append_right _ _ (aK _),kY,aS,dV];congr 1;obtain⟨k,e⟩:∃k,3-zs.length=k+1:=⟨2-zs.length,O⟩;rw [e,jH,nJ,show 3-(zs.length+[z].length)=k by simp;omega];rfl
theorem Zqz{t:Nat}{s:SL}(g:zs.length=i)(h:∀t,t<i->(zs.getD t d0).2=f t)(j:t<i+1):((zs ++ [(s,f i)]).getD t d0).2=f t:=by
 subst g;rw [aC];rcases bL.1 j with e|e
 .rw [cQ e,<-aC];exact h t e
 .subst e;simp
theorem Zy2{z:List Int}{b:Int}(k:zs.length=3)(h:∀t,t<3->(zs.getD t d0).2=Oa (Zt t x y z) a b d):∃l m n:SL,zs=[(l,Oa x a b d),(m,Oa y a b d),(n,Oa z a b d)]:=by
 match zs,k with
 | [o,p,q],_=>
  have e:=h 0 O3;have g:=h 1 O3;have j:=h 2 O3;simp [Zt]at e g j;exact⟨o.1,p.1,q.1,by rw [<-e,<-g,<-j]⟩
open Go.RowKit Below
variable {P:Program} {N:Nat} {sc:Nat->Prop} {env env':Xz} {H H':Hp} {Q Q':Exit->Act->World->Prop}
def Yae{n:Nat}{e:String}{w:World}(h:Rows P e args w R):RowsIn Fence.wide n P e args w R:=λc g _=>
 let ⟨v,w',r,s⟩:=h c g;⟨v,w',r,stepsIn_wide.2 s⟩
def noQ:Exit->Act->World->Prop:=λ_ _ _=>False
section
variable {ops:Array Oper} {C:World->World->Prop}
def wpAnyZ(P:Program)(ops:Array Oper)(ts:List Nat)(C:World->World->Prop)(Q:Exit->Act->World->Prop):Nat->Array Bool->Act->World->Prop
 | 0,_,_,_=>False
 | e+1,listed,a,w=>if Iy ops ts listed=true then wpAnyIn Fence.wide 0 P .any ops Q (e+1) listed a w else
  (Region.ready .any ops listed=[]->False)/\
  ∀i∈Region.ready .any ops listed,wpOp P ops noQ i (λh g=>C w g/\wpAnyZ P ops ts C Q e (listed.setIfInBounds i true) h g) a w
inductive Dep (ops:Array Oper) (i:Nat):Nat->Prop
 | base {j:Nat} {o:Oper} {e:Edge} : ops[j]? = some o->e∈o.after->Region.binds .any e=true->e.on=i->Dep ops i j
 | step {j:Nat} {o:Oper} {e:Edge} : ops[j]? = some o->e∈o.after->Region.binds .any e=true->Dep ops i e.on->Dep ops i j
def Ydl(ops:Array Oper)(i:Nat):Nat->List Nat
 | 0=>[]
 | k+1=>match ops[k]? with
  | some o=>if o.after.any (λe=>Region.binds .any e && (e.on == i || (Ydl ops i k).contains e.on))then k::Ydl ops i k else Ydl ops i k
  | none=>Ydl ops i k
def Clo(ops:Array Oper)(listed:Array Bool):Prop:=∀k o,ops[k]? = some o->listed.getD k true=true->∀e∈o.after,Region.binds .any e=true->listed.getD e.on true=true
theorem Yh4{l:Array Bool}{x:Nat}(h:l.getD x false=true):l.getD x true=true:=by rcases bE x l.size with e|e<;>simp_all
theorem Clo.set{j:Nat}(t:Clo ops listed)(u:j∈Region.ready .any ops listed):Clo ops (listed.setIfInBounds j true):=λk o m s e r q=>by
 obtain⟨v,w,n,g⟩:=mem_ready.1 u;have p:listed.getD e.on true=true:=by
  by_cases l:j=k
  .subst l;rw [n]at m;cases m;exact Yh4 (g _ r q)
  .rw [getD_set_ne true l]at s;exact t k o m s e r q
 by_cases h:j=e.on
 .subst h;by_cases hs:e.on<listed.size<;>simp_all
 .rw [getD_set_ne true h];exact p
end
def Zt8(ops:Array Oper)(ts:List Nat):List (Nat×Nat)->Array Bool->Bool
 | [],_=>true
 | (i,1)::rest,listed=>(Region.ready .any ops listed == [i]) && !(Iy ops ts listed) && Zt8 ops ts rest (listed.setIfInBounds i true)
 | (i,3)::rest,listed=>false
 | (i,_)::rest,listed=>(Region.ready .any ops listed).contains i && Region.free .any ops listed i && !(ts.contains i) && ts.all (λj=>(Ydl ops i ops.size).contains j) && Zt8 ops ts rest (listed.setIfInBounds i true)
def YL(P:Program)(N:Nat)(sc:Nat->Prop)(ops:Array Oper)(Q:Exit->Act->World->Prop)(k:Nat)(listed:Array Bool)(env:Xz)(H:Hp):Prop:=
 ∀a w,Sat N sc env H a w->wpAnyIn Fence.wide 0 P .any ops Q (k+1) listed a w
end Go.Sky
namespace Go.Sky
open Go.RowKit Below
variable {P:Program} {N:Nat} {sc:Nat->Prop} {env env':Xz} {H H':Hp} {Q Q':Exit->Act->World->Prop}
def CalY(P:Program)(f:FuncId)(h:List Value)(a:List Pc)(j:Prop){G:Type}(k:G->Prop)(i:G->Value):Prop:=
 ∀(l:Nat) (J:World->Prop) (w:World),(∀p∈a,p.holds w)->
  (∀g,k g->∀b,Below w.heap.size w b->YieldAt Fence.wide 0 P l #[i g] b λe d=>e= .returned (.bool false)/\J d)->
  Calls P f (.func (.yield l) #[] #[]::h).toArray w λe c=>(∃v,e= .returned v)/\((j/\Below w.heap.size w c)\/J c)
def FPostY(P:Program)(fn:Func)(b:World)(c:Prop)(J:World->Prop):Exit->Act->World->Prop:=
 bodyPost P fn λe a=>(∃v,e= .returned v)/\((c/\Below b.heap.size b a)\/J a)
def YJ(P:Program)(b:World)(l:Nat){G:Type}(f:G->Prop)(d:G->Value)(J:World->Prop):Prop:=
 ∀g,f g->∀a,Below b.heap.size b a->YieldAt Fence.wide 0 P l #[d g] a λe c=>e= .returned (.bool false)/\J c
theorem Yam{fn:Func}{tmps:Array Value}{w:World}(a:fn.results=#[]):(results fn tmps).run P w= .ok (.tuple #[]) w:=by rw [Zh8,a];simp
end Go.Sky
namespace Go.Sky
open Go.RowKit Below
variable {P:Program} {N:Nat} {sc:Nat->Prop} {env env':Xz} {H H':Hp} {Q Q':Exit->Act->World->Prop}
end Go.Sky
namespace Go.Sky
open Go.RowKit Below
variable{f:FuncId}{vs:List Value}{pre:List Pc}{o:Oper}{a:Act}{w:World}{K K':Act->World->Prop}{r:Nat}{ρ:Operand->Value}{Q1:Exit->Act->World->Prop}
variable {P:Program} {N:Nat} {sc:Nat->Prop} {env env':Xz} {H H':Hp} {Q Q':Exit->Act->World->Prop}
def Zdi(P:Program)(fn:Func)(d:World)(pre:List Pc)(al:Bool){G:Type}(φ:G->Prop)(val:G->Value)(c:G->List Pc):Exit->Act->World->Prop:=
  bodyPostM Fence.wide 0 P fn λe h => ∃ g, e = .returned (val g) /\ φ g /\ Below d.heap.size d h /\
        ∀p∈c g,p.holds h/\p.own=false/\∀b,p.fp b->d.heap.size<=b\/(al=true/\∃q∈pre,q.fp b)
theorem Zwa  {fn:Func} {c:Code}   {al:Bool} {G:Type} {φ:G->Prop} {val:G->Value} {k:G->List Pc} {N:Nat}
    (F:P.funcs[f]? = some fn) (d:fn.body=some c) (B:fn.ntmps=N) (s:Nat.ble vs.length N=true) (y:AllRo pre)
    (h:∀w0 (sc:Nat->Prop),(∀b,w0.heap.size<=b->sc b)->(∀b,sc b->w0.heap.size<=b\/∃q∈pre,q.fp b)->
      E P N sc c (Zdi P fn w0 pre al φ val k) (Qd 0 vs) ((0,Yt w0 (λ_=>False))::Yr 1 pre)) :
    Cal P f vs.toArray pre al φ val k:=λw M=>by
  refine(callsIn_wide (n:=0)).1 (callsIn_of_wp_marks F d aA (wpIn_wide.2 (h w (λb=>w.heap.size<=b\/∃q∈pre,q.fp b) (λb d=> .inl d) (λb d=>d) _ w ?_)));have z:vs.length<=N:=by simpa using s
  refine⟨by simp [B];omega,rfl,λt v R=>?_,λi p hi=>?_,λi j p q I hi S x b d D=>?_,λi p m hi b d=>?_⟩
  . have l:=(Hc vs 0 t v R).2;have l:vs.toArray[t]? = some v:=by simpa using l
    have u:=(aO.1 l).1;rw [bH,eR u,l];rfl
  . by_cases g:0=i
    . subst g;rw [Zv]at hi;cases hi;exact Chg.refl _ w
    . rw [Zm g]at hi;exact M p (Oe pre 1 i p hi).2
  . by_cases g:0=i
    . subst g;rw [Zv]at hi;cases hi;cases x
    . rw [Zm g]at hi;rw [y.mem p (Oe pre 1 i p hi).2]at x;cases x
  . rw [Zm (λe=>m e.symm)]at hi;exact .inr ⟨p,(Oe pre 1 i p hi).2,d⟩
def onlyR(Q:Exit->Act->World->Prop):Exit->Act->World->Prop:=Gu Q
def Eu:¬LetsOut (Gu Q):=λ⟨_,_,h⟩=>h
theorem Yg4(d:∀c,o.op≠ .defer c)(h:o.wp P a w K (Gu Q)):o.wpIn (Fence.wide.inRound r) 0 P a w K Q:=by
  refine⟨λ_ _=>trivial,?_⟩;unfold Oper.wp at h;show o.uponIn (Fence.wide.inRound r) 0 P a K Q ((o.semAt (some r) a.eval).run P w);rw [Oper.semAt_some r _ o d];generalize (execOp a.eval o).run P w=x at *;cases x with
  | ok n g=>
    cases n<;>simp only [Oper.upon,Oper.uponIn]at h ⊢
    case value=>exact h
    case skip=>exact h
    case defer=>exact h
    case enter f args=>
      refine⟨λh=>(by cases h),CallsIn.inRound r (callsIn_wide.2 (h.mono λe i b=>?_))⟩;cases e with
      | returned v=>exact b
      | panicked c=>exact b.elim
      | outgrown=>exact absurd b Eu
    case row row args=>exact⟨λh=>(by cases h),Yae (n:=0) h⟩
  | halt x g=>
    cases x<;>simp only [Oper.upon]at h
    case panic u=>exact h.elim
def Zmk(l:List Oper):Prop:=∀o∈l,∀c,o.op≠ .defer c
theorem Zmp{ops:Array Oper}{r:Nat} : ∀(l:List Oper) (a:Act) (w:World),Zmk l->wpList P ops (Gu Q) l a w->wpListIn (Fence.wide.inRound r) 0 P ops Q l a w
  | [],_,_,_,h=>h
  | o::l,a,w,hnd,h=>by
    unfold wpList at h;unfold wpListIn;split
    . rename_i c;simp only [c,kG]at h;exact Oper.wpIn_mono (λa w d=>Zmp l a w (λo b=>hnd o (bJ _ b)) d) (Yg4 (hnd o (bX ..)) (h.resolve_right λh=>Eu h.2))
    . rename_i c;simp only [c]at h;exact⟨λ_ _=>trivial,Zmp l _ w (λo b=>hnd o (bJ _ b)) h⟩
def Yap{id:Nat}{l:List Oper}(b:Zmk l)(h:L P N sc l.toArray l (Gu Q) env H)(hs:Sat N sc env H a w):(Code.region id l.toArray false).wpIn (Fence.wide.inRound r) 0 P Q a w:=
  wpIn_region_lit (Zmp l a w b (h a w hs))
def fx(l:Nat)(o:Obj):Pc:=
  { own:=false,fp:=λb=>b=l,holds:=λw=>w.heap[l]? = some o
    lt:=λw b h c=>by subst c;exact(aO.1 h).1
    stable:=λw g h d=>(d.block l (aO.1 h).1 (λe=>e rfl)).trans h }
def Zd9(o:Oper):Bool:=match o.op with
  | .build ..=>true
  | .store ..=>true
  | .load ..=>true
  | .alloc ..=>true
  | _=>false
theorem Ya0(h:Zd9 o=true){w':World}{d:Deferred} : (execOp ρ o).run P w≠ .ok (.defer d) w':=λb=>by
  unfold Zd9 at h;cases ho:o.op<;>simp only [ho]at h<;>try (cases h;done)
  all_goals
    simp only [execOp,ho,Sem.run_bind]at b;revert b;generalize Sem.run P _ w=r;cases r<;>simp [Result.andThen,Sem.run_pure]
theorem Zic(a:Act)(ds:List Deferred)(d:Option Tmp)(v:Value):({ a with defers:=ds } : Act).put d v={ a.put d v with defers:=ds }:=by cases d<;>rfl
theorem Yg5    {ds:List Deferred}   (i:Zd9 o=true) (g:∀a w,K a w->K' { a with defers:=ds } w)
    (k:∀e a w,¬Q1 e a w) (h:o.wp P a w K Q1):o.wp P { a with defers:=ds } w K' Q:=by
  unfold Oper.wp at h ⊢;have j:=λd w'=>Ya0 (P:=P) i (ρ:=a.eval) (w:=w) (w':=w') (d:=d);show o.upon P _ K' Q ((execOp a.eval o).run P w);generalize (execOp a.eval o).run P w=x at *;cases x with
  | ok n w'=>
    cases n<;>simp only [Oper.upon]at h ⊢
    case value=>rw [Zic];exact g _ _ h
    case skip=>rw [Zic];exact g _ _ h
    case defer d=>exact absurd rfl (j d w')
    case enter f args=>
      refine h.mono λe l b=>?_;cases e with
      | returned v=>show K' (({ a with defers:=ds } : Act).put o.dst v) l;rw [Zic];exact g _ _ b
      | panicked c=>exact(k _ _ _ b).elim
      | outgrown=>obtain⟨_,_,h⟩:=b;exact(k _ _ _ h).elim
    case row row args=>exact h.mono λ_ _ b=>by rw [Zic];exact g _ _ b
  | halt x w'=>
    cases x<;>simp only [Oper.upon]at h
    case panic u=>exact(k _ _ _ h).elim
theorem Zmq{ops:Array Oper}{ds:List Deferred} : ∀(l:List Oper) (a:Act) (w:World),l.all Zd9=true->wpList P ops (Gu λe a w=>Q e { a with defers:=ds } w) l a w->wpList P ops Q l { a with defers:=ds } w
  | [],_,_,_,h=>h
  | o::l,a,w,hnd,h=>by
    simp only [lX,aP]at hnd;unfold wpList at h ⊢;split
    . rename_i d;simp only [d,kG]at h;have h:=h.resolve_right λh=>Eu h.2;refine .inl (Yg5 (Q1:=noQ) hnd.1 (λa w g=>Zmq l a w hnd.2 g) (λ_ _ _ h=>h) ?_);unfold Oper.wp at h ⊢;revert h;generalize (execOp a.eval o).run P w=x;intro h;cases x with
      | ok n i=>
        cases n<;>simp only [Oper.upon]at h ⊢
        case value=>exact h
        case skip=>exact h
        case defer=>exact h
        case enter f args=>
          refine h.mono λe j b=>?_;cases e with
          | returned v=>exact b
          | panicked c=>exact b
          | outgrown=>exact absurd b Eu
        case row row args=>exact h
      | halt x i=>
        cases x<;>simp only [Oper.upon]at h ⊢
        case panic u=>exact h
    . rename_i d;rw [aD d]at h;rw [Zic];exact Zmq l _ w hnd.2 h
end Go.Sky
namespace Go.Sky
open Go.RowKit Below
variable{a:Act}{w:World}{i:Nat}
variable {P:Program} {N:Nat} {sc:Nat->Prop} {env env':Xz} {H H':Hp} {Q Q':Exit->Act->World->Prop}
abbrev ALL:Nat->Prop:=λ_=>True
def FpSub:Hp->Hp->Prop
 | [],_=>True
 | (i,p)::r,H=>(∃q,lk H i=some q/\p.own=q.own/\∀b,p.fp b->q.fp b)/\FpSub r H
theorem FpSub.lk:∀{H' H:Hp},FpSub H' H->∀i p,lk H' i=some p->∃q,lk H i=some q/\p.own=q.own/\∀b,p.fp b->q.fp b
 | [],_,_,_,_,h=>by cases h
 | (k,u)::r,H,h,i,p,hi=>by
  by_cases c:k=i
  .subst c;rw [Zv]at hi;cases hi;exact h.1
  .rw [Zm c]at hi;exact FpSub.lk h.2 i p hi
theorem Sat.re{w':World}(hs:Sat N sc env H a w)(l:∀i p,lk H' i=some p->∃q,lk H i=some q/\p.own=q.own/\∀b,p.fp b->q.fp b)(n:∀i p,lk H' i=some p->p.holds w'):Sat N ALL env H' a w':=
 ⟨hs.size,hs.defers,hs.env,n,λi j p q f hi o r b m c=>by obtain⟨s,h,g,d⟩:=l i p hi;obtain⟨t,k,_,e⟩:=l j q o;exact hs.sep i j s t f h k (g▸r) b (d b m) (e b c),λ_ _ _ _ _ _=>trivial⟩
def FpN:Hp->Hp->Prop
 | [],_=>True
 | (i,p)::r,H=>(p.own=true\/∃q,lk H i=some q/\∀b,p.fp b->q.fp b)/\FpN r H
theorem FpN.lk:∀{H' H:Hp},FpN H' H->∀i p,lk H' i=some p->p.own=true\/∃q,lk H i=some q/\∀b,p.fp b->q.fp b
 | [],_,_,_,_,h=>by cases h
 | (k,u)::r,H,h,i,p,hi=>by
  by_cases c:k=i
  .subst c;rw [Zv]at hi;cases hi;exact h.1
  .rw [Zm c]at hi;exact FpN.lk h.2 i p hi
theorem lk3{p q:Pc}{r:Pc}(h:lk ((90,p)::(91,q)::H) i=some r):(i=90/\r=p)\/(i=91/\r=q)\/(i≠90/\i≠91/\lk H i=some r):=by
 by_cases b:90=i
 .subst b;rw [Zv]at h;cases h;exact .inl ⟨rfl,rfl⟩
 .rw [Zm b]at h;by_cases c:91=i
  .subst c;rw [Zv]at h;cases h;exact .inr (.inl ⟨rfl,rfl⟩)
  .rw [Zm c]at h;exact .inr (.inr ⟨λe=>b e.symm,λe=>c e.symm,h⟩)
theorem lk3'{p q:Pc}(b:i≠90)(c:i≠91):lk ((90,p)::(91,q)::H) i=lk H i:=by rw [Zm (λe=>b e.symm),Zm (λe=>c e.symm)]
theorem Sat.turn{l D:Nat}{o m g:Obj}(hs:Sat N ALL env ((90,fx l o)::(91,fx D g)::H) a w)(f:l≠D)(r:∀i p,i≠90->i≠91->lk H i=some p->¬p.fp l) :
  Sat N ALL env ((90,fx l m)::(91,fx D g)::H) a (w.putObj l m):=by
 have q:w.heap[l]? = some o:=hs.hold 90 _ rfl;have n:w.heap[D]? = some g:=hs.hold 91 _ rfl;refine hs.re (λi p hi=>?_) (λi p hi=>?_)
 .rcases lk3 hi with⟨rfl,rfl⟩|⟨rfl,rfl⟩|⟨b,c,hi⟩
  .exact⟨_,rfl,rfl,λ_ h=>h⟩
  .exact⟨_,rfl,rfl,λ_ h=>h⟩
  .exact⟨p,by rw [lk3' b c];exact hi,rfl,λ_ h=>h⟩
 .rcases lk3 hi with⟨rfl,rfl⟩|⟨rfl,rfl⟩|⟨b,c,j⟩
  .exact World.putObj_heap_same (aO.1 q).1
  .exact(World.putObj_heap_other (λe=>f e.symm)).trans n
  .refine p.stable _ _ (hs.hold i p (by rw [lk3' b c];exact j)) ⟨rfl,rfl,rfl,O7,λk s d=>World.putObj_heap_other (λe=>d ?_)⟩;subst e;exact r i p b c j
theorem Sat.round(hs:Sat N sc env H a w)(d:Nat)(v:Value)(b:Nat.blt d N=true):Sat N sc ((d,v)::env) H { tmps:=(#[d].zip #[v]).foldl (λt (p,v)=>t.setIfInBounds p v) a.tmps,defers:=[] } w:=by
 have h:=hs.put d v b;have e:(a.put (some d) v)={ tmps:=(#[d].zip #[v]).foldl (λt (p,v)=>t.setIfInBounds p v) a.tmps,defers:=[] }:=by show({ a with tmps:=a.tmps.setIfInBounds d v } : Act)=_;rw [<-hs.defers];simp
 rw [<-e];exact h
theorem Lm{ops:Array Oper}{Q1 k:Exit->Act->World->Prop}(b:∀e a w,Q1 e a w->k e a w):∀(l:List Oper) (a:Act) (w:World),wpList P ops Q1 l a w->wpList P ops k l a w
 | [],_,_,h=>b _ _ _ h
 | o::l,a,w,h=>by
  unfold wpList at h ⊢;split
  .rename_i g;rw [aF g]at h;rcases h with h|⟨p,m,j,q⟩
   .refine .inl ?_;unfold Oper.wp at h ⊢;revert h;generalize (execOp a.eval o).run P w=x;intro h;cases x with
    | ok n j=>
     cases n<;>simp only [Oper.upon]at h ⊢
     case value=>exact Lm b l _ _ h
     case skip=>exact Lm b l _ _ h
     case defer=>exact Lm b l _ _ h
     case enter f args=>
      refine h.mono λe r d=>?_;cases e with
      | returned v=>exact Lm b l _ _ d
      | panicked c=>exact b _ _ _ d
      | outgrown=>obtain⟨a,w,h⟩:=d;exact⟨a,w,b _ _ _ h⟩
     case row row args=>exact h.mono λ_ _ d=>Lm b l _ _ d
    | halt x j=>
     cases x<;>simp only [Oper.upon]at h ⊢
     case panic u=>exact b _ _ _ h
   .exact .inr ⟨p,m,j,b _ _ _ q⟩
  .rename_i g;rw [aD g]at h;exact Lm b l _ _ h
end Go.Sky
namespace Go.Sky
open Go.RowKit Below
variable{f:FuncId}{fn:Func}{lb vs:List Value}{pre:List Pc}{ops:Array Oper}{o:Oper}{ts:Array Value}{rest:List Oper}{d:Nat}{w0 W:World}{M:Nat->Prop}{x:Operand}{ops':List Operand}{tys:Array TypeId}{Jx:World->Prop}
variable {P:Program} {N:Nat} {sc:Nat->Prop} {env env':Xz} {H H':Hp} {Q Q':Exit->Act->World->Prop}
def YJI(P:Program)(w0:World)(l:Nat)(M:Nat->Prop)(J:Nat->World->Prop)(Jx:World->Prop){α G:Type}(xs:List α)(ys:α->G->List Value)(h:α->G->List Pc):Prop:=
 ∀k x g,xs[k]? = some x->∀W a,J k W->w0.heap.size<=W.heap.size->Below W.heap.size W a->(∀p∈h x g,p.holds a/\p.own=false/\∀b,p.fp b->W.heap.size<=b)->
  YieldAt Fence.wide 0 P l (ys x g).toArray a λe c=>(e= .returned (.bool true)/\J (k+1) c/\Chg (λb=>M b\/w0.heap.size<=b) a c)\/(e= .returned (.bool false)/\Jx c/\Chg (λb=>M b\/w0.heap.size<=b) a c)
def Zjr(J:World->Prop):Prop:=∀W a,J W->Below W.heap.size W a->J a
def Yjv(P:Program)(f:FuncId)(lb:List Value)(pre:List Pc){α G:Type}(xs:List α)(ys:α->G->List Value)(a:α->G->List Pc):Prop:=
 ∀(l:Nat) (M:Nat->Prop) (J:Nat->World->Prop) (Jx:World->Prop) (w:World),
  (∀p∈pre,p.holds w)->(∀p∈pre,∀b,p.fp b->¬M b)->(∀k,Zjr (J k))->Zjr Jx->J 0 w->YJI P w l M J Jx xs ys a->
  Calls P f (.func (.yield l) #[] #[]::lb).toArray w λe c=>(∃v,e= .returned v)/\(J xs.length c\/Jx c)
def Yfd(P:Program)(fn:Func)(n:Nat)(J:Nat->World->Prop)(Jx:World->Prop):Exit->Act->World->Prop:=
 bodyPost P fn λe a=>(∃v,e= .returned v)/\(J n a\/Jx a)
theorem Zv9   {c:Code}   {α G:Type} {xs:List α} {ys:α->G->List Value} {n:α->G->List Pc} {N:Nat}
  (hf:P.funcs[f]? = some fn) (a:fn.body=some c) (V:fn.ntmps=N) (z:Nat.ble (lb.length+1) N=true) (F:AllRo pre)
  (h:∀(l:Nat) (M:Nat->Prop) (J:Nat->World->Prop) (Jx:World->Prop) w0 (sc:Nat->Prop),(∀b,w0.heap.size<=b->sc b)->(∀p∈pre,∀b,p.fp b->b<w0.heap.size/\¬M b)->(∀k,Zjr (J k))->Zjr Jx->J 0 w0->YJI P w0 l M J Jx xs ys n->
   E P N sc c (Yfd P fn xs.length J Jx) (Qd 0 (.func (.yield l) #[] #[]::lb)) ((0,Yt w0 (λ_=>False))::Yr 1 pre)) :
  Yjv P f lb pre xs ys n:=λl M J Jx w R hm S u s Y=>by
 refine calls_of_wp hf a (h l M J Jx w (λb=>w.heap.size<=b\/∃q∈pre,q.fp b) (λb a=> .inl a) (λp m b a=>⟨p.lt w b (R p m) a,hm p m b a⟩) S u s Y _ w ?_);have I:lb.length+1<=N:=by simpa using z
 refine⟨by simp [V];omega,rfl,λt v ht=>?_,λi p hi=>?_,λi j p q a0 hi hj D b a Z=>?_,λi p y hi b a=>?_⟩
 .have r:=(Hc (.func (.yield l) #[] #[]::lb) 0 t v ht).2;have r:(Value.func (.yield l) #[] #[]::lb).toArray[t]? = some v:=by simpa using r
  have B:=(aO.1 r).1;rw [bH,eR B,r];rfl
 .by_cases g:0=i
  .subst g;rw [Zv]at hi;cases hi;exact Chg.refl _ w
  .rw [Zm g]at hi;exact R p (Oe pre 1 i p hi).2
 .by_cases g:0=i
  .subst g;rw [Zv]at hi;cases hi;cases D
  .rw [Zm g]at hi;rw [F.mem p (Oe pre 1 i p hi).2]at D;cases D
 .rw [Zm (λe=>y e.symm)]at hi;exact .inr ⟨p,(Oe pre 1 i p hi).2,a⟩
def LI(P:Program)(N:Nat)(sc:Nat->Prop)(ops:Array Oper)(rest:List Oper)(Q:Exit->Act->World->Prop)(env:Xz)(H:Hp):Prop:=
 ∀a w,Sat N sc env H a w->wpListIn Fence.wide 0 P ops Q rest a w
def Ydb{id:Nat}{l:List Oper}(h:LI P N sc l.toArray l Q env H):E P N sc (.region id l.toArray false) Q env H:=λa w hs=>
 (wpIn_wide (n:=0)).1 (wpIn_region_lit (h a w hs))
theorem Zf0(a:o.guard=none):Region.wanted o (yielded ops ts)=true:=by simp [Region.wanted,a]
theorem Ms{v:Value}(g:Nf P N sc o env H v)(c:o.dst=some d)(h:LI P N sc ops rest Q ((d,v)::env) H)(e:o.guard=none:=by rfl)(b:Nat.blt d N=true:=by rfl):LI P N sc ops (o::rest) Q env H:=λa w hs=>by unfold wpListIn;rw [aF (Zf0 e)];refine⟨λ_ _=>trivial,?_⟩;show o.uponIn Fence.wide 0 P a _ Q ((execOp a.eval o).run P w);rw [g a w hs];show wpListIn Fence.wide 0 P ops Q rest (a.put o.dst v) w;rw [c];exact h _ w (hs.put d v b)
def Cz(h:X N sc .normal Q env H):LI P N sc ops [] Q env H:=λa w hs=>h a w hs
theorem Sat.base {u r:World}   {a:Act} (hs:Sat N sc env H a u) (n:∀p∈pre,∀b,p.fp b->b<w0.heap.size/\¬M b) (t:AllRo pre) (c:HSub (Yr 1 pre) H)
  (l:Chg (λb=>M b\/w0.heap.size<=b) u r):Sat N sc env ((0,Yt r (λ_=>False))::Yr 1 pre) a r:=by
 refine⟨hs.size,hs.defers,hs.env,λi p hi=>?_,λi j p q D hi G s b v w=>?_,λi p m hi b v=>?_⟩
 .by_cases g:0=i
  .subst g;rw [Zv]at hi;cases hi;exact Chg.refl _ _
  .rw [Zm g]at hi;have F:=(Oe pre 1 i p hi).2;refine p.stable _ _ (hs.hold i p (c.lk i p hi)) ⟨l.os,l.tape,l.output,l.size,λk z B=>l.block k z (λy=>?_)⟩;have:=n p F k (fO.1 B);rcases y with h|h
   .exact this.2 h
   .omega
 .by_cases g:0=i
  .subst g;rw [Zv]at hi;cases hi;cases s
  .rw [Zm g]at hi;rw [t.mem p (Oe pre 1 i p hi).2]at s;cases s
 .rw [Zm (λe=>m e.symm)]at hi;exact hs.scope i p m (c.lk i p hi) b v
theorem Ybz (pre:List Pc)    {l:Nat}       {J:Nat->World->Prop}  {α G:Type} {xs:List α} {ys:α->G->List Value} {F:α->G->List Pc} 
  {k:Nat} (y:α) (g:G) (hY:YJI P w0 l M J Jx xs ys F) (hy:xs[k]? = some y) (hJ:J k W) (hW:w0.heap.size<=W.heap.size) (n:∀p∈pre,∀b,p.fp b->b<w0.heap.size/\¬M b)
  (ho:o.op= .call { callee:= .value x,args:=ops'.toArray,argTypes:=tys }) (hg:o.guard=none) (hd:o.dst=some d) (hN:Nat.blt d N=true) (hx:ev env x=some (.func (.yield l) #[] #[])) (s:EvL env ops' vs) (V:vs=ys y g)
  (h0:lk H 0=some (Yt W (λ_=>False))) (v:∀p∈F y g,p.own=false/\(∀b,p.fp b->W.heap.size<=b)/\∃i R,lk H i=some R/\∀w,R.holds w->p.holds w)
  (z:AllRo pre) (q:HSub (Yr 1 pre) H)
  (ht:∀c,J (k+1) c->w0.heap.size<=c.heap.size->LI P N sc ops rest Q ((d,.bool true)::env) ((0,Yt c (λ_=>False))::Yr 1 pre))
  (hf:∀c,Jx c->w0.heap.size<=c.heap.size->LI P N sc ops rest Q ((d,.bool false)::env) ((0,Yt c (λ_=>False))::Yr 1 pre)):LI P N sc ops (o::rest) Q env H:=λa w hs=>by
 subst V;have Z:=Kd (hs.hold 0 _ h0);obtain⟨fn,I,j,t,B,m⟩:=hY k y g hy W w hJ hW Z (λp hp=>by obtain⟨h1,h2,i,R,hi,hh⟩:=v p hp;exact⟨hh w (hs.hold i R hi),h1,h2⟩)
 have S:(o.semAt Fence.wide.round a.eval).run P w= .ok (.round l fn I j t) w:=by show(execOp a.eval o).run P w=_;have hm:=s.map hs;have Y:=hs.ev hx;simp [execOp,ho,resolve,invoke,Deferred.ofValue,hm,Y,B,Sem.run_bind]
 unfold wpListIn;rw [aF (Zf0 hg)];refine⟨λ_ _=>trivial,?_⟩;rw [S];refine⟨λh=>(by cases h),m.mono ?_⟩;have D:w0.heap.size<=w.heap.size:=aB hW Z.size;rintro e c (⟨rfl,r,u⟩|⟨rfl,r,u⟩)
 .show wpListIn Fence.wide 0 P ops Q rest (a.put o.dst _) c;rw [hd];exact ht c r (aB D u.size) _ c ((hs.base n z q u).put d _ hN)
 .show wpListIn Fence.wide 0 P ops Q rest (a.put o.dst _) c;rw [hd];exact hf c r (aB D u.size) _ c ((hs.base n z q u).put d _ hN)
theorem Zcq{J:Nat->World->Prop}{n:Nat}{e:Exit}(l:e= .ret\/e= .normal)(m:fn.results=#[])(j:lk H 0=some (Yt W (λ_=>False)))(b:∀k,Zjr (J k))(c:Zjr Jx)(h:J n W\/Jx W):X N sc e (Yfd P fn n J Jx) env H:=λa w hs=>by
 have i:=Kd (hs.hold 0 _ j);have g:a.defers=[]/\∃v,(results fn a.tmps).run P w= .ok v w/\((∃u,Ending.returned v= .returned u)/\(J n w\/Jx w)):=
  ⟨hs.defers,_,Yam m,⟨_,rfl⟩,h.imp (λh=>b n W w h i) (λh=>c W w h i)⟩
 rcases l with rfl|rfl<;>exact g
end Go.Sky
namespace Go.Sky
open Go.RowKit Below
variable{w W W':World}{m:Nat}{Mf:Nat->Prop}{Hn:Hp}{a:Act}{fn:Func}{preF:List Pc}{lbv:List Value}
variable {P:Program} {N:Nat} {sc:Nat->Prop} {env env':Xz} {H H':Hp} {Q Q':Exit->Act->World->Prop}
def FpM:Hp->Hp->Prop
 | [],_=>True
 | (i,p)::r,H=>(p.own=true\/∀b,p.fp b->∃j q,lk H j=some q/\q.fp b)/\FpM r H
theorem FpM.lk:∀{H' H:Hp},FpM H' H->∀i p,lk H' i=some p->p.own=true\/∀b,p.fp b->∃j q,lk H j=some q/\q.fp b
 | [],_,_,_,_,h=>by cases h
 | (k,u)::r,H,h,i,p,hi=>by
  by_cases c:k=i
  .subst c;rw [Zv]at hi;cases hi;exact h.1
  .rw [Zm c]at hi;exact FpM.lk h.2 i p hi
structure Kps (sc:Nat->Prop) (w:World) (m:Nat) (Mf:Nat->Prop) (Hn:Hp) (W:World):Prop where
 hold:∀i it,lk Hn i=some it->it.holds W
 sep:∀i j it jt,i≠j->lk Hn i=some it->lk Hn j=some jt->it.own=true->∀b,it.fp b->jt.fp b->False
 scope:∀i it,i≠0->lk Hn i=some it->∀b,it.fp b->sc b
 off:∀i it,lk Hn i=some it->it.own=false->∀b,it.fp b->b<w.heap.size\/m<=b
 mf:∀i it,lk Hn i=some it->it.own=true->∀b,it.fp b->Mf b
def Mof(m:Nat)(H:Hp)(b:Nat):Prop:=(∃i q,lk H i=some q/\q.own=true/\q.fp b)\/m<=b
def Kps.chg(h:Kps sc w m Mf Hn W)(d:∀i c,lk Hn i=some c->Chg (λb=>¬c.fp b) W W'):Kps sc w m Mf Hn W':=
 ⟨λi c hi=>c.stable _ _ (h.hold i c hi) (d i c hi),h.sep,h.scope,h.off,h.mf⟩
def Kps.stays(h:Kps sc w m Mf Hn W)(b:Below W.heap.size W W'):Kps sc w m Mf Hn W':=h.chg λ_ _ _=>Chg.of_below b
theorem Kps.put{d:Nat}{o:Obj}(h:Kps sc w m (Mof m H) Hn W)(c:∀i q,lk H i=some q->∀b,q.fp b->b<w.heap.size)(r:w.heap.size<=d/\d<m):Kps sc w m (Mof m H) Hn (W.putObj d o):=
 h.chg λi g hi=>⟨rfl,rfl,rfl,O7,λk s n=>World.putObj_heap_other (λe=>n λl=>by
  subst e;cases ho:g.own with
  | false=>rcases h.off i g hi ho _ l with h|h<;>omega
  | true=>
   rcases h.mf i g hi ho _ l with⟨j,q,p,_,f⟩|h
   .have:=c j q p _ f;omega
   .omega)⟩
def Kps.sat(h:Kps sc w m Mf Hn W)(b:a.tmps.size=N)(c:a.defers=[])(d:∀t v,lk env t=some v->a.tmps.getD t undef=v):Sat N sc env Hn a W:=⟨b,c,d,h.hold,h.sep,h.scope⟩
def Zmv(H:Hp)(b:World):Prop:=lk H 0=some (Yt b (λ_=>False))/\lk H 92=none
def Mfs(sc:Nat->Prop)(m:Nat)(H:Hp)(b:Nat):Prop:=Mof m H b\/¬sc b
theorem Sat.ps {t M:World} {n:Nat} {d:Hp}  (hs:Sat N sc env ((n,Yt t (Mfs sc m H))::Hn) a M) (o:lk Hn n=none) (a0:n≠0) (V:∀q,lk Hn 0=some q->q.own=false) (hb:m<=t.heap.size)
  (Y:FpM Hn d) (F:∀j q,lk d j=some q->∀b,q.fp b->q.own=true->Mof m H b) (r:∀j q,lk d j=some q->∀b,q.fp b->q.own=false->b<w.heap.size\/m<=b) (z:∀i q,lk H i=some q->∀b,q.fp b->b<w.heap.size):Kps sc w m (Mof m H) Hn M:=by
 have g:∀i c,lk Hn i=some c->lk ((n,Yt t (Mfs sc m H))::Hn) i=some c:=λi c hi=>by
  by_cases R:n=i
  .subst R;rw [o]at hi;cases hi
  .rw [Zm R];exact hi
 have B:∀i c,lk Hn i=some c->c.own=true->∀b,c.fp b->Mof m H b:=λi c hi p b f=>by
  have k:i≠n:=λe=>by subst e;rw [o]at hi;cases hi
  have v:i≠0:=λe=>by subst e;rw [V c hi]at p;cases p
  have I:=hs.scope i c v (g i c hi) b f;have:=hs.sep i n c _ k (g i c hi) (Zv _ _ _) p b f;by_cases l:b<t.heap.size
  .rcases(fO.1 λu=>this ⟨l,u⟩:Mfs sc m H b)with h|h
   .exact h
   .exact absurd I h
  .exact .inr O
 refine⟨λi c hi=>hs.hold i c (g i c hi),λi j c S D hi Z=>hs.sep i j c S D (g i c hi) (g j S Z),λi c y hi=>hs.scope i c y (g i c hi),λi c hi p b f=>?_,B⟩;rcases Y.lk i c hi with h|h
 .rw [p]at h;cases h
 .obtain⟨j,q,u,s⟩:=h b f;cases hqo:q.own with
  | false=>exact r j q u b s hqo
  | true=>
   rcases F j q u b s hqo with⟨i',q',G,_,x⟩|h
   .exact .inl (z i' q' G b x)
   .exact .inr h
def LpAt(l:Nat)(Mf:Nat->Prop)(W:World):Prop:=(∃r,W.heap[l]? = some (.loop r))/\¬Mf l
def RBn(n:Nat)(N:Nat)(sc:Nat->Prop)(Mf:Nat->Prop)(b:Hp){h i:Type}(j:h->Hp)(g:h->Prop)(k:i->Hp)(c:i->Prop)(l:World):Exit->Act->World->Prop:=λe a W=>
 (e= .normal/\∃d,g d/\FpM (j d) b/\∃env',Sat N sc env' ((n,Yt l Mf)::j d) a W)\/(e= .ret/\∃f,c f/\FpM (k f) b/\∃env',Sat N sc env' ((n,Yt l Mf)::k f) a W)
def RAn(n:Nat)(P:Program)(N:Nat)(sc:Nat->Prop)(l:Nat)(Mf:Nat->Prop)(b:Hp)(body:Code){i j:Type}(k:i->Hp)(h:i->Prop)(o:j->Hp)(f:j->Prop)(p:World):Exit->Act->World->Prop:=λe a W=>
 e= .normal/\∃c d,lk d n=none/\(∀q,lk d 0=some q->q.own=false)/\FpM d b/\Sat N sc c ((n,Yt p Mf)::d) a W/\
  ∀g,LpAt l Mf g->∀a W,Sat N sc c ((n,Yt g Mf)::d) a W->body.wpIn (Fence.wide.inRound l) 0 P (RBn n N sc Mf b k h o f g) a W
theorem Zuu:∀(l:List Pc) (n:Nat) (H:Hp) (j:Nat) (q:Pc),lk (adds n l H) j=some q->q∈l\/lk H j=some q
 | [],_,_,_,_,h=> .inr h
 | p::r,n,H,j,q,h=>by
  by_cases b:n=j
  .subst b;rw [show adds n (p::r) H=(n,p)::adds (n+1) r H from rfl,Zv]at h;cases h;exact .inl (bX ..)
  .rw [show adds n (p::r) H=(n,p)::adds (n+1) r H from rfl,Zm b]at h;exact(Zuu r (n+1) H j q h).imp (bJ _) id
@[reducible] def renv:List Nat->List Value->Xz->Xz
 | p::ps,v::vs,env=>renv ps vs ((p,v)::env)
 | _,_,env=>env
theorem Sat.rounds{w:World} : ∀(ps:List Nat) (vs:List Value) {env:Xz} {b:Array Value},(ps.all λp=>Nat.blt p N)=true->Sat N sc env H { tmps:=b,defers:=[] } w->
  Sat N sc (renv ps vs env) H { tmps:=(ps.zip vs).foldl (λt c=>t.setIfInBounds c.1 c.2) b,defers:=[] } w
 | [],_,_,_,_,h=>h
 | _::_,[],_,_,_,h=>h
 | p::ps,v::vs,env,b,hp,h=>by simp only [lX,aP]at hp;exact Sat.rounds ps vs (env:=(p,v)::env) hp.2 (h.put p v hp.1)
theorem Zqa  {d:World}  {al:Bool} {c:Type} {φ:c->Prop} {val:c->Value} {b:c->List Pc}  {D:Nat}
  (e:W.heap[D]? = some (.deferred (some []))) (h:Zag P fn d preF al φ val b .ret { a with defers:=[] } (W.putObj D (.deferred none))) :
  Zdi P fn d preF al φ val b .ret { a with defers:=[{ target:= .collected D,args:=#[] }] } W:=by
 obtain⟨-,v,g,f⟩:=h;exact⟨O7,.inl ⟨_,_,rfl,run_takeDeferred e,⟨v,g,f⟩⟩⟩
theorem e_rfi (g2:List Pc)(w0:World) {g:Operand} {gf i8 g3:Nat} {ps:List Nat} {assign body:Code}   {α G:Type} {xs:List α} {ys:α->G->List Value} {I:α->G->List Pc} {lc:List Oper}    {al:Bool} {GF:Type} {φ:GF->Prop} {val:GF->Value} {S:GF->List Pc}
  {GG GX:Type} (V:Nat->GG->Hp) (c3:Nat->GG->Prop) (HX:GX->Hp) (c4:GX->Prop) (d2:GG)
  (hg:ev env g=some (.func (.func gf) #[] lbv.toArray)) (eg:∀args w,(callFunc gf args).run P w= .ok (.enter gf args) w) (hc:Yjv P gf lbv g2 xs ys I)
  (hp:∀p∈g2,p.own=false/\∃i,lk H i=some p) (i4:∀x M,(ys x M).length=ps.length) (i3:(ps.all λp=>Nat.blt p N)=true)
  (hw:∀b,w0.heap.size<=b->sc b) (h0:lk H 0=some (Yt w0 (λ_=>False)))
  (b8:c3 0 d2) (b3:HSub (V 0 d2) H) (hk:∀k y,Zmv (V k y) w0) (i0:∀gx,Zmv (HX gx) w0)
  (c6:∀k x M y,xs[k]? = some x->c3 k y->∀l Mf Y a W,Sat N sc (renv ps (ys x M) env) ((92,Yt Y Mf)::adds 100 (I x M) (V k y)) a W->
   assign.wpIn (Fence.wide.inRound l) 0 P (RAn 92 P N sc l Mf (adds 100 (I x M) (V k y)) body (V (k+1)) (c3 (k+1)) HX c4 Y) a W)
  (i2:lc.all Zd9=true)
  (hC:∀y,c3 xs.length y->∀D od,L P N sc lc.toArray lc (Gu λe a w=>e= .normal/\∃b6 H2,lk H2 92=none/\FpSub H2 (V xs.length y)/\Sat N sc b6 ((92,fx D od)::H2) a w/\X N sc .ret (Zag P fn w0 preF al φ val S) b6 H2) env ((92,fx D od)::V xs.length y))
  (hX:∀gx,c4 gx->X N sc .ret (Zag P fn w0 preF al φ val S) env (HX gx)) :
  E P N sc (.rangeFunc g ps.toArray assign body) (Exit.inBlock g3 (Exit.then ((Code.seq (.region i8 lc.toArray false) .ret).wp P (Zdi P fn w0 preF al φ val S)) (Zdi P fn w0 preF al φ val S))) env H:=λa w hs=>by
 have a2:∀i p,lk H i=some p->∀b,p.fp b->b<w.heap.size:=λi p hi b f=>p.lt w b (hs.hold i p hi) f;have i7:w0.heap.size<=w.heap.size:=(hs.hold 0 _ h0).size;refine(wpIn_wide (n:=0)).1 (wpIn_rangeFunc ?_);intro d1 h7;obtain⟨c,d⟩:∃c:LoopState->Option Code->Loop,c=λst pe=>{ state:=st,pending:=pe,fn:=d1,tmps:=a.tmps,params:=ps.toArray,assign:=assign,body:=body,defers:=w.heap.size }:=⟨_,rfl⟩;obtain⟨W1,b7⟩:∃W1,(w.alloc (.deferred (some []))).alloc (.loop (c .ready none))=W1:=⟨_,rfl⟩;have g7:W1.heap[w.heap.size+1]? = some (.loop (c .ready none)):=by rw [<-b7];have:=World.alloc_heap_new (w.alloc (.deferred (some []))) (.loop (c .ready none));rwa [World.size_alloc]at this
 have g6:W1.heap[w.heap.size]? = some (.deferred (some [])):=by rw [<-b7];exact(Below.heap_alloc _ _ _ O7).trans (World.alloc_heap_new w _)
 have f2:Below w.heap.size w W1:=by rw [<-b7];exact((Below.refl _ w).alloc (aK _) _).alloc O7 _
 have j3:W1.heap.size=w.heap.size+2:=by rw [<-b7];simp
 have e0:(#[.func (.yield (w.heap.size+1)) #[] #[]] ++ lbv.toArray:Array Value)=(Value.func (.yield (w.heap.size+1)) #[] #[]::lbv).toArray:=O7;refine⟨w.heap.size+1,[{ target:= .collected w.heap.size,args:=#[] }],W1,{ target:= .fn (.func gf) lbv.toArray,args:=#[.func (.yield (w.heap.size+1)) #[] #[]] },W1,gf,
  (Value.func (.yield (w.heap.size+1)) #[] #[]::lbv).toArray,W1,?_,?_,λ_ _=>trivial,?_,λh=>(by cases h),?_⟩
 .rw [<-b7,d];exact run_enterLoop_outer _ _ _ _ _
 .simp only [resolve,hs.ev hg];simp [go_sem]
 .simp [invoke,go_sem,eg]
 have c2:∀(Hn:Hp) (r:Loop),Zjr λW=>W.heap[w.heap.size+1]? = some (.loop r)/\W.heap[w.heap.size]? = some (.deferred (some []))/\W1.heap.size<=W.heap.size/\Kps sc w (w.heap.size+2) (Mof (w.heap.size+2) H) Hn W:=λHn r W W' ⟨h1,h2,h3,h4⟩ hB=>
  ⟨(hB.block _ (aO.1 h1).1).trans h1,(hB.block _ (aO.1 h2).1).trans h2,aB h3 hB.size,h4.stays hB⟩
 have i1:¬Mof (w.heap.size+2) H (w.heap.size+1):=λh=>by
  rcases h with⟨i,q,hq,_,hf⟩|h
  .have:=a2 i q hq _ hf;omega
  .omega
 have d5:¬Mof (w.heap.size+2) H w.heap.size:=λh=>by
  rcases h with⟨i,q,hq,_,hf⟩|h
  .have:=a2 i q hq _ hf;omega
  .omega
 have f7:∀(Hn:Hp) (W:World),Kps sc w (w.heap.size+2) (Mof (w.heap.size+2) H) Hn W->∀(o:Obj),Kps sc w (w.heap.size+2) (Mof (w.heap.size+2) H) Hn (W.putObj w.heap.size o):=λHn W h o=>h.put a2 ⟨aK _,O⟩;have c1:∀(Hn:Hp) (W:World),Kps sc w (w.heap.size+2) (Mof (w.heap.size+2) H) Hn W->∀(o:Obj),Kps sc w (w.heap.size+2) (Mof (w.heap.size+2) H) Hn (W.putObj (w.heap.size+1) o):=λHn W h o=>h.put a2 ⟨O,O⟩;refine callsIn_wide.2 ((hc (w.heap.size+1) (λb=>(∃i q,lk H i=some q/\q.own=true/\q.fp b)\/b=w.heap.size+1)
  (λk W=>∃y,c3 k y/\(W.heap[w.heap.size+1]? = some (.loop (c .ready none))/\W.heap[w.heap.size]? = some (.deferred (some []))/\W1.heap.size<=W.heap.size/\Kps sc w (w.heap.size+2) (Mof (w.heap.size+2) H) (V k y) W))
  (λW=>∃gx,c4 gx/\(W.heap[w.heap.size+1]? = some (.loop (c .done (some .ret)))/\W.heap[w.heap.size]? = some (.deferred (some []))/\W1.heap.size<=W.heap.size/\Kps sc w (w.heap.size+2) (Mof (w.heap.size+2) H) (HX gx) W)) W1
  ?_ ?_ ?_ ?_ ?_ ?_).mono ?_)
 .intro p B;obtain⟨ho,i,hi⟩:=hp p B;exact p.stable _ _ (hs.hold i p hi) (Chg.of_below f2)
 .rintro p B b f (⟨i,q,hq,b2,i5⟩|rfl)
  .obtain⟨ho,j,R⟩:=hp p B;exact hs.sep i j q p (λe=>by subst e;rw [hq]at R;cases R;rw [ho]at b2;cases b2) hq R b2 b i5 f
  .obtain⟨ho,j,R⟩:=hp p B;have:=a2 j p R _ f;omega
 .rintro k W W' ⟨y,d9,h⟩ hB;exact⟨y,d9,c2 _ _ W W' h hB⟩
 .rintro W W' ⟨gx,d9,h⟩ hB;exact⟨gx,d9,c2 _ _ W W' h hB⟩
 .refine⟨d2,b8,g7,g6,aK _,λi u hi=>u.stable _ _ (hs.hold i u (b3.lk i u hi)) (Chg.of_below f2),λi j u jt b1 hi R=>hs.sep i j u jt b1 (b3.lk i u hi) (b3.lk j jt R),
   λi u b8 hi=>hs.scope i u b8 (b3.lk i u hi),λi u hi _ b f=> .inl (a2 i u (b3.lk i u hi) b f),λi u hi ho b f=> .inl ⟨i,u,b3.lk i u hi,ho,f⟩⟩
 .rintro k x M hx W Y ⟨y,Z,hl,hd,g0,a4⟩ j4 hB a0;have f6:Y.heap[w.heap.size+1]? = some (.loop (c .ready none)):=(hB.block _ O).trans hl;have h5:Y.heap[w.heap.size]? = some (.deferred (some [])):=(hB.block _ O).trans hd;have hy:=run_yield (P:=P) (args:=(ys x M).toArray) f6 (by rw [d];simp [i4]);have b9:∀p∈I x M,∀b,p.fp b->w.heap.size+2<=b:=λp hp b f=>by have:=(a0 p hp).2.2 b f;omega
  have s1:Sat N sc env (V k y) { tmps:=a.tmps,defers:=[] } Y:=(a4.stays hB).sat hs.size rfl hs.env;have s2:Sat N sc env (adds 100 (I x M) (V k y)) { tmps:=a.tmps,defers:=[] } Y:=s1.adds (w1:=Y) _ _ λp B=>⟨(a0 p B).1,(a0 p B).2.1,λb f=>hw b (by have:=b9 p B b f;omega),λj jt R ho b f a6=>by have h1:=(a0 p B).2.2 b f;have h2:=jt.lt W b (a4.hold j jt R) a6;omega⟩
  have c7:∀j q,lk (adds 100 (I x M) (V k y)) j=some q->(q∈I x M)\/lk (V k y) j=some q:=λj q h=>Zuu _ _ _ j q h;have B:∀j q,lk (adds 100 (I x M) (V k y)) j=some q->∀b,q.fp b->q.own=true->Mof (w.heap.size+2) H b:=λj q R b f ho=>by
   rcases c7 j q R with h|h
   .rw [(a0 q h).2.1]at ho;cases ho
   .exact a4.mf j q h ho b f
  have d0:∀j q,lk (adds 100 (I x M) (V k y)) j=some q->∀b,q.fp b->q.own=false->b<w.heap.size\/w.heap.size+2<=b:=λj q R b f ho=>by
   rcases c7 j q R with h|h
   .exact .inr (b9 q h b f)
   .exact a4.off j q h ho b f
  have s3:=s2.rounds ps (ys x M) i3;have s4:Sat N sc (renv ps (ys x M) env) ((92,Yt Y (Mfs sc (w.heap.size+2) H))::adds 100 (I x M) (V k y)) _ Y:=s3.add 92 (Yt Y (Mfs sc (w.heap.size+2) H)) (Chg.refl _ _) (λj jt b1 R Lj b f a6=>by
   rcases Lj with h|h
   .cases h
   .exact f.2 (.inl (B j jt R b a6 h))) (λb f=>fO.1 λhn=>f.2 (.inr hn))
  have e4:¬Mfs sc (w.heap.size+2) H (w.heap.size+1):=λh=>h.elim i1 (λhn=>hn (hw _ O));have e8:¬Mfs sc (w.heap.size+2) H w.heap.size:=λh=>h.elim d5 (λhn=>hn (hw _ i7));rw [d]at hy;refine⟨d1,_,assign,body,hy,roundIn_of_wpIn h7 ?_⟩;have hr:=c6 k x M y hx Z (w.heap.size+1) (Mfs sc (w.heap.size+2) H) Y _ Y s4;have e3:(ps.toArray.zip (ys x M).toArray).foldl (λt (p,v)=>t.setIfInBounds p v) a.tmps=(ps.zip (ys x M)).foldl (λt pv=>t.setIfInBounds pv.1 pv.2) a.tmps:=O7;have f8:w.heap.size+2<=Y.heap.size:=by have:=hB.size;omega
  have h9:∀(Hn:Hp),Zmv Hn w0->∀q,lk Hn 0=some q->q.own=false:=λHn h q hq=>by rw [h.1]at hq;cases hq;rfl
  rw [show(ps.toArray.zip (ys x M).toArray).foldl (λt (x:Nat×Value)=>t.setIfInBounds x.1 x.2) a.tmps=(ps.zip (ys x M)).foldl (λt pv=>t.setIfInBounds pv.1 pv.2) a.tmps from e3];refine wpIn_mono hr ?_;rintro e a1 W2 ⟨rfl,e6,H1,d3,e9,g4,a5,d8⟩;have a7:Chg (Mfs sc (w.heap.size+2) H) Y W2:=a5.hold 92 _ (Zv _ _ _);have b0:W2.heap[w.heap.size+1]? = some (.loop (c .ready none)):=(a7.block _ O e4).trans f6;have h6:W2.heap[w.heap.size]? = some (.deferred (some [])):=(a7.block _ O e8).trans h5;have p1:=a5.ps d3 O3 e9 f8 g4 B d0 a2;have j0:Y.heap.size<=W2.heap.size:=a7.size;obtain⟨s,z⟩:∃s,W2.putObj (w.heap.size+1) (.loop { c .ready none with state:= .busy })=s:=⟨_,rfl⟩;have i9:Sat N sc e6 ((92,Yt s (Mfs sc (w.heap.size+2) H))::H1) a1 s:=by
   have p2:=c1 _ _ p1 (.loop { c .ready none with state:= .busy });rw [z]at p2;refine(p2.sat a5.size a5.defers a5.env).add 92 (Yt s (Mfs sc (w.heap.size+2) H)) (Chg.refl _ _) (λj jt b1 R Lj b f a6=>?_) (λb f=>fO.1 λhn=>f.2 (.inr hn));rcases Lj with h|h
   .cases h
   .exact f.2 (.inl (p2.mf j jt R h b a6))
  have i6:W2.heap.size=s.heap.size:=by rw [<-z];simp
  have c9:s.heap[w.heap.size+1]? = some (.loop { c .ready none with state:= .busy }):=by rw [<-z];exact World.putObj_heap_same O
  have f4:s.heap[w.heap.size]? = some (.deferred (some [])):=by rw [<-z];exact(World.putObj_heap_other O).trans h6
  refine⟨s,by rw [<-z];exact run_beginRound b0 (by rw [d]),wpIn_mono (d8 s ⟨⟨_,c9⟩,e4⟩ a1 s i9) ?_⟩;have c8:∀(Hn:Hp) (env':Xz) (a3:Act) (F:World),Zmv Hn w0->FpM Hn (adds 100 (I x M) (V k y))->Sat N sc env' ((92,Yt s (Mfs sc (w.heap.size+2) H))::Hn) a3 F->∀(r:Loop),
    F.heap[w.heap.size+1]? = some (.loop { c .ready none with state:= .busy })/\(((F.putObj (w.heap.size+1) (.loop r)).heap[w.heap.size+1]? = some (.loop r)/\(F.putObj (w.heap.size+1) (.loop r)).heap[w.heap.size]? = some (.deferred (some []))/\
     W1.heap.size<=(F.putObj (w.heap.size+1) (.loop r)).heap.size/\Kps sc w (w.heap.size+2) (Mof (w.heap.size+2) H) Hn (F.putObj (w.heap.size+1) (.loop r)))/\
     Chg (λb=>((∃i q,lk H i=some q/\q.own=true/\q.fp b)\/b=w.heap.size+1)\/W1.heap.size<=b) Y (F.putObj (w.heap.size+1) (.loop r))):=by
   intro Hn env' a3 F e2 g5 b4 r;have a8:Chg (Mfs sc (w.heap.size+2) H) s F:=b4.hold 92 _ (Zv _ _ _);have c0:=(a8.block _ O e4).trans c9;have a9:=(a8.block _ O e8).trans f4;have g1:=a8.size;have p3:=b4.ps e2.2 O3 (h9 Hn e2) O g5 B d0 a2;refine⟨c0,⟨World.putObj_heap_same O,(World.putObj_heap_other O).trans a9,O8,c1 _ _ p3 _⟩,?_⟩;have k0:(Yt w0 (λ_=>False)).holds Y:=a4.stays hB |>.hold 0 _ (hk k y).1;have k3:(Yt w0 (λ_=>False)).holds F:=p3.hold 0 _ e2.1;refine⟨?_,?_,?_,O8,λb f hn=>?_⟩
   .exact a8.os.trans ((by rw [<-z];rfl:s.os=W2.os).trans a7.os)
   .exact a8.tape.trans ((by rw [<-z];rfl:s.tape=W2.tape).trans a7.tape)
   .exact a8.output.trans ((by rw [<-z];rfl:s.output=W2.output).trans a7.output)
   .have f3:b≠w.heap.size+1:=λe=>hn (.inl (.inr e));have g9:¬Mof (w.heap.size+2) H b:=λh=>by
     rcases h with h|h
     .exact hn (.inl (.inl h))
     .exact hn (.inr O)
    refine(World.putObj_heap_other f3).trans ?_;by_cases f9:sc b
    .have f0:¬Mfs sc (w.heap.size+2) H b:=λh=>h.elim g9 (λh=>h f9);refine(a8.block b O f0).trans ?_;have:s.heap[b]? = W2.heap[b]?:=by rw [<-z];exact World.putObj_heap_other f3
     exact this.trans (a7.block b f f0)
    .have f1:b<w0.heap.size:=by
      rcases bE b w0.heap.size with h|h
      .exact h
      .exact absurd (hw b h) f9
     exact(k3.block b f1 (λh=>h)).trans (k0.block b f1 (λh=>h)).symm
  rintro e a3 F (⟨rfl,e7,e1,d6,env',b4⟩|⟨rfl,gx,e1,d6,env',b4⟩)
  .obtain⟨c0,d7,d4⟩:=c8 _ env' a3 F (hk (k+1) e7) d6 b4 (c .ready none);have:=run_endRound (P:=P) none c0;rw [show({ ({ c .ready none with state:= .busy } : Loop)with state:=if(none:Option Code).isNone then LoopState.ready else .done,pending:=none } : Loop)=c .ready none by rw [d];rfl]at this;exact⟨_,_,this,.inl ⟨rfl,⟨e7,e1,d7⟩,d4⟩⟩
  .obtain⟨c0,d7,d4⟩:=c8 _ env' a3 F (i0 gx) d6 b4 (c .done (some .ret));have:=run_endRound (P:=P) (some .ret) c0;rw [show({ ({ c .ready none with state:= .busy } : Loop)with state:=if(some Code.ret).isNone then LoopState.ready else .done,pending:=some .ret } : Loop)=c .done (some .ret) by rw [d];rfl]at this;exact⟨_,_,this,.inr ⟨rfl,⟨gx,e1,d7⟩,d4⟩⟩
 .have j1:∀(Hn:Hp) (W:World),Kps sc w (w.heap.size+2) (Mof (w.heap.size+2) H) Hn W->Kps sc w (w.heap.size+2) (Mof (w.heap.size+2) H) Hn ((W.putObj (w.heap.size+1) (.loop (c .exhausted none))).putObj w.heap.size (.deferred none)):=λHn W h=>f7 _ _ (c1 _ _ h _) _;rintro e W2 ⟨⟨v,rfl⟩,⟨y,Z,hl,hd,g0,e5⟩|⟨gx,Z,hl,hd,g0,e5⟩⟩
  .refine⟨none,_,by have:=run_endLoop (P:=P) hl (by rw [d];simp);rw [d]at this;exact this,?_⟩;obtain⟨F,c5⟩:∃F,W2.putObj (w.heap.size+1) (.loop (c .exhausted none))=F:=⟨_,rfl⟩;have p3:=c1 _ _ e5 (.loop (c .exhausted none));rw [c5]at p3;have a9:F.heap[w.heap.size]? = some (.deferred (some [])):=by rw [<-c5];exact(World.putObj_heap_other O).trans hd
   have g1:F.heap.size=W2.heap.size:=by rw [<-c5];simp
   rw [show W2.putObj (w.heap.size+1) (.loop { state:= .exhausted,pending:=none,fn:=d1,tmps:=a.tmps,params:=ps.toArray,assign:=assign,body:=body,defers:=w.heap.size })=F by rw [<-c5,d]];have s3:Sat N sc env (V xs.length y) { tmps:=a.tmps,defers:=[] } F:=p3.sat hs.size rfl hs.env;have s4:Sat N sc env ((92,fx w.heap.size (.deferred (some [])))::V xs.length y) { tmps:=a.tmps,defers:=[] } F:=s3.add 92 _ a9 (λj jt b1 R Lj b f a6=>by
    rcases Lj with h|h
    .cases h
    .have f:b=w.heap.size:=f;subst f;exact d5 (p3.mf j jt R h _ a6)) (λb f=>hw b (by have f:b=w.heap.size:=f;omega))
   rw [hs.defers];refine wp_seq (wp_region_lit (Zmq (P:=P) (ops:=lc.toArray) (Q:=Exit.then (Code.ret.wp P (Zdi P fn w0 preF al φ val S)) (Zdi P fn w0 preF al φ val S)) (ds:=[{ target:= .collected w.heap.size,args:=#[] }]) lc { tmps:=a.tmps,defers:=[] } F i2 ?_));refine Lm (λe a' W' h=>?_) lc _ F (hC y Z _ _ _ F s4);cases e with
   | normal=>
    obtain⟨-,b6,H2,d3,h8,b5,hx⟩:=h;refine wp_ret (Zqa (b5.hold 92 _ (Zv _ _ _)) ?_);have b0:∀i u,lk H2 i=some u->lk ((92,fx w.heap.size (.deferred (some [])))::H2) i=some u:=λi u hi=>by
     by_cases h1:92=i
     .subst h1;rw [d3]at hi;cases hi
     .rw [Zm h1];exact hi
    refine hx _ _ ⟨b5.size,rfl,b5.env,λi u hi=>u.stable _ _ (b5.hold i u (b0 i u hi)) ⟨rfl,rfl,rfl,O7,λk hk hn=>World.putObj_heap_other (λe=>hn λhf=>?_)⟩,λi j u jt b1 hi R=>b5.sep i j u jt b1 (b0 i u hi) (b0 j jt R),λi u b8 hi=>b5.scope i u b8 (b0 i u hi)⟩;subst e;obtain⟨q,hq,j2,f5⟩:=h8.lk i u hi;cases b2:q.own with
    | true=>exact d5 (p3.mf i q hq b2 _ (f5 _ hf))
    | false=>rcases p3.off i q hq b2 _ (f5 _ hf)with h|h<;>omega
   | _=>exact h.elim
  .refine⟨some .ret,_,by have:=run_endLoop (P:=P) hl (by rw [d];simp);rw [d]at this;exact this,wpIn_ret ?_⟩;have p3:=c1 _ _ e5 (.loop { c .done (some .ret)with state:= .exhausted });have a9:(W2.putObj (w.heap.size+1) (.loop { c .done (some .ret)with state:= .exhausted })).heap[w.heap.size]? = some (.deferred (some [])):=(World.putObj_heap_other O).trans hd;rw [d]at p3 a9;rw [hs.defers];exact Zqa a9 (hX gx Z _ _ ((f7 _ _ p3 _).sat hs.size rfl hs.env))
end Go.Sky
namespace Go.Sky
open Go.Proofs.Tryz
open Go.Proofs
set_option synthInstance.maxHeartbeats 0
set_option synthInstance.maxSize 100000
set_option maxRecDepth 20000
set_option linter.unusedSimpArgs false
variable{x:Int}
theorem Zf5{fr P N:Int}{Q R S:Value}{x y z:List Int}(c d b:Int)(D:Sgo fr P N x y z)(F:c.natAbs<=3600000)(H:d.natAbs<=3600000)(Y:1<=b/\b<=3600000):Cal prog 79 #[.agg #[.int .i64 fr,.int .i64 P,.int .i64 N,Q,R,S],.int .i64 c,.int .i64 d,.int .i64 b] [Yg 1 Zz Q x,Yg 1 Zz R y,Yg 1 Zz S z] true (G:=SL×SL×SL) (λg=>True) (λg=> .agg #[Xw g.1,Xw g.2.1,Xw g.2.2]) (λg=>[Yg 2 wv (Xw g.1) (Oa x c d b),Yg 2 wv (Xw g.2.1) (Oa y c d b),Yg 2 wv (Xw g.2.2) (Oa z c d b)]):=by
 refine Zf func79 ntmps79 λw0 sc M u=>?_;have V:=Zjo F;have W:=Zjo H;have s:bl b.natAbs<=22:=Zjo O;refine go 2<|Ym (Yj 4) λbx _=>Ym (Yd 5) λe _=>go 6 ?_;refine cl 5 [1,2,3] Zlz λ_ _=>go 4<|Zl (Ol 5 (q:=box e 141 (cellsOf (Kx (α:=List Int)) (Zpf [])).toArray) (aL (box e 141) (show _=(cellsOf (Kx (α:=List Int)) (Zpf [])).toArray from J)) J J)<|Zl (Ye qZ 71) ?_;refine lp (G:=Nat×List (SL×List Int)) [1,2,3,8,14] [0,1,2,3,4] (λq=>[(15,.int .i64 (q.1:Int))]) (λq=>[(5,box e 141 (cellsOf (Kx (α:=List Int)) (Zpf q.2)).toArray),(71,Im qZ q.2)]) (λq=>(q.1<=3)/\(q.2.length=q.1)/\(∀t,t<q.1->(q.2.getD t Z0).2=Oa (Zt t x y z) c d b)) (λq=>3-q.1) (0,[]) ⟨O1,rfl,λt B=>absurd B (cN t)⟩ K1 K2 ?_;rintro⟨i,zs⟩ ⟨hi,f,k⟩;dsimp only at hi f k;dsimp only;have I:=D.hc i;have j:=D.lc i;obtain⟨Z,q2,q3,q4,q5,q6,q7,q8⟩:=Znk I j F H Y;have h:(6-((Zt i x y z).length:Int)).toNat=6-(Zt i x y z).length:=O;refine go 6<|Zc J (λm=>?_) (λm=>?_)
 .refine go 5<|Zl (Zav i 1 2 3 50 J J J J J J)<|go 2 ?_;refine dt (Zle i J J J underlying215 sizeOf25 isAgg25 J)<|go 7 ?_;refine cl 6 [50] (Cl I (aB j.2 O3)) λ_ _=>?_;refine Zo (Ol 6 (q:=Yg 2 wv _ (tzl (Zt i x y z))) (aL (Yg 2 wv _) (aD (Zdr j.2))) J J)<|go 11 ?_;refine cl 6 [] (Zn c) λ_ _=>go 1 ?_;refine cl 6 [] (Zn d) λ_ _=>go 1 ?_;refine cl 6 [] (Zn b) λ_ _=>cl 7 [6] (Zmd (tzl (Zt i x y z)) c d b Z O O O O q2) λ_ _=>?_;refine go 13 ⟨O,?_⟩;refine cl 7 [] (He b (6-((Zt i x y z).length:Int)) (aB s O3) O O) λ_ _=>cl 8 [7] (Pi _ (b^(6-((Zt i x y z).length:Int)).toNat) q3 (by rw [h];exact aB q4 O3) (by rw [h];exact q5)) λ_ _=>?_;refine Zgp (Xl 8 J Zh) (λr v=>?_);subst v;refine Zo (Ol 8 (q:=Yg 2 wv (Xw r) (Oa (Zt i x y z) c d b)) (aL (Yg 2 wv (Xw r)) (by rw [h];rfl)) J J)<|Zo (Zd (q:=qZ) (z:=(r,(Oa (Zt i x y z) c d b))) 71 8 71 J J J J J)<|go 3 ?_;refine dt (Ir i J J J underlying141 sizeOf140 J)<|tt (t_sbe 5 i 1 (enc:=Kx) (r,(Oa (Zt i x y z) c d b)) J J J J J pS (by rw [Yb1 O];omega) J M.h aA) (λ_ _=>?_);refine go 7 ⟨O,?_⟩;exact Yv (i+1,zs ++ [(r,(Oa (Zt i x y z) c d b))]) ⟨O1,by rw [aS,f];rfl,λt B=>Zqz f k B⟩ O1 K1 ⟨by rw [Ya5 O f];rfl,rfl,aA⟩
 .obtain rfl:i=3:=O;refine go 6 ?_;obtain⟨n,o,p,rfl⟩:=Zy2 f k;refine Zl (Zcy (q:=qZ) 71 81 (n,Oa x c d b) J J O7 J)<|Zl (Zcy (q:=qZ) 71 82 (o,Oa y c d b) J J O7 J)<|Zl (Zcy (q:=qZ) 71 83 (p,Oa z c d b) J J O7 J)<|go 1 ?_;refine dt (d_lea (i:=5) (enc:=Kx) (l:=[(n,Oa x c d b),(o,Oa y c d b),(p,Oa z c d b)]) J J J pS isAgg141 sizeOf141 J)<|tt (t_sea (i:=5) (enc:=Kx) (l:=[(n,Oa x c d b),(o,Oa y c d b),(p,Oa z c d b)]) J J J J J O3 pS sizeOf141 J J J M.h aA) λ_ _=>go 3 ?_;exact Zn0 (.inl J) u (n,o,p) _ (λa w hs=>Zcd hs results79 (Hu 5 (vs:=cellsOf Kx [(n,Oa x c d b),(o,Oa y c d b),(p,Oa z c d b)]) J J isAgg141 sizeOf141 J)) J aA J (Ig 81 J J J (Ig 82 J J J (Ig 83 J J J Za)))
theorem Zxx{s:Bool}(c:x.natAbs<=9223372036854775807)(h:sg s x):(x=0/\dg U x.natAbs=[])\/(s=true/\x<0/\dg U x.natAbs=[x.natAbs])\/(s=false/\0<x/\dg U x.natAbs=[x.natAbs]):=by
 have b:x.natAbs≠0->dg U x.natAbs=[x.natAbs]:=λd=>by have a:x.natAbs<U:=bA c O3;rw [Zbd O3 O,aW a,dB a];rfl
 rcases jV x 0 with q|q|q
 .right;left;refine⟨?_,q,b O⟩;cases s
  .have:=h.2 rfl;omega
  .rfl
 .subst q;exact .inl ⟨rfl,rfl⟩
 .right;right;refine⟨?_,q,b O⟩;cases s
  .rfl
  .have:=h.1 rfl;omega
theorem int_wn(a:x.natAbs<=9223372036854775807)(h:x<0):IntKind.i64.wrap (18446744073709551616-(x.natAbs:Int))=x:=by simp only [IntKind.wrap,IntKind.bits,IntKind.signed];simp;omega
theorem int_wp(a:x.natAbs<=9223372036854775807)(h:0<x):IntKind.i64.wrap ((([x.natAbs]:List Nat).getD 0 0:Nat):Int)=x:=by show IntKind.i64.wrap (x.natAbs:Int)=x;rw [Zcr ⟨O,O⟩];omega
theorem int_d0(a:x.natAbs<=9223372036854775807):¬((([x.natAbs]:List Nat).getD 0 0:Nat):Int)>=9223372036854775808:=by show ¬(x.natAbs:Int)>=_;omega
theorem Yb8(a:x.natAbs<=9223372036854775807):¬((([x.natAbs]:List Nat).getD 0 0:Nat):Int)>9223372036854775808:=by show ¬(x.natAbs:Int)>_;omega
theorem int_m(h:x<0)(a:x.natAbs<=9223372036854775807):(-((([x.natAbs]:List Nat).getD 0 0:Nat):Int))%18446744073709551616=18446744073709551616-(x.natAbs:Int):=by show(-(x.natAbs:Int))%_=_;omega
theorem Zn4(x:Int)(e:x.natAbs<=9223372036854775807):Qp prog 82 #[wv x] [] (.tuple #[.int .i64 x,.int .i64 0]):=by
 refine Zf func82 ntmps82 λn m l f=>?_;have i:bl x.natAbs<=65536:=aB ((Qg 63 _).2 (bA e O3)) O3;refine go 2<|Ym (Yj 1) λk _=>go 8 ?_;refine cl 1 [] (Mn ‹_›) λ_ _=>go 9 ?_;refine cl 2 [] (Pm Nb) λg j=>Ym (Yd 3) λh _=>go 6 ?_;rcases Zxx e j with⟨rfl,c⟩|⟨d,c,a⟩|⟨d,c,a⟩
 .refine go 4<|kt (aN (by rw [c];rfl))<|go 13 ?_;exact Na f () results82 J aA Za
 .refine go 4<|kf (aJ (by rw [a];simp))<|go 9<|kf (aJ (by rw [a];simp))<|go 3 ?_;refine Bb (dF (Xi J J) (aL (λb=>Value.bool (!b)) d)) J J<|go 13 ⟨by rw [a];exact fF,by rw [a];exact fF,?_⟩;refine kfg (aJ (by rw [a];exact Yb8 e))<|go 8<|kt d<|go 10 ⟨by rw [a];exact fF,by rw [a];exact fF,?_⟩;refine dt (Zy0 (18446744073709551616-(x.natAbs:Int)) J J (by rw [a];exact int_m c e))<|dt (Ze7 (r:=x) J J Bf uT3 (int_wn e c))<|go 7 ?_;exact Na f () results82 J aA Za
 .refine go 4<|kf (aJ (by rw [a];simp))<|go 9<|kf (aJ (by rw [a];simp))<|go 3 ?_;refine Bb (dT (Xi J J) (aL (λb=>Value.bool (!b)) d)) J J<|go 5 ⟨by rw [a];exact fF,by rw [a];exact fF,?_⟩;refine kfg (aJ (by rw [a];exact int_d0 e))<|go 7 ⟨by rw [a];exact fF,by rw [a];exact fF,?_⟩;refine kfg (aJ (by rw [a];exact Yb8 e))<|go 8<|kf d<|go 13 ⟨by rw [a];exact fF,by rw [a];exact fF,?_⟩;refine dt (Ze7 (r:=x) J J Bf uT3 (by rw [a];exact int_wp e c))<|go 5 ?_;exact Na f () results82 J aA Za
abbrev Yct (o:Nat) (m:Int) (g:Zj):List Int:=formP o m g.1.2.2 (g.1.2.1-g.1.1) g.2.1.2 g.2.2.1.2 g.2.2.2.2
def Yb6(o:Nat)(ps:List Zj)(m:Int):Bool:=ps.all λg=>!Et (Yct o m g)
def Yf2(p:Nat->Bool):Nat->Nat->Nat->Nat
 | 0,i,_=>i
 | f+1,i,j=>if i<j then(if p ((i+j)/2)then Yf2 p f i ((i+j)/2)else Yf2 p f ((i+j)/2+1) j)else i
def Yfw(o:Nat)(ps:List Zj):Nat:=Yf2 (λn=>Yb6 o ps (n:Int)) 14 0 10001
end Go.Sky

