/- Rules, arithmetic and contracts: part 12. No conditions but those that each theorem names. -/
import Derived.Test.YtlnoheikolgejaaGreatLc10
import Derived.ChangeKeysEq
import Derived.RangeFuncFrom
import Derived.RangeFuncLeaves
import Derived.OrdersIn
import Derived.TacticsIn
import Derived.RangeFuncCalls
set_option linter.all false
set_option maxHeartbeats 4000000
namespace Go.Sky
open Go.Proofs.Tryz
open Go.Proofs
set_option synthInstance.maxHeartbeats 0
set_option synthInstance.maxSize 100000
set_option maxRecDepth 20000
set_option linter.unusedSimpArgs false
variable{ov a d:Int}{x y xs c:List Int}{z d0:SL×List Int}{i:Nat}{b:Bool}{M:Nat->Prop}{rest:List (Nat×Nat)}{zs:List (SL×List Int)}{f:Nat->List Int}{args:Array Value}{R:Value->World->Prop}{listed:Array Bool}
theorem Zub{fr F:Int}{H I N:Value}{z:List Int}(a d:Int)(g:Sgo fr F ov x y z)(h:0<=a/\a<=3600000)(j:1<=d/\d<=3600000):Xp prog 151 #[.agg #[.int .i64 fr,.int .i64 F,.int .i64 ov,H,I,N],.int .i64 a,.int .i64 d] [Yl 1 Zz H x,Yl 1 Zz I y,Yl 1 Zz N z] (plV (pl x a d/(gS ov a d x y z 3)) (pl y a d/(gS ov a d x y z 3)) (pl z a d/(gS ov a d x y z 3)) (ov*d^5/(gS ov a d x y z 3))):=by
 refine Zg func151 ntmps151 λw0 sc S v=>?_;have t:bl a.natAbs<=60:=(Qo 60 _).2 O;have s:bl d.natAbs<=60:=(Qo 60 _).2 O;have P:=g.o1;have Q:=g.o2;obtain⟨k1,V⟩:=Zwd g h j 0;refine go 2<|Yj (Yg 4) λW _=>Yj (Yd 5) λB _=>go 4<|Yj (Yd 6) λe _=>go 6 ?_;refine cl 6 [] (Ya ov) λ_ _=>go 1 ?_;refine cl 6 [] (Fz d 5 s O3 O3) λ_ _=>cl 6 [] (Ap ov (d^5) (aB ((Qo 40 _).2 O) (by decide:40<=30000)) (aB (Zja d ⟨O,O⟩ (k:=5) O3) O3)) λ_ _=>Yj (Yd 7) λD _=>go 6<|Yj (Yd 8) λn _=>go 7 ?_;refine cl 8 [1,2,3] Zqq λ_ _=>go 4<|Zf (Oy 6 (q:=box e 151 (cellsOf wv (List.replicate 3 (0:Int))).toArray) (aD (box e 151) (show _=(cellsOf wv (List.replicate 3 (0:Int))).toArray from J)) J J) ?_;refine lp (G:=Nat) [1,2,6,7,8,9,22] [0,1,2,3,4,5,7] (λi=>[(23,.int .i64 (i:Int))]) (λi=>[(6,box e 151 (cellsOf wv (atS a d x y z i)).toArray),(8,box n 144 (wc (gS ov a d x y z i)))]) (λi=>i<=3) (λi=>3-i) 0 O1 K1 K2 ?_;rintro i hi;have m:=g.hc i;have u:=g.lc i;obtain⟨Y,o⟩:=Zwd g h j i;refine go 6<|Ze J (λp=>?_) (λp=>?_)
 .refine go 5<|Zf (Zc5 i 1 2 3 50 J J J J J J)<|go 2 ?_;refine dt (Zp5 i J J J underlying215 Zcx isAgg25 J)<|go 13 ?_;refine lp (G:=Nat) [1,2,6,7,8,9,10,22,23,27,28] [0,8,1,2,3,4,5,7,50] (λk=>[(29,.int .i64 (k:Int))]) (λk=>[(6,box e 151 (cellsOf wv ((atS a d x y z i).set i (plS (Zt i x y z) a d k))).toArray)]) (λk=>k<=(Zt i x y z).length) (λk=>(Zt i x y z).length-k) 0 O1 K1 ⟨by rw [show((atS a d x y z i).set i (plS (Zt i x y z) a d 0))=(atS a d x y z i)from(Yoj a d x y z O).symm];rfl,aA⟩ ?_;rintro k Z;refine go 6<|Ze J (λr=>?_) (λr=>?_)
  .refine go 13 ⟨O2,O2,?_⟩;refine Qa (λ_=>False) [(0,0),(1,0),(2,0),(3,0),(4,0),(6,0),(7,0),(9,0),(10,0),(11,0),(5,1),(8,1),(12,1),(13,1),(14,1),(15,1),(16,0),(17,3)]<|go 2 ?_;refine Yz J J (Xn (Fk i J J J Zoz Ov J))<|Yz J J (Xn (Xf (wv (plS (Zt i x y z) a d k)) (Zwz 6 i (enc:=wv) (l:=((atS a d x y z i).set i (plS (Zt i x y z) a d k))) 0 J J J pV (by rw [cT,Bw];omega)) (aD wv (Zuh (by rw [Bw];omega)))))<|go 6 ⟨O,?_⟩;refine Yq (Zo 8 [] (Ya ((Zt i x y z).getD k 0) (Lj m k))) λ_ _=>Yq (Zo 8 [] (Fz a (k:Int) t O O)) λ_ _=>Yq (Zo 8 [] (Fz d (5-(k:Int)) s O O)) λ_ _=>Yq (Zo 8 [] (Ap (a^k) (d^(5-(k:Int)).toNat) (aB (Zja _ h O) O3) (aB (Zja d ⟨O,O⟩ O) O3))) λ_ _=>Yq (Zo 8 [] (Ap ((Zt i x y z).getD k 0) (a^k*d^(5-(k:Int)).toNat) (aB (Gj (Lj m k)) O3) (aB (Zta m h j (k:=k) O).1 O3))) λ_ _=>Yq (Zo 8 [] (Yh5 (plS (Zt i x y z) a d k) (plT (Zt i x y z) a d k) (aB (Zdu m h j O) O3) (aB (Zta m h j O).2 O3))) λ_ _=>?_;refine Yz J J (Xn (Fk i J J J Zoz Ov J))<|r3' J (t_sbe 6 i 2 (enc:=wv) ((plS (Zt i x y z) a d k)+plT (Zt i x y z) a d k) J J J J J pV (by rw [cT,Bw];omega) J S.h aA) (λ_ _=>?_);refine go 7 ⟨O,?_⟩;exact Ye (k+1) O1 O1 K1 ⟨by rw [List.set_set];rfl,aA⟩
  .obtain rfl:k=(Zt i x y z).length:=O;refine go 5<|Qa (λ_=>False) [(0,0),(1,0),(2,0),(3,0),(4,1),(5,3)]<|go 2 ?_;refine Yz J J (Xn (Fk i J J J Zoz Ov J))<|Yz J J (Xn (Xf (wv (pl (Zt i x y z) a d)) (Zwz 6 i (enc:=wv) (l:=((atS a d x y z i).set i (pl (Zt i x y z) a d))) 0 J J J pV (by rw [cT,Bw];omega)) (aD wv (Zuh (by rw [Bw];omega)))))<|Yq (Zo 8 [] (Zqp (gS ov a d x y z i) (pl (Zt i x y z) a d) (aB o O3) (aB (Zdu m h j u.2) O3))) λ_ _=>?_;refine go 8 ⟨O,?_⟩;exact Ye (i+1) O1 O1 K1 K2
 .obtain rfl:i=3:=O;refine go 6<|Qa (λ_=>False) [(0,0),(1,0),(2,0),(4,0),(5,0),(6,0),(8,0),(9,0),(10,0),(12,0),(13,0),(3,1),(7,1),(11,1),(14,1),(15,0),(16,3)] ?_;refine Yz J J (Xn (Fk 0 J J J Zoz Ov J))<|Yz J J (Xn (Xf (wv (pl x a d)) (Zwz 6 0 (enc:=wv) (l:=(atS a d x y z 3)) 0 J J J pV (by rw [Bw];decide)) (aD wv J)))<|go 1 ?_;refine Yz J J (Xn (Fk 1 J J J Zoz Ov J))<|Yz J J (Xn (Xf (wv (pl y a d)) (Zwz 6 1 (enc:=wv) (l:=(atS a d x y z 3)) 0 J J J pV (by rw [Bw];decide)) (aD wv J)))<|go 1 ?_;refine Yz J J (Xn (Fk 2 J J J Zoz Ov J))<|Yz J J (Xn (Xf (wv (pl z a d)) (Zwz 6 2 (enc:=wv) (l:=(atS a d x y z 3)) 0 J J J pV (by rw [Bw];decide)) (aD wv J)))<|go 3 ?_;refine Yq (Zo 8 [] (Zii (pl x a d) (gS ov a d x y z 3) (aB (Zdu g.hx h j g.lx.2) O3) (aB o O3) O)) λ_ _=>Yq (Zo 8 [] (Zii (pl y a d) (gS ov a d x y z 3) (aB (Zdu g.hy h j g.ly.2) O3) (aB o O3) O)) λ_ _=>Yq (Zo 8 [] (Zii (pl z a d) (gS ov a d x y z 3) (aB (Zdu g.hz h j g.lz.2) O3) (aB o O3) O)) λ_ _=>Yq (Zo 8 [] (Zii (ov*d^5) (gS ov a d x y z 3) (aB V O3) (aB o O3) O)) λ_ _=>?_;refine Yz J J (Xn (Qe [(0,_),(1,_),(2,_),(3,_)] J K8 (λa w hs=>Zqd)))<|go 4 ?_;exact Yp v () results151 J aA Za
def eg147:Tryz.prog.eqGuardType Tryz.prog.depth 147=false:=O6
theorem eqlP(w:World){p q r o g h j e:Int}:(binOp .eql 147 (plV p q r o) (plV g h j e)).run Tryz.prog w= .ok (.bool (decide (p=g/\q=h/\r=j/\o=e))) w:=by
 have l:Tryz.prog.stoodInHeld 147=false:=O6;have k:Tryz.prog.underlying 147=some (.struct (Tryz.prog.fieldsOf 147)):=by unfold Program.fieldsOf;rw [Tryz.underlying147]
 rw [run_eql_struct,run_equalIn_agg w 9999 147 _ _ k l];unfold Program.fieldsOf;rw [Tryz.underlying147];simp [Op.eqFields,part,Tryz.isAgg144,Tryz.sizeOf144,in144,Ymq];by_cases m:p=g<;>by_cases n:q=h<;>by_cases s:r=j<;>by_cases t:o=e<;>simp_all
instance eokDec:∀f a b,Decidable (eok f a b)
 | 0,_,b=>inferInstanceAs (Decidable (b=[]))
 | f+1,a,b=>@instDecidableOr _ _ _ (@instDecidableAnd _ _ _ (eokDec f b (Yf (Qq a b))))
def Zxn(xs:List Int)(m:Int):Prop:=∃x:Rat,0<=x/\x<=1/\Zj xs x<(m:Rat)
theorem Yfq{m n:Int}(h:Zxn xs m)(e:m<=n):Zxn xs n:=by
 obtain⟨x,a,b,c⟩:=h;have:(m:Rat)<=(n):=by exact_mod_cast e
 exact⟨x,a,b,O4⟩
def lws:List Int->Int
 | []=>0
 | c::p=>-(c.natAbs:Int)+lws p
theorem Yld{n:Nat} : ∀p:List Int,(∀c∈p,c.natAbs<=n)->-((p.length*n:Nat):Int)<=lws p/\lws p<=0
 | [],_=>by show -((0*n):Int)<=0/\(0)<=0;simp
 | c::p,h=>by have g:=Yld p λd e=>h d (bT _ e);show -(((p.length+1)*n))<=-(c.natAbs)+lws p/\-(c.natAbs)+lws p<=0;grind
theorem Yb0{x:Rat}(e:0<=x)(g:x<=1):∀p:List Int,((lws p:Int):Rat)<=Zj p x
 | []=>by rfl
 | c::p=>by
  have q:=Yb0 e g p;have h:=(Yld (n:=p.foldl (λm c=>max m c.natAbs) 0) p (λc k=>by
   have:∀(l:List Int) (a:Nat),(a<=l.foldl (λm c=>max m c.natAbs) a)/\∀c∈l,c.natAbs<=l.foldl (λm c=>max m c.natAbs) a:=λl=>by
    induction l with
    | nil=>simp
    | cons d l q=>
     grind
   grind)).2
  have j:((lws p):Rat)<=0:=by exact_mod_cast h
  have k:((-(c.natAbs:Int)))<=(c:Rat):=by exact_mod_cast (show -(c.natAbs)<=c by omega)
  have r:=aG (show 0<=1-x by grind) (show 0<=-((lws p):Rat) by grind);have o:=aG e (show 0<=Zj p x-((lws p)) by grind);show((-(c.natAbs)+lws p:Int))<=(c)+x*Zj p x;grind
theorem Ylg(xs:List Int):¬Zxn xs (lws xs):=by rintro⟨x,a,b,c⟩;grind [Yb0]
theorem Yqo(xs:List Int):Zj xs 0=((cf xs 0:Int):Rat):=by
 cases xs with
 | nil=>rfl
 | cons c p=>show(c)+0*Zj p 0=(c);grind
theorem Yfr(xs:List Int):Zxn xs (cf xs 0+1):=by refine⟨0,by rfl,by rfl,?_⟩;grind [Yqo]
theorem Yrj{l h:Int}(e:¬Zxn xs l)(g:Zxn xs h):l<h:=by grind [Int.lt_or_le,Yfq]
def Zt4(hs:Sz 40 xs)(i:Nat):(cf xs i).natAbs<1099511627776:=(Qo 40 _).1 (hs i)
theorem Ylc(hs:Sz 40 xs)(o:xs.length<=9)(i:Nat):-9895604649984<=lws (xs.take i)/\lws (xs.take i)<=0:=by
 obtain⟨h,j⟩:=Yld (n:=1099511627776) _ λc g=>by
  obtain⟨k,m,rfl⟩:=cN.1 g;have l:=Zt4 hs k;have e:(xs.take i)[k]=cf xs k:=by unfold cf;grind
  omega
 grind
structure FlI (xs:List Int) (lo hi:Int):Prop where
 l:¬Zxn xs lo
 h:Zxn xs hi
 b1:-17592186044416<=lo
 b2:hi<=17592186044416
def FlI.lt{e hi:Int}(h:FlI xs e hi):e<hi:=Yrj h.l h.h
theorem FlI.start(hs:Sz 40 xs)(e:xs.length<=9)(hi:xs.length<=i):FlI xs (lws (xs.take i)) (cf xs 0+1):=by have g:=Ylc hs e i;have h:=Zt4 hs 0;refine⟨by grind [List.take_of_length_le,Ylg],Yfr xs,O,O⟩
structure Ef (a:R2):Prop where
 p:0<a.2
 b1:bl a.1.natAbs<=512
 b2:bl a.2.natAbs<=512
theorem Ef.efit{a:R2}(h:Ef a):Go.Sky.efit a=true:=by have:=h.b1;have:=h.b2;unfold Go.Sky.efit;exact aH O
theorem Fa(h:(!b)=true):b=false:=by cases b<;>simp_all
theorem Ks(h:(!b)=false):b=true:=by cases b<;>simp_all
theorem Ag {P:Program} {N:Nat} {sc:Nat->Prop} {env:Px} {H:Hp}  {ops:Array Oper} {F:Px->Hp->Prop}  {o:Oper} {d j e:Nat}  (q:ops[i]? = some o) (n:o.guard=some (j,b)) (p:(ops[j]?).bind (·.dst)=some e) (m:lk env e=some undef) (l:o.dst=some d) 
  (h:LD P N sc M ops F rest ((d,undef)::env) H) (k:Nat.blt d N=true:=by rfl):LD P N sc M ops F ((i,2)::rest) env H:=⟨o,d,q,l,k,λa w g=>by simp [Region.wanted,n,g.yieldedu p m],h⟩
theorem Yh3{fr k e l h:Int}{v B D m n o:Value}{z q r s:List Int}(F:Sgo fr k ov x y z)(p:Sgo e l h q r s):Xp prog 135 #[.agg #[.int .i64 fr,.int .i64 k,.int .i64 ov,v,B,D],.agg #[.int .i64 e,.int .i64 l,.int .i64 h,m,n,o]] [Yl 1 Zz v x,Yl 1 Zz B y,Yl 1 Zz D z,Yl 1 Zz m q,Yl 1 Zz n r,Yl 1 Zz o s] (.bool (Zm1 k ov x y z e h q r s)):=by
 refine Zg func135 ntmps135 λI H u j=>go 2 ?_;refine Yj (Yg 7) λG _=>Yj (Yg 8) λt _=>go 4 ?_;rcases(show k=e\/k≠e by omega)with g|g
 .refine Qa (λ_=>False) [(0,0),(1,0),(2,0),(3,0),(4,0),(5,0),(6,0),(8,0),(7,1),(9,1),(10,0),(11,0),(12,3)]<|go 4 ?_;refine Yz J J (Xn (dT (Ym8 J J J) (vB (aH g))))<|go 3 ?_;refine Zmd J J J J J (Xb 8 (Zub 1 1 F ⟨O3,O3⟩ ⟨O3,O3⟩) J J J K3 call151 (Zp 1 J J J (Zp 2 J J J (Zp 3 J J J Zq))) J u.h) (λ_ _=>?_);refine Zmd J J J J J (Xb 8 (Zub 0 1 p ⟨O3,O3⟩ ⟨O3,O3⟩) J J J K3 call151 (Zp 4 J J J (Zp 5 J J J (Zp 6 J J J Zq))) J u.h) (λ_ _=>?_);refine r0g (Xn (Ym9 J J J eg147 (λw=>eqlP w))) J J J J J<|go 5 ?_;exact Yp j () results135 (by unfold Zm1;rw [aH g];rfl) aA Za
 .refine Qa (λ_=>False) [(0,0),(1,0),(2,0),(3,0),(4,0),(5,0),(6,2),(8,2),(7,2),(9,2),(10,2),(11,0),(12,3)]<|go 4 ?_;refine Yz J J (Xn (dF (Ym8 J J J) (vB (aE g))))<|go 11 ?_;exact Yp j () results135 (by unfold Zm1;rw [aE g];rfl) aA Za
theorem Em{v:Value}{ps:List Zv}(t:∀g∈ps,Gin g):Xp prog 72 #[v] [Xv 6 Qv qG v ps] (.bool (Qg ps)):=by
 refine Zg func72 ntmps72 λD B u l=>?_;refine Xz (Oa (i:=1) J Zc) λs=>go 14 ?_;refine lp (G:=Nat) [0,5,6] [0,1] (λi=>[(7,.int .i64 (i:Int))]) (λi=>[]) (λi=>(i<=ps.length)/\(∀k,k<i->Zev ps k=true)) (λi=>ps.length-i) 0 ⟨O1,λk n=>absurd n (aR k)⟩ K1 aA ?_;rintro i ⟨hi,n⟩;refine go 6<|Ze J (λo=>?_) (λo=>?_)
 .refine go 5 ?_;have h:=t _ (Zd (d:=G0) (show i<ps.length by omega));refine Zf (Qr (ps.getD i G0) ((ps.getD i G0).2.1) 1 51 J J (Zd O) O5)<|Zf (Qr (ps.getD i G0) ((ps.getD i G0).2.2.1) 1 52 J J (Zd O) O5)<|Zf (Qr (ps.getD i G0) ((ps.getD i G0).2.2.2) 1 53 J J (Zd O) O5)<|go 3 ⟨O2,?_⟩;refine dt (Yr 1 G0 J J J Zc pG O2)<|Yj (Yd 2) λw _=>go 5 ?_;rcases Zpb (ps.getD i G0) i with e|⟨e,j⟩|⟨e,j⟩
  .refine Qa (λ_=>False) [(0,0),(1,1),(2,0),(3,0),(4,2),(5,2),(6,2),(7,2),(8,2),(9,2),(10,2),(11,2),(12,2),(13,2),(14,2),(15,2),(16,0)]<|go 1<|Yq (Zo 2 [51,52,53] (Zlu h.f h.t h.o h.x h.y h.z)) λ_ _=>?_;refine Yz J J (Xn (dT (Qn J J) (vB (by rw [show Zaz _ _ _ _ _ _=_ from e];rfl))))<|go 4 ?_;refine Ag J J J J J<|Ag J J J J J<|Ag J J J J J<|Ag J J J J J<|Ag J J J J J<|Ag J J J J J<|Ag J J J J J<|Ag J J J J J<|go 16 ?_;exact Yp l () results72 (by rw [Zg2 i O (Ykp e)]) aA Za
  .refine Qa (λ_=>False) [(0,0),(1,1),(2,0),(3,0),(4,0),(5,0),(6,0),(7,2),(8,2),(9,2),(10,2),(11,2),(12,2),(13,2),(14,2),(15,0),(16,0)]<|go 1<|Yq (Zo 2 [51,52,53] (Zlu h.f h.t h.o h.x h.y h.z)) λ_ _=>?_;refine Yz J J (Xn (dF (Qn J J) (vB (by rw [show Zaz _ _ _ _ _ _=_ from e];rfl))))<|go 2 ?_;refine r0g (Xn (dF (Zbp J J J) (vB (aE O)))) J J J J J<|go 21 ⟨O,?_⟩;exact Ye (i+1) ⟨O1,λk r=>by rcases aN.1 r with m|m;exact n k m;subst m;exact Ykq e j⟩ O1 K1 aA
  .refine Zf (Qr (ps.getD (i-1) G0) ((ps.getD (i-1) G0).2.1) 1 54 J J (Zd O) O5)<|Zf (Qr (ps.getD (i-1) G0) ((ps.getD (i-1) G0).2.2.1) 1 55 J J (Zd O) O5)<|Zf (Qr (ps.getD (i-1) G0) ((ps.getD (i-1) G0).2.2.2) 1 56 J J (Zd O) O5)<|Qa (λ_=>False) [(0,0),(1,1),(2,0),(3,0),(4,0),(5,0),(6,0),(7,0),(8,0),(9,0),(10,0),(11,0),(12,0),(13,1),(14,0),(15,0),(16,0)]<|go 1<|Yq (Zo 2 [51,52,53] (Zlu h.f h.t h.o h.x h.y h.z)) λ_ _=>?_;refine Yz J J (Xn (dF (Qn J J) (vB (by rw [show Zaz _ _ _ _ _ _=_ from e];rfl))))<|go 2 ?_;refine r0g (Xn (dT (Zbp J J J) (vB (aH O)))) J J J J J<|go 4 ⟨O,?_⟩;refine r0g (Xn (Zs 1 (i-1) J J J J Zc Ny Ow)) J J J J J<|r0g (Xn (Yr 1 G0 J J J Zc pG)) J J J J J<|go 1 ?_;refine Zmd J J J J J (Xb 2 (Yh3 (Nz (t _ (Zd O)) (Zcb (n (i-1) O))) (Nz h e)) J J J K2 call135 (Zp 54 J J J (Zp 55 J J J (Zp 56 J J J (Zp 51 J J J (Zp 52 J J J (Zp 53 J J J Zq)))))) J u.h) λ_ _=>go 5 ?_;refine Pe J (λp=>?_) (λp=>?_)
   .refine go 11 ?_;exact Yp l () results72 (by rw [Zg2 i O ((Ziu e j).trans (Fa ‹_›))]) aA Za
   .refine go 7 ⟨O,?_⟩;exact Ye (i+1) ⟨O1,λk r=>by rcases aN.1 r with m|m;exact n k m;subst m;exact(Ziu e j).trans (Ks ‹_›)⟩ O1 K1 aA
 .obtain rfl:i=ps.length:=O;refine go 11<|Zy 33 J (λq=>?_) (λq=>?_)
  .refine go 8 ?_;exact Yp l () results72 (by rw [Zku n];first|exact vB (bB.2 O)|exact vB (aE O)) aA Za
  .refine go 8 ?_;exact Yp l () results72 (by rw [Zku n];first|exact vB (bB.2 O)|exact vB (aE O)) aA Za
def Ph(c:List Int)(a b d:Int):List Int:=Zw (Lh (tzl c) a b d) (d^(6-c.length))
def Zcn(h:a.natAbs<=3600000):bl a.natAbs<=22:=(Qo 22 _).2 (aV h O3)
theorem Zqc(h:bl d.natAbs<=22):∀k,k<=5->bl (d^k).natAbs<=132
 | 0,_=>by rw [dD];decide
 | k+1,g=>by
  have e:∀k,bl (d^k).natAbs<=22*k+1:=λk=>by
   induction k with
   | zero=>rw [dD];decide
   | succ k j=>rw [dE];have:=Yu (d^k) d;omega
  have:=e (k+1);omega
theorem Zi8(h:∀a∈c,Lo a)(t:1<=c.length/\c.length<=6){b:Int}(r:a.natAbs<=3600000)(s:b.natAbs<=3600000)(F:1<=d/\d<=3600000) :
  Vp (tzl c)/\¬Zns (tzl c) a b d/\Vp (Lh (tzl c) a b d)/\bl (d^(6-c.length)).natAbs<=132/\(∀i,bl (cf (Lh (tzl c) a b d) i*d^(6-c.length)).natAbs<=65536)/\Vp (Ph c a b d)/\Sz 1000 (Ph c a b d)/\(Ph c a b d).length<=6:=by
 have w:(tzl c).length<=6:=aB (Mg c) t.2;have n:Sz 64 (tzl c):=(ab_in h).sz O3;have o:=Zcn r;have p:=Zcn s;have g:bl d.natAbs<=22:=Zcn O;have l:=cp_not (cp_nf n o p g O O);have hs:Sz 300 (Lh (tzl c) a b d):=by
  have h:=Zkc (x:=a) (y:=b) (z:=d) (m:=22) n o p g ((tzl c).length-1);unfold Lh;split
  .exact Sz.nil _
  .refine(Sz.tzl h).mono ?_;have:((tzl c).length-1)*(22+1)<=5*23:=aQ O O;omega
 have v:Tr (Lh (tzl c) a b d):=by
  unfold Lh;split
  .exact .inl rfl
  .exact Xy _
 have j:(Lh (tzl c) a b d).length<=6:=aB (Zfv _ _ _ _) w;have u:=Zqc g (6-c.length) O;have q:∀i,bl (cf (Lh (tzl c) a b d) i*d^(6-c.length)).natAbs<=500:=λi=>by have B:=hs i;have D:=Yu (cf (Lh (tzl c) a b d) i) (d^(6-c.length));omega
 have e:Sz 1000 (Ph c a b d):=λi=>by unfold Ph;rw [Ym];have:=q i;omega
 have k:(Ph c a b d).length<=6:=aB (Pz _ _) j;exact⟨⟨n.mono O,Xy _,O⟩,l,⟨hs.mono O,v,O⟩,u,λi=>by have:=q i;omega,⟨e.mono O,Ql _ _,O⟩,e,k⟩
def Zvg(zs:List (SL×List Int)):List (SL×List Int):=zs ++ List.replicate (3-zs.length) ((none,0,0),[])
theorem Ylq(h:zs.length<=3):(Zvg zs).length=3:=by unfold Zvg;rw [aO,aU];omega
theorem Ykh(hi:i<3)(h:zs.length=i):(Zvg zs).set i z=Zvg (zs ++ [z]):=by subst h;unfold Zvg;rw [List.set_append_right _ _ (aF _),fZ,aO,gU];congr 1;obtain⟨k,e⟩:∃k,3-zs.length=k+1:=⟨2-zs.length,O⟩;rw [e,iK,lY,show 3-(zs.length+[z].length)=k by simp;omega];rfl
theorem Zw9{t:Nat}{s:SL}(g:zs.length=i)(h:∀t,t<i->(zs.getD t d0).2=f t)(j:t<i+1):((zs ++ [(s,f i)]).getD t d0).2=f t:=by
 subst g;rw [aK];rcases aN.1 j with e|e
 .rw [eD e,<-aK];exact h t e
 .subst e;simp
theorem Yha{z:List Int}{b:Int}(k:zs.length=3)(h:∀t,t<3->(zs.getD t d0).2=Ph (Zt t x y z) a b d):∃l m n:SL,zs=[(l,Ph x a b d),(m,Ph y a b d),(n,Ph z a b d)]:=by
 match zs,k with
 | [o,p,q],_=>
  have e:=h 0 O3;have g:=h 1 O3;have j:=h 2 O3;simp [Zt]at e g j;exact⟨o.1,p.1,q.1,by rw [<-e,<-g,<-j]⟩
open Go.RowKit Below
variable {P:Program} {N:Nat} {sc:Nat->Prop} {env env':Px} {H H':Hp} {Q Q':Exit->Act->World->Prop}
def Yiz{n:Nat}{e:String}{w:World}(h:Rows P e args w R):RowsIn Fence.wide n P e args w R:=λc g _=>
 let ⟨v,w',r,s⟩:=h c g;⟨v,w',r,stepsIn_wide.2 s⟩
section
variable {ops:Array Oper} {C:World->World->Prop}
def Clo(ops:Array Oper)(listed:Array Bool):Prop:=∀k o,ops[k]? = some o->listed.getD k true=true->∀e∈o.after,Region.binds .any e=true->listed.getD e.on true=true
theorem Clo.set{j:Nat}(n:Clo ops listed)(q:j∈Region.ready .any ops listed):Clo ops (listed.setIfInBounds j true):=λk o s l e p m=>by
 obtain⟨u,w,t,h⟩:=mem_ready.1 q;have v:listed.getD e.on true=true:=by
  by_cases g:j=k
  .grind
  .rw [getD_set_ne _ g]at l;exact n k o s l e p m
 by_cases r:j=e.on
 all_goals simp_all
end
end Go.Sky
namespace Go.Sky
open Go.RowKit Below
variable {P:Program} {N:Nat} {sc:Nat->Prop} {env env':Px} {H H':Hp} {Q Q':Exit->Act->World->Prop}
theorem Yi9{fn:Func}{tmps:Array Value}{w:World}(a:fn.results=#[]):(results fn tmps).run P w= .ok (.tuple #[]) w:=by simp_all [Zl8]
end Go.Sky
namespace Go.Sky
open Go.RowKit Below
variable{f:FuncId}{vs:List Value}{pre:List Pc}{o:Oper}{a:Act}{w:World}{K K':Act->World->Prop}{r:Nat}{ρ:Operand->Value}{Q1:Exit->Act->World->Prop}
variable {P:Program} {N:Nat} {sc:Nat->Prop} {env env':Px} {H H':Hp} {Q Q':Exit->Act->World->Prop}
def Zf5(P:Program)(fn:Func)(d:World)(pre:List Pc)(al:Bool){G:Type}(φ:G->Prop)(val:G->Value)(c:G->List Pc):Exit->Act->World->Prop:=
  bodyPostM Fence.wide 0 P fn λe h => ∃ g, e = .returned (val g) /\ φ g /\ Below d.heap.size d h /\
        ∀p∈c g,p.holds h/\p.own=false/\∀b,p.fp b->d.heap.size<=b\/(al=true/\∃q∈pre,q.fp b)
theorem Ydu  {fn:Func} {c:Code}   {al:Bool} {G:Type} {φ:G->Prop} {val:G->Value} {k:G->List Pc} {N:Nat}
    (y:P.funcs[f]? = some fn) (d:fn.body=some c) (M:fn.ntmps=N) (z:Nat.ble vs.length N=true) (m:AllRo pre)
    (h:∀w0 (sc:Nat->Prop),(∀b,w0.heap.size<=b->sc b)->(∀b,sc b->w0.heap.size<=b\/∃q∈pre,q.fp b)->
      E P N sc c (Zf5 P fn w0 pre al φ val k) (Pv 0 vs) ((0,Xu w0 (λ_=>False))::Xk 1 pre)) :
    Cal P f vs.toArray pre al φ val k:=λw F=>by
  refine(callsIn_wide).1 (callsIn_of_wp_marks y d aA (wpIn_wide.2 (h w _ (λb d=> .inl d) (λb d=>d) _ w ?_)));have s:vs.length<=N:=O10;refine⟨O4,rfl,λt v I=>?_,λi p hi=>?_,λi j p q D hi R u b d x=>?_,λi p l hi b d=>?_⟩
  . have n:=(Ft vs 0 t v I).2;have n:vs.toArray[t]? = some v:=O4;have B:=(aT.1 n).1;simp_all [bL,eA]
  . by_cases g:0=i
    . subst g;cases hi;exact Chg.refl _ w
    . rw [Yc _ _ g]at hi;exact F p (Mk pre 1 i p hi).2
  . by_cases g:0=i
    . subst g;cases hi;cases u
    . rw [Yc _ _ g]at hi;rw [m.mem p (Mk pre 1 i p hi).2]at u;grind
  . rw [Yc _ _ (λe=>l e.symm)]at hi;exact .inr ⟨p,(Mk pre 1 i p hi).2,d⟩
theorem Bt:¬LetsOut (Cw Q):=λ⟨_,_,h⟩=>h
theorem Yq6(b:∀c,o.op≠ .defer c)(h:o.wp P a w K (Cw Q)):o.wpIn (Fence.wide.inRound r) 0 P a w K Q:=by
  refine⟨λ_ _=>trivial,?_⟩;unfold Oper.wp at h;show o.uponIn _ 0 P a K Q ((o.semAt (some r) _).run P w);rw [Oper.semAt_some r _ o b];generalize (execOp _ o).run P w=x at *;cases x with
  | ok n g=>
    cases n<;>simp only [Oper.upon,Oper.uponIn]at h ⊢
    case value=>omega
    case skip=>omega
    case defer=>omega
    case enter f args=>
      refine⟨λh=>(by cases h),CallsIn.inRound r (callsIn_wide.2 (h.mono λe i d=>?_))⟩;cases e with
      | returned v=>omega
      | panicked c=>exact d.elim
      | outgrown=>grind [Bt]
    case row row args=>exact⟨λh=>(by cases h),Yiz h⟩
  | halt x g=>
    cases x<;>simp only [Oper.upon]at h
    case panic u=>exact h.elim
def Zrp(l:List Oper):Prop:=∀o∈l,∀c,o.op≠ .defer c
theorem Zrw{ops:Array Oper}{r:Nat} : ∀(l:List Oper) (a:Act) (w:World),Zrp l->wpList P ops (Cw Q) l a w->wpListIn (Fence.wide.inRound r) 0 P ops Q l a w
  | [],_,_,_,h=>h
  | o::l,a,w,hnd,h=>by
    unfold wpList at h;unfold wpListIn;split
    . rename_i c;simp only [c,jF]at h;exact Oper.wpIn_mono (λa w d=>Zrw l a w (λo b=>hnd o (bT _ b)) d) (Yq6 (hnd o (cC ..)) (h.resolve_right λh=>Bt h.2))
    . rename_i c;simp only [c]at h;exact⟨λ_ _=>trivial,Zrw l _ w (λo b=>hnd o (bT _ b)) h⟩
def Yjc{id:Nat}{l:List Oper}(b:Zrp l)(h:L P N sc l.toArray l (Cw Q) env H)(hs:Sat N sc env H a w):(Code.region id l.toArray false).wpIn (Fence.wide.inRound r) 0 P Q a w:=
  wpIn_region_lit (Zrw l a w b (h a w hs))
def fx(l:Nat)(o:Obj):Pc:=
  { own:=false,fp:=λb=>b=l,holds:=λw=>w.heap[l]? = some o
    lt:=λw b h c=>by subst c;exact(aT.1 h).1
    stable:=λw g h d=>(d.block l (aT.1 h).1 (λe=>e rfl)).trans h }
def Zg0(o:Oper):Bool:=match o.op with
  | .build ..=>true
  | .store ..=>true
  | .load ..=>true
  | .alloc ..=>true
  | _=>false
theorem Ykb(h:Zg0 o=true){w':World}{d:Deferred} : (execOp ρ o).run P w≠ .ok (.defer d) w':=λb=>by
  unfold Zg0 at h;cases ho:o.op<;>simp only [ho]at h<;>try (cases h)
  all_goals
    simp only [execOp,ho,Sem.run_bind]at b;revert b;generalize Sem.run P _ w=r;cases r<;>simp [Result.andThen,Sem.run_pure]
theorem Zmh(a:Act)(ds:List Deferred)(d:Option Tmp)(v:Value):({ a with defers:=ds } : Act).put d v={ a.put d v with defers:=ds }:=by cases d<;>rfl
theorem Yq7    {ds:List Deferred}   (b:Zg0 o=true) (k:∀a w,K a w->K' { a with defers:=ds } w)
    (l:∀e a w,¬Q1 e a w) (h:o.wp P a w K Q1):o.wp P { a with defers:=ds } w K' Q:=by
  unfold Oper.wp at h ⊢;have i:=λd w'=>Ykb (P:=P) b (ρ:=a.eval) (w:=w) (w':=w') (d:=d);show o.upon P _ K' Q ((execOp a.eval o).run P w);generalize (execOp _ o).run P w=x at *;cases x with
  | ok n w'=>
    cases n<;>simp only [Oper.upon]at h ⊢
    case value=>grind [Zmh]
    case skip=>grind [Zmh]
    case defer d=>grind
    case enter f args=>
      refine h.mono λe j g=>?_;cases e with
      | returned v=>grind [Zmh]
      | panicked c=>grind
      | outgrown=>obtain⟨_,_,h⟩:=g;grind
    case row row args=>exact h.mono λ_ _ g=>by grind [Zmh]
  | halt x w'=>
    cases x<;>simp only [Oper.upon]at h;grind
theorem Zrx{ops:Array Oper}{ds:List Deferred} : ∀(l:List Oper) (a:Act) (w:World),l.all Zg0=true->wpList P ops (Cw λe a w=>Q e { a with defers:=ds } w) l a w->wpList P ops Q l { a with defers:=ds } w
  | [],_,_,_,h=>h
  | o::l,a,w,hnd,h=>by
    simp only [lW,aY]at hnd;unfold wpList at h ⊢;split
    . rename_i d;simp only [d,jF]at h;have h:=h.resolve_right λh=>Bt h.2;refine .inl (Yq7 hnd.1 (λa w g=>Zrx l a w hnd.2 g) (λ_ _ _ h=>h) ?_);unfold Oper.wp at h ⊢;revert h;generalize (execOp _ o).run P w=x;intro h;cases x with
      | ok n i=>
        cases n<;>simp only [Oper.upon]at h ⊢
        case value=>exact h
        case skip=>exact h
        case defer=>exact h
        case enter f args=>
          refine h.mono λe j b=>?_;cases e with
          | returned v=>exact b
          | panicked c=>exact b
          | outgrown=>exact absurd b Bt
        case row row args=>exact h
      | halt x i=>
        cases x<;>simp only [Oper.upon]at h ⊢
        case panic u=>exact h
    . rename_i d;rw [aJ d]at h;rw [Zmh];exact Zrx l _ w hnd.2 h
end Go.Sky
namespace Go.Sky
open Go.RowKit Below
variable{a:Act}{w:World}{i:Nat}
variable {P:Program} {N:Nat} {sc:Nat->Prop} {env env':Px} {H H':Hp} {Q Q':Exit->Act->World->Prop}
abbrev ALL:Nat->Prop:=λ_=>True
def FpSub:Hp->Hp->Prop
 | [],_=>True
 | (i,p)::r,H=>(∃q,lk H i=some q/\p.own=q.own/\∀b,p.fp b->q.fp b)/\FpSub r H
theorem FpSub.lk:∀{H' H:Hp},FpSub H' H->∀i p,lk H' i=some p->∃q,lk H i=some q/\p.own=q.own/\∀b,p.fp b->q.fp b
 | [],_,_,_,_,h=>by cases h
 | (k,u)::r,H,h,i,p,hi=>by
  by_cases c:k=i
  .subst c;rw [Yv]at hi;cases hi;exact h.1
  .rw [Yc _ _ c]at hi;exact FpSub.lk h.2 i p hi
theorem Sat.re{w':World}(hs:Sat N sc env H a w)(l:∀i p,lk H' i=some p->∃q,lk H i=some q/\p.own=q.own/\∀b,p.fp b->q.fp b)(n:∀i p,lk H' i=some p->p.holds w'):Sat N ALL env H' a w':=
 ⟨hs.size,hs.defers,hs.env,n,λi j p q f hi o r b m c=>by obtain⟨s,h,g,d⟩:=l i p hi;obtain⟨t,k,_,e⟩:=l j q o;exact hs.sep i j s t f h k (g▸r) b (d b m) (e b c),λ_ _ _ _ _ _=>trivial⟩
def FpN:Hp->Hp->Prop
 | [],_=>True
 | (i,p)::r,H=>(p.own=true\/∃q,lk H i=some q/\∀b,p.fp b->q.fp b)/\FpN r H
theorem FpN.lk:∀{H' H:Hp},FpN H' H->∀i p,lk H' i=some p->p.own=true\/∃q,lk H i=some q/\∀b,p.fp b->q.fp b
 | [],_,_,_,_,h=>by cases h
 | (k,u)::r,H,h,i,p,hi=>by
  by_cases c:k=i
  .subst c;rw [Yv]at hi;cases hi;exact h.1
  .rw [Yc _ _ c]at hi;exact FpN.lk h.2 i p hi
theorem lk3{p q:Pc}{r:Pc}(h:lk ((90,p)::(91,q)::H) i=some r):(i=90/\r=p)\/(i=91/\r=q)\/(i≠90/\i≠91/\lk H i=some r):=by grind [Yv,Yc]
theorem lk3'{p q:Pc}(b:i≠90)(c:i≠91):lk ((90,p)::(91,q)::H) i=lk H i:=by grind [Yc]
theorem Sat.turn{l D:Nat}{o d f:Obj}(hs:Sat N ALL env ((90,fx l o)::(91,fx D f)::H) a w)(c:l≠D)(s:∀i p,i≠90->i≠91->lk H i=some p->¬p.fp l) :
  Sat N ALL env ((90,fx l d)::(91,fx D f)::H) a (w.putObj l d):=by
 have n:=hs.hold 90 _ rfl;have m:=hs.hold 91 _ rfl;refine hs.re (λi p hi=>?_) (λi p hi=>?_)
 .rcases lk3 hi with⟨rfl,rfl⟩|⟨rfl,rfl⟩|⟨g,j,hi⟩
  .exact⟨_,rfl,rfl,λ_ h=>h⟩
  .exact⟨_,rfl,rfl,λ_ h=>h⟩
  grind [lk3']
 .rcases lk3 hi with⟨rfl,rfl⟩|⟨rfl,rfl⟩|⟨g,j,q⟩
  .exact World.putObj_heap_same (aT.1 n).1
  .exact(World.putObj_heap_other (λe=>c e.symm)).trans m
  .refine p.stable _ _ (hs.hold i p (by grind [lk3'])) ⟨rfl,rfl,rfl,O5,λk r b=>World.putObj_heap_other (λe=>b ?_)⟩;grind
theorem Sat.round(hs:Sat N sc env H a w)(d:Nat)(v:Value)(b:Nat.blt d N=true):Sat N sc ((d,v)::env) H { tmps:=(#[d].zip #[v]).foldl (λt (p,v)=>t.setIfInBounds p v) a.tmps,defers:=[] } w:=by
 have h:=hs.put d v b;have e:(a.put (some d) v)={ tmps:=(#[d].zip #[v]).foldl (λt (p,v)=>t.setIfInBounds p v) a.tmps,defers:=[] }:=by show({ a with tmps:=a.tmps.setIfInBounds d v })=_;rw [<-hs.defers];simp
 grind
theorem Iq{ops:Array Oper}{k m:Exit->Act->World->Prop}(b:∀e a w,k e a w->m e a w):∀(l:List Oper) (a:Act) (w:World),wpList P ops k l a w->wpList P ops m l a w
 | [],_,_,h=>b _ _ _ h
 | o::l,a,w,h=>by
  unfold wpList at h ⊢;split
  .rename_i g;rw [aP g]at h;rcases h with h|⟨q,p,j,r⟩
   .refine .inl ?_;unfold Oper.wp at h ⊢;revert h;generalize (execOp _ o).run P w=x;intro h;cases x with
    | ok n j=>
     cases n<;>simp only [Oper.upon]at h ⊢
     case value=>exact Iq b l _ _ h
     case skip=>exact Iq b l _ _ h
     case defer=>exact Iq b l _ _ h
     case enter f args=>
      refine h.mono λe s d=>?_;cases e with
      | returned v=>exact Iq b l _ _ d
      | panicked c=>grind
      | outgrown=>obtain⟨a,w,h⟩:=d;exact⟨a,w,b _ _ _ h⟩
     case row row args=>exact h.mono λ_ _ d=>Iq b l _ _ d
    | halt x j=>
     cases x<;>simp only [Oper.upon]at h ⊢;grind
   .exact .inr ⟨q,p,j,b _ _ _ r⟩
  .rename_i g;rw [aJ g]at h;exact Iq b l _ _ h
end Go.Sky
namespace Go.Sky
open Go.RowKit Below
variable{f:FuncId}{fn:Func}{lb vs:List Value}{pre:List Pc}{ops:Array Oper}{o:Oper}{ts:Array Value}{rest:List Oper}{d:Nat}{w0 W:World}{M:Nat->Prop}{x:Operand}{ops':List Operand}{tys:Array TypeId}{Jx:World->Prop}
variable {P:Program} {N:Nat} {sc:Nat->Prop} {env env':Px} {H H':Hp} {Q Q':Exit->Act->World->Prop}
def YJI(P:Program)(w0:World)(l:Nat)(M:Nat->Prop)(J:Nat->World->Prop)(Jx:World->Prop){α G:Type}(xs:List α)(ys:α->G->List Value)(h:α->G->List Pc):Prop:=
 ∀k x g,xs[k]? = some x->∀W a,J k W->w0.heap.size<=W.heap.size->Below W.heap.size W a->(∀p∈h x g,p.holds a/\p.own=false/\∀b,p.fp b->W.heap.size<=b)->
  YieldAt Fence.wide 0 P l (ys x g).toArray a λe c=>(e= .returned (.bool true)/\J (k+1) c/\Chg (λb=>M b\/w0.heap.size<=b) a c)\/(e= .returned (.bool false)/\Jx c/\Chg (λb=>M b\/w0.heap.size<=b) a c)
def Zoe(J:World->Prop):Prop:=∀W a,J W->Below W.heap.size W a->J a
def Yuc(P:Program)(f:FuncId)(lb:List Value)(pre:List Pc){α G:Type}(xs:List α)(ys:α->G->List Value)(a:α->G->List Pc):Prop:=
 ∀(l:Nat) (M:Nat->Prop) (J:Nat->World->Prop) (Jx:World->Prop) (w:World),
  (∀p∈pre,p.holds w)->(∀p∈pre,∀b,p.fp b->¬M b)->(∀k,Zoe (J k))->Zoe Jx->J 0 w->YJI P w l M J Jx xs ys a->
  Calls P f (.func (.yield l) #[] #[]::lb).toArray w λe c=>(∃v,e= .returned v)/\(J xs.length c\/Jx c)
def Yoy(P:Program)(fn:Func)(n:Nat)(J:Nat->World->Prop)(Jx:World->Prop):Exit->Act->World->Prop:=
 bodyPost P fn λe a=>(∃v,e= .returned v)/\(J n a\/Jx a)
theorem Ydt   {c:Code}   {α G:Type} {xs:List α} {ys:α->G->List Value} {n:α->G->List Pc} {N:Nat}
  (V:P.funcs[f]? = some fn) (a:fn.body=some c) (hN:fn.ntmps=N) (Y:Nat.ble (lb.length+1) N=true) (y:AllRo pre)
  (h:∀(l:Nat) (M:Nat->Prop) (J:Nat->World->Prop) (Jx:World->Prop) w0 (sc:Nat->Prop),(∀b,w0.heap.size<=b->sc b)->(∀p∈pre,∀b,p.fp b->b<w0.heap.size/\¬M b)->(∀k,Zoe (J k))->Zoe Jx->J 0 w0->YJI P w0 l M J Jx xs ys n->
   E P N sc c (Yoy P fn xs.length J Jx) (Pv 0 (.func (.yield l) #[] #[]::lb)) ((0,Xu w0 (λ_=>False))::Xk 1 pre)) :
  Yuc P f lb pre xs ys n:=λl M J Jx w F hm I s r R=>by
 refine calls_of_wp V a (h l M J Jx w (λb=>w.heap.size<=b\/∃q∈pre,q.fp b) (λb a=> .inl a) (λp m b a=>⟨p.lt w b (F p m) a,hm p m b a⟩) I s r R _ w ?_);have B:lb.length+1<=N:=O10;refine⟨O4,rfl,λt v ht=>?_,λi p hi=>?_,λi j p q a0 hi hj D b a S=>?_,λi p u hi b a=>?_⟩
 .have z:=(Ft _ 0 t v ht).2;have z:(Value.func (.yield l) #[] #[]::lb).toArray[t]? = some v:=O4;have Z:=(aT.1 z).1;simp_all [bL,eA]
 .by_cases g:0=i
  .subst g;cases hi;exact Chg.refl _ w
  .rw [Yc _ _ g]at hi;exact F p (Mk pre 1 i p hi).2
 .by_cases g:0=i
  .subst g;cases hi;cases D
  .rw [Yc _ _ g]at hi;rw [y.mem p (Mk pre 1 i p hi).2]at D;grind
 .rw [Yc _ _ (λe=>u e.symm)]at hi;exact .inr ⟨p,(Mk pre 1 i p hi).2,a⟩
def LI(P:Program)(N:Nat)(sc:Nat->Prop)(ops:Array Oper)(rest:List Oper)(Q:Exit->Act->World->Prop)(env:Px)(H:Hp):Prop:=
 ∀a w,Sat N sc env H a w->wpListIn Fence.wide 0 P ops Q rest a w
def Yms{id:Nat}{l:List Oper}(h:LI P N sc l.toArray l Q env H):E P N sc (.region id l.toArray false) Q env H:=λa w hs=>
 (wpIn_wide).1 (wpIn_region_lit (h a w hs))
theorem Zje(a:o.guard=none):Region.wanted o (yielded ops ts)=true:=by simp [Region.wanted,a]
theorem Kq{v:Value}(g:Mr P N sc o env H v)(c:o.dst=some d)(h:LI P N sc ops rest Q ((d,v)::env) H)(e:o.guard=none:=by rfl)(b:Nat.blt d N=true:=by rfl):LI P N sc ops (o::rest) Q env H:=λa w hs=>by unfold wpListIn;rw [aP (Zje e)];refine⟨λ_ _=>trivial,?_⟩;show o.uponIn _ 0 P a _ Q ((execOp _ o).run P w);rw [g a w hs];show wpListIn _ 0 P ops Q _ _ w;rw [c];exact h _ w (hs.put d v b)
def Za3(h:X N sc .normal Q env H):LI P N sc ops [] Q env H:=λa w hs=>h a w hs
theorem Sat.base {r m:World}   {a:Act} (hs:Sat N sc env H a r) (u:∀p∈pre,∀b,p.fp b->b<w0.heap.size/\¬M b) (n:AllRo pre) (c:HSub (Xk 1 pre) H)
  (h:Chg (λb=>M b\/w0.heap.size<=b) r m):Sat N sc env ((0,Xu m (λ_=>False))::Xk 1 pre) a m:=by
 refine⟨hs.size,hs.defers,hs.env,λi p hi=>?_,λi j p q y hi B t b s v=>?_,λi p l hi b s=>?_⟩
 .by_cases g:0=i
  .subst g;cases hi;exact Chg.refl _ _
  .rw [Yc _ _ g]at hi;have F:=(Mk pre 1 i p hi).2;refine p.stable _ _ (hs.hold i p (c.lk i p hi)) ⟨h.os,h.tape,h.output,h.size,λk w D=>h.block k w (λz=>?_)⟩;grind
 .by_cases g:0=i
  .subst g;cases hi;cases t
  .rw [Yc _ _ g]at hi;rw [n.mem p (Mk pre 1 i p hi).2]at t;grind
 .rw [Yc _ _ (λe=>l e.symm)]at hi;exact hs.scope i p l (c.lk i p hi) b s
theorem Ylo (pre:List Pc)    {l:Nat}       {J:Nat->World->Prop}  {α G:Type} {xs:List α} {ys:α->G->List Value} {F:α->G->List Pc} 
  {k:Nat} (y:α) (g:G) (hY:YJI P w0 l M J Jx xs ys F) (hy:xs[k]? = some y) (hJ:J k W) (hW:w0.heap.size<=W.heap.size) (n:∀p∈pre,∀b,p.fp b->b<w0.heap.size/\¬M b)
  (ho:o.op= .call { callee:= .value x,args:=ops'.toArray,argTypes:=tys }) (hg:o.guard=none) (hd:o.dst=some d) (hN:Nat.blt d N=true) (hx:ev env x=some (.func (.yield l) #[] #[])) (s:EvL env ops' vs) (V:vs=ys y g)
  (h0:lk H 0=some (Xu W (λ_=>False))) (v:∀p∈F y g,p.own=false/\(∀b,p.fp b->W.heap.size<=b)/\∃i R,lk H i=some R/\∀w,R.holds w->p.holds w)
  (z:AllRo pre) (q:HSub (Xk 1 pre) H)
  (ht:∀c,J (k+1) c->w0.heap.size<=c.heap.size->LI P N sc ops rest Q ((d,.bool true)::env) ((0,Xu c (λ_=>False))::Xk 1 pre))
  (hf:∀c,Jx c->w0.heap.size<=c.heap.size->LI P N sc ops rest Q ((d,.bool false)::env) ((0,Xu c (λ_=>False))::Xk 1 pre)):LI P N sc ops (o::rest) Q env H:=λa w hs=>by
 subst V;have Z:=Hl (hs.hold 0 _ h0);obtain⟨fn,I,j,t,B,m⟩:=hY k y g hy W w hJ hW Z (λp hp=>by obtain⟨h1,h2,i,R,hi,hh⟩:=v p hp;exact⟨hh w (hs.hold i R hi),h1,h2⟩)
 have S:(o.semAt Fence.wide.round a.eval).run P w= .ok (.round l fn I j t) w:=by show(execOp _ o).run P w=_;have hm:=s.map hs;have Y:=hs.ev hx;simp [execOp,ho,resolve,invoke,Deferred.ofValue,hm,Y,B,Sem.run_bind]
 unfold wpListIn;rw [aP (Zje hg)];refine⟨λ_ _=>trivial,?_⟩;rw [S];refine⟨λh=>(by cases h),m.mono ?_⟩;have D:=aB hW Z.size;rintro e c (⟨rfl,r,u⟩|⟨rfl,r,u⟩)
 .rw [hd];exact ht c r (aB D u.size) _ c ((hs.base n z q u).put d _ hN)
 .rw [hd];exact hf c r (aB D u.size) _ c ((hs.base n z q u).put d _ hN)
theorem Zfe{J:Nat->World->Prop}{n:Nat}{e:Exit}(l:e= .ret\/e= .normal)(m:fn.results=#[])(j:lk H 0=some (Xu W (λ_=>False)))(b:∀k,Zoe (J k))(c:Zoe Jx)(h:J n W\/Jx W):X N sc e (Yoy P fn n J Jx) env H:=λa w hs=>by
 have i:=Hl (hs.hold 0 _ j);have g:a.defers=[]/\∃v,(results fn a.tmps).run P w= .ok v w/\((∃u,Ending.returned v= .returned u)/\(J n w\/Jx w)):=
  ⟨hs.defers,_,Yi9 m,⟨_,rfl⟩,h.imp (λh=>b n W w h i) (λh=>c W w h i)⟩
 rcases l with rfl|rfl<;>exact g
end Go.Sky
namespace Go.Sky
open Go.RowKit Below
variable{w W W':World}{m:Nat}{Mf:Nat->Prop}{Hn:Hp}{a:Act}{fn:Func}{preF:List Pc}{lbv:List Value}
variable {P:Program} {N:Nat} {sc:Nat->Prop} {env env':Px} {H H':Hp} {Q Q':Exit->Act->World->Prop}
def FpM:Hp->Hp->Prop
 | [],_=>True
 | (i,p)::r,H=>(p.own=true\/∀b,p.fp b->∃j q,lk H j=some q/\q.fp b)/\FpM r H
theorem FpM.lk:∀{H' H:Hp},FpM H' H->∀i p,lk H' i=some p->p.own=true\/∀b,p.fp b->∃j q,lk H j=some q/\q.fp b
 | [],_,_,_,_,h=>by cases h
 | (k,u)::r,H,h,i,p,hi=>by
  by_cases c:k=i
  .subst c;rw [Yv]at hi;cases hi;exact h.1
  .rw [Yc _ _ c]at hi;exact FpM.lk h.2 i p hi
structure Kps (sc:Nat->Prop) (w:World) (m:Nat) (Mf:Nat->Prop) (Hn:Hp) (W:World):Prop where
 hold:∀i it,lk Hn i=some it->it.holds W
 sep:∀i j it jt,i≠j->lk Hn i=some it->lk Hn j=some jt->it.own=true->∀b,it.fp b->jt.fp b->False
 scope:∀i it,i≠0->lk Hn i=some it->∀b,it.fp b->sc b
 off:∀i it,lk Hn i=some it->it.own=false->∀b,it.fp b->b<w.heap.size\/m<=b
 mf:∀i it,lk Hn i=some it->it.own=true->∀b,it.fp b->Mf b
def Mof(m:Nat)(H:Hp)(b:Nat):Prop:=(∃i q,lk H i=some q/\q.own=true/\q.fp b)\/m<=b
def Kps.chg(h:Kps sc w m Mf Hn W)(d:∀i c,lk Hn i=some c->Chg (λb=>¬c.fp b) W W'):Kps sc w m Mf Hn W':=
 ⟨λi c hi=>c.stable _ _ (h.hold i c hi) (d i c hi),h.sep,h.scope,h.off,h.mf⟩
def Kps.stays(h:Kps sc w m Mf Hn W)(b:Below W.heap.size W W'):Kps sc w m Mf Hn W':=h.chg λ_ _ _=>Chg.of_below b
theorem Kps.put{d:Nat}{o:Obj}(h:Kps sc w m (Mof m H) Hn W)(g:∀i q,lk H i=some q->∀b,q.fp b->b<w.heap.size)(p:w.heap.size<=d/\d<m):Kps sc w m (Mof m H) Hn (W.putObj d o):=
 h.chg λi c hi=>⟨rfl,rfl,rfl,O5,λk r l=>World.putObj_heap_other (λe=>l λf=>by
  cases ho:c.own with
  | false=>rcases h.off i c hi ho _ f with h|h<;>omega
  | true=>
   rcases h.mf i c hi ho _ f with⟨j,q,s,_,n⟩|h
   all_goals grind)⟩
def Kps.sat(h:Kps sc w m Mf Hn W)(b:a.tmps.size=N)(c:a.defers=[])(d:∀t v,lk env t=some v->a.tmps.getD t undef=v):Sat N sc env Hn a W:=⟨b,c,d,h.hold,h.sep,h.scope⟩
def Zr3(H:Hp)(b:World):Prop:=lk H 0=some (Xu b (λ_=>False))/\lk H 92=none
def Mfs(sc:Nat->Prop)(m:Nat)(H:Hp)(b:Nat):Prop:=Mof m H b\/¬sc b
theorem Sat.ps {o y:World} {n:Nat} {d:Hp}  (hs:Sat N sc env ((n,Xu o (Mfs sc m H))::Hn) a y) (S:lk Hn n=none) (R:n≠0) (Z:∀q,lk Hn 0=some q->q.own=false) (hb:m<=o.heap.size)
  (F:FpM Hn d) (u:∀j q,lk d j=some q->∀b,q.fp b->q.own=true->Mof m H b) (B:∀j q,lk d j=some q->∀b,q.fp b->q.own=false->b<w.heap.size\/m<=b) (M:∀i q,lk H i=some q->∀b,q.fp b->b<w.heap.size):Kps sc w m (Mof m H) Hn y:=by
 have g:∀i c,lk Hn i=some c->lk ((n,Xu o (Mfs sc m H))::Hn) i=some c:=λi c hi=>by grind [Yc]
 have s:∀i c,lk Hn i=some c->c.own=true->∀b,c.fp b->Mof m H b:=λi c hi z b f=>by
  have k:i≠n:=λe=>O4;have p:i≠0:=λe=>O4;have Y:=hs.scope i c p (g i c hi) b f;have:=hs.sep i n c _ k (g i c hi) (Yv _ _ _) z b f;by_cases l:b<o.heap.size
  .rcases(eT.1 λv=>this ⟨l,v⟩)with h|h
   all_goals grind
  .exact .inr O
 refine⟨λi c hi=>hs.hold i c (g i c hi),λi j c D t hi I=>hs.sep i j c D t (g i c hi) (g j D I),λi c r hi=>hs.scope i c r (g i c hi),λi c hi z b f=>?_,s⟩;rcases F.lk i c hi with h|h
 .grind
 .obtain⟨j,q,v,x⟩:=h b f;cases hqo:q.own with
  | false=>grind
  | true=>
   rcases u j q v b x hqo with⟨i',q',V,_,G⟩|h
   all_goals grind
def LpAt(l:Nat)(Mf:Nat->Prop)(W:World):Prop:=(∃r,W.heap[l]? = some (.loop r))/\¬Mf l
def RBn(n:Nat)(N:Nat)(sc:Nat->Prop)(Mf:Nat->Prop)(b:Hp){h i:Type}(j:h->Hp)(g:h->Prop)(k:i->Hp)(c:i->Prop)(l:World):Exit->Act->World->Prop:=λe a W=>
 (e= .normal/\∃d,g d/\FpM (j d) b/\∃env',Sat N sc env' ((n,Xu l Mf)::j d) a W)\/(e= .ret/\∃f,c f/\FpM (k f) b/\∃env',Sat N sc env' ((n,Xu l Mf)::k f) a W)
def RAn(n:Nat)(P:Program)(N:Nat)(sc:Nat->Prop)(l:Nat)(Mf:Nat->Prop)(b:Hp)(body:Code){i j:Type}(k:i->Hp)(h:i->Prop)(o:j->Hp)(f:j->Prop)(p:World):Exit->Act->World->Prop:=λe a W=>
 e= .normal/\∃c d,lk d n=none/\(∀q,lk d 0=some q->q.own=false)/\FpM d b/\Sat N sc c ((n,Xu p Mf)::d) a W/\
  ∀g,LpAt l Mf g->∀a W,Sat N sc c ((n,Xu g Mf)::d) a W->body.wpIn (Fence.wide.inRound l) 0 P (RBn n N sc Mf b k h o f g) a W
theorem Yb1:∀(l:List Pc) (n:Nat) (H:Hp) (j:Nat) (q:Pc),lk (adds n l H) j=some q->q∈l\/lk H j=some q
 | [],_,_,_,_,h=> .inr h
 | p::r,n,H,j,q,h=>by
  by_cases b:n=j
  .subst b;rw [Yv]at h;cases h;exact .inl (cC ..)
  .rw [Yc _ _ b]at h;exact(Yb1 r _ H j q h).imp (bT _) id
@[reducible] def renv:List Nat->List Value->Px->Px
 | p::ps,v::vs,env=>renv ps vs ((p,v)::env)
 | _,_,env=>env
theorem Sat.rounds{w:World} : ∀(ps:List Nat) (vs:List Value) {env:Px} {b:Array Value},(ps.all λp=>Nat.blt p N)=true->Sat N sc env H { tmps:=b,defers:=[] } w->
  Sat N sc (renv ps vs env) H { tmps:=(ps.zip vs).foldl (λt c=>t.setIfInBounds c.1 c.2) b,defers:=[] } w
 | [],_,_,_,_,h=>h
 | _::_,[],_,_,_,h=>h
 | p::ps,v::vs,env,b,hp,h=>by simp only [lW,aY]at hp;exact Sat.rounds ps vs hp.2 (h.put p v hp.1)
theorem Zwf  {d:World}  {al:Bool} {c:Type} {φ:c->Prop} {val:c->Value} {b:c->List Pc}  {D:Nat}
  (e:W.heap[D]? = some (.deferred (some []))) (h:Zcu P fn d preF al φ val b .ret { a with defers:=[] } (W.putObj D (.deferred none))) :
  Zf5 P fn d preF al φ val b .ret { a with defers:=[{ target:= .collected D,args:=#[] }] } W:=by
 obtain⟨-,v,g,f⟩:=h;exact⟨O5,.inl ⟨_,_,rfl,run_takeDeferred e,⟨v,g,f⟩⟩⟩
theorem e_rfi (g2:List Pc)(w0:World) {g:Operand} {gf i8 g3:Nat} {ps:List Nat} {assign body:Code}   {α G:Type} {xs:List α} {ys:α->G->List Value} {I:α->G->List Pc} {lc:List Oper}    {al:Bool} {GF:Type} {φ:GF->Prop} {val:GF->Value} {S:GF->List Pc}
  {GG GX:Type} (V:Nat->GG->Hp) (c3:Nat->GG->Prop) (HX:GX->Hp) (c4:GX->Prop) (d2:GG)
  (hg:ev env g=some (.func (.func gf) #[] lbv.toArray)) (eg:∀args w,(callFunc gf args).run P w= .ok (.enter gf args) w) (hc:Yuc P gf lbv g2 xs ys I)
  (hp:∀p∈g2,p.own=false/\∃i,lk H i=some p) (i4:∀x M,(ys x M).length=ps.length) (i3:(ps.all λp=>Nat.blt p N)=true)
  (hw:∀b,w0.heap.size<=b->sc b) (h0:lk H 0=some (Xu w0 (λ_=>False)))
  (b8:c3 0 d2) (b3:HSub (V 0 d2) H) (hk:∀k y,Zr3 (V k y) w0) (i0:∀gx,Zr3 (HX gx) w0)
  (c6:∀k x M y,xs[k]? = some x->c3 k y->∀l Mf Y a W,Sat N sc (renv ps (ys x M) env) ((92,Xu Y Mf)::adds 100 (I x M) (V k y)) a W->
   assign.wpIn (Fence.wide.inRound l) 0 P (RAn 92 P N sc l Mf (adds 100 (I x M) (V k y)) body (V (k+1)) (c3 (k+1)) HX c4 Y) a W)
  (i2:lc.all Zg0=true)
  (hC:∀y,c3 xs.length y->∀D od,L P N sc lc.toArray lc (Cw λe a w=>e= .normal/\∃b6 H2,lk H2 92=none/\FpSub H2 (V xs.length y)/\Sat N sc b6 ((92,fx D od)::H2) a w/\X N sc .ret (Zcu P fn w0 preF al φ val S) b6 H2) env ((92,fx D od)::V xs.length y))
  (hX:∀gx,c4 gx->X N sc .ret (Zcu P fn w0 preF al φ val S) env (HX gx)) :
  E P N sc (.rangeFunc g ps.toArray assign body) (Exit.inBlock g3 (Exit.then ((Code.seq (.region i8 lc.toArray false) .ret).wp P (Zf5 P fn w0 preF al φ val S)) (Zf5 P fn w0 preF al φ val S))) env H:=λa w hs=>by
 have a2:∀i p,lk H i=some p->∀b,p.fp b->b<w.heap.size:=λi p hi b f=>p.lt w b (hs.hold i p hi) f;have i7:w0.heap.size<=w.heap.size:=(hs.hold 0 _ h0).size;refine(wpIn_wide (n:=0)).1 (wpIn_rangeFunc ?_);intro d1 h7;obtain⟨c,d⟩:∃c:LoopState->Option Code->Loop,c=λst pe=>{ state:=st,pending:=pe,fn:=d1,tmps:=a.tmps,params:=ps.toArray,assign:=assign,body:=body,defers:=w.heap.size }:=⟨_,rfl⟩;obtain⟨W1,b7⟩:∃W1,(w.alloc (.deferred (some []))).alloc (.loop (c .ready none))=W1:=⟨_,rfl⟩;have g7:W1.heap[w.heap.size+1]? = some (.loop (c .ready none)):=by rw [<-b7];have:=World.alloc_heap_new (w.alloc (.deferred (some []))) (.loop (c .ready none));rwa [World.size_alloc]at this
 have g6:W1.heap[w.heap.size]? = some (.deferred (some [])):=by rw [<-b7];exact(Below.heap_alloc _ _ _ O5).trans (World.alloc_heap_new w _)
 have f2:Below w.heap.size w W1:=by rw [<-b7];exact((Below.refl _ w).alloc (aF _) _).alloc O5 _
 have j3:W1.heap.size=w.heap.size+2:=by rw [<-b7];simp
 have e0:(#[.func (.yield (w.heap.size+1)) #[] #[]] ++ lbv.toArray:Array Value)=(Value.func (.yield (w.heap.size+1)) #[] #[]::lbv).toArray:=O5;refine⟨w.heap.size+1,[{ target:= .collected w.heap.size,args:=#[] }],W1,{ target:= .fn (.func gf) lbv.toArray,args:=#[.func (.yield (w.heap.size+1)) #[] #[]] },W1,gf,
  (Value.func (.yield (w.heap.size+1)) #[] #[]::lbv).toArray,W1,?_,?_,λ_ _=>trivial,?_,λh=>(by cases h),?_⟩
 .rw [<-b7,d];exact run_enterLoop_outer _ _ _ _ _
 .simp only [resolve,hs.ev hg];simp [go_sem]
 .simp [invoke,go_sem,eg]
 have c2:∀(Hn:Hp) (r:Loop),Zoe λW=>W.heap[w.heap.size+1]? = some (.loop r)/\W.heap[w.heap.size]? = some (.deferred (some []))/\W1.heap.size<=W.heap.size/\Kps sc w (w.heap.size+2) (Mof (w.heap.size+2) H) Hn W:=λHn r W W' ⟨h1,h2,h3,h4⟩ hB=>
  ⟨(hB.block _ (aT.1 h1).1).trans h1,(hB.block _ (aT.1 h2).1).trans h2,aB h3 hB.size,h4.stays hB⟩
 have i1:¬Mof (w.heap.size+2) H (w.heap.size+1):=λh=>by
  rcases h with⟨i,q,hq,_,hf⟩|h
  .have:=a2 i q hq _ hf;omega
  .omega
 have d5:¬Mof (w.heap.size+2) H w.heap.size:=λh=>by
  rcases h with⟨i,q,hq,_,hf⟩|h
  .have:=a2 i q hq _ hf;omega
  .omega
 have f7:∀(Hn:Hp) (W:World),Kps sc w (w.heap.size+2) (Mof (w.heap.size+2) H) Hn W->∀(o:Obj),Kps sc w (w.heap.size+2) (Mof (w.heap.size+2) H) Hn (W.putObj w.heap.size o):=λHn W h o=>h.put a2 ⟨aF _,O⟩;have c1:∀(Hn:Hp) (W:World),Kps sc w (w.heap.size+2) (Mof (w.heap.size+2) H) Hn W->∀(o:Obj),Kps sc w (w.heap.size+2) (Mof (w.heap.size+2) H) Hn (W.putObj (w.heap.size+1) o):=λHn W h o=>h.put a2 ⟨O,O⟩;refine callsIn_wide.2 ((hc (w.heap.size+1) (λb=>(∃i q,lk H i=some q/\q.own=true/\q.fp b)\/b=w.heap.size+1)
  (λk W=>∃y,c3 k y/\(W.heap[w.heap.size+1]? = some (.loop (c .ready none))/\W.heap[w.heap.size]? = some (.deferred (some []))/\W1.heap.size<=W.heap.size/\Kps sc w (w.heap.size+2) (Mof (w.heap.size+2) H) (V k y) W))
  (λW=>∃gx,c4 gx/\(W.heap[w.heap.size+1]? = some (.loop (c .done (some .ret)))/\W.heap[w.heap.size]? = some (.deferred (some []))/\W1.heap.size<=W.heap.size/\Kps sc w (w.heap.size+2) (Mof (w.heap.size+2) H) (HX gx) W)) W1
  ?_ ?_ ?_ ?_ ?_ ?_).mono ?_)
 .intro p B;obtain⟨ho,i,hi⟩:=hp p B;exact p.stable _ _ (hs.hold i p hi) (Chg.of_below f2)
 .rintro p B b f (⟨i,q,hq,b2,i5⟩|rfl)
  .obtain⟨ho,j,R⟩:=hp p B;exact hs.sep i j q p (λe=>by subst e;rw [hq]at R;cases R;rw [ho]at b2;cases b2) hq R b2 b i5 f
  .obtain⟨ho,j,R⟩:=hp p B;have:=a2 j p R _ f;omega
 .rintro k W W' ⟨y,d9,h⟩ hB;exact⟨y,d9,c2 _ _ W W' h hB⟩
 .rintro W W' ⟨gx,d9,h⟩ hB;exact⟨gx,d9,c2 _ _ W W' h hB⟩
 .refine⟨d2,b8,g7,g6,aF _,λi u hi=>u.stable _ _ (hs.hold i u (b3.lk i u hi)) (Chg.of_below f2),λi j u jt b1 hi R=>hs.sep i j u jt b1 (b3.lk i u hi) (b3.lk j jt R),
   λi u b8 hi=>hs.scope i u b8 (b3.lk i u hi),λi u hi _ b f=> .inl (a2 i u (b3.lk i u hi) b f),λi u hi ho b f=> .inl ⟨i,u,b3.lk i u hi,ho,f⟩⟩
 .rintro k x M hx W Y ⟨y,Z,hl,hd,g0,a4⟩ j4 hB a0;have f6:Y.heap[w.heap.size+1]? = some (.loop (c .ready none)):=(hB.block _ O).trans hl;have h5:Y.heap[w.heap.size]? = some (.deferred (some [])):=(hB.block _ O).trans hd;have hy:=run_yield (P:=P) (args:=(ys x M).toArray) f6 (by rw [d];simp [i4]);have b9:∀p∈I x M,∀b,p.fp b->w.heap.size+2<=b:=λp hp b f=>by have:=(a0 p hp).2.2 b f;omega
  have s1:Sat N sc env (V k y) { tmps:=a.tmps,defers:=[] } Y:=(a4.stays hB).sat hs.size rfl hs.env;have s2:Sat N sc env (adds 100 (I x M) (V k y)) { tmps:=a.tmps,defers:=[] } Y:=s1.adds (w1:=Y) _ _ λp B=>⟨(a0 p B).1,(a0 p B).2.1,λb f=>hw b (by have:=b9 p B b f;omega),λj jt R ho b f a6=>by have h1:=(a0 p B).2.2 b f;have h2:=jt.lt W b (a4.hold j jt R) a6;omega⟩
  have c7:∀j q,lk (adds 100 (I x M) (V k y)) j=some q->(q∈I x M)\/lk (V k y) j=some q:=λj q h=>Yb1 _ _ _ j q h;have B:∀j q,lk (adds 100 (I x M) (V k y)) j=some q->∀b,q.fp b->q.own=true->Mof (w.heap.size+2) H b:=λj q R b f ho=>by
   rcases c7 j q R with h|h
   .rw [(a0 q h).2.1]at ho;cases ho
   .exact a4.mf j q h ho b f
  have d0:∀j q,lk (adds 100 (I x M) (V k y)) j=some q->∀b,q.fp b->q.own=false->b<w.heap.size\/w.heap.size+2<=b:=λj q R b f ho=>by
   rcases c7 j q R with h|h
   .exact .inr (b9 q h b f)
   .exact a4.off j q h ho b f
  have s3:=s2.rounds ps (ys x M) i3;have s4:Sat N sc (renv ps (ys x M) env) ((92,Xu Y (Mfs sc (w.heap.size+2) H))::adds 100 (I x M) (V k y)) _ Y:=s3.add 92 (Xu Y (Mfs sc (w.heap.size+2) H)) (Chg.refl _ _) (λj jt b1 R Ej b f a6=>by
   rcases Ej with h|h
   .cases h
   .exact f.2 (.inl (B j jt R b a6 h))) (λb f=>eT.1 λhn=>f.2 (.inr hn))
  have e4:¬Mfs sc (w.heap.size+2) H (w.heap.size+1):=λh=>h.elim i1 (λhn=>hn (hw _ O));have e8:¬Mfs sc (w.heap.size+2) H w.heap.size:=λh=>h.elim d5 (λhn=>hn (hw _ i7));rw [d]at hy;refine⟨d1,_,assign,body,hy,roundIn_of_wpIn h7 ?_⟩;have hr:=c6 k x M y hx Z (w.heap.size+1) (Mfs sc (w.heap.size+2) H) Y _ Y s4;have e3:(ps.toArray.zip (ys x M).toArray).foldl (λt (p,v)=>t.setIfInBounds p v) a.tmps=(ps.zip (ys x M)).foldl (λt pv=>t.setIfInBounds pv.1 pv.2) a.tmps:=O5;have f8:w.heap.size+2<=Y.heap.size:=by have:=hB.size;omega
  have h9:∀(Hn:Hp),Zr3 Hn w0->∀q,lk Hn 0=some q->q.own=false:=λHn h q hq=>by rw [h.1]at hq;cases hq;rfl
  rw [show(ps.toArray.zip (ys x M).toArray).foldl (λt (x:Nat×Value)=>t.setIfInBounds x.1 x.2) a.tmps=(ps.zip (ys x M)).foldl (λt pv=>t.setIfInBounds pv.1 pv.2) a.tmps from e3];refine wpIn_mono hr ?_;rintro e a1 W2 ⟨rfl,e6,H1,d3,e9,g4,a5,d8⟩;have a7:Chg (Mfs sc (w.heap.size+2) H) Y W2:=a5.hold 92 _ (Yv _ _ _);have b0:W2.heap[w.heap.size+1]? = some (.loop (c .ready none)):=(a7.block _ O e4).trans f6;have h6:W2.heap[w.heap.size]? = some (.deferred (some [])):=(a7.block _ O e8).trans h5;have p1:=a5.ps d3 O3 e9 f8 g4 B d0 a2;have j0:Y.heap.size<=W2.heap.size:=a7.size;obtain⟨s,z⟩:∃s,W2.putObj (w.heap.size+1) (.loop { c .ready none with state:= .busy })=s:=⟨_,rfl⟩;have i9:Sat N sc e6 ((92,Xu s (Mfs sc (w.heap.size+2) H))::H1) a1 s:=by
   have p2:=c1 _ _ p1 (.loop { c .ready none with state:= .busy });rw [z]at p2;refine(p2.sat a5.size a5.defers a5.env).add 92 (Xu s (Mfs sc (w.heap.size+2) H)) (Chg.refl _ _) (λj jt b1 R Ej b f a6=>?_) (λb f=>eT.1 λhn=>f.2 (.inr hn));rcases Ej with h|h
   .cases h
   .exact f.2 (.inl (p2.mf j jt R h b a6))
  have i6:W2.heap.size=s.heap.size:=by rw [<-z];simp
  have c9:s.heap[w.heap.size+1]? = some (.loop { c .ready none with state:= .busy }):=by rw [<-z];exact World.putObj_heap_same O
  have f4:s.heap[w.heap.size]? = some (.deferred (some [])):=by rw [<-z];exact(World.putObj_heap_other O).trans h6
  refine⟨s,by rw [<-z];exact run_beginRound b0 (by rw [d]),wpIn_mono (d8 s ⟨⟨_,c9⟩,e4⟩ a1 s i9) ?_⟩;have c8:∀(Hn:Hp) (env':Px) (a3:Act) (F:World),Zr3 Hn w0->FpM Hn (adds 100 (I x M) (V k y))->Sat N sc env' ((92,Xu s (Mfs sc (w.heap.size+2) H))::Hn) a3 F->∀(r:Loop),
    F.heap[w.heap.size+1]? = some (.loop { c .ready none with state:= .busy })/\(((F.putObj (w.heap.size+1) (.loop r)).heap[w.heap.size+1]? = some (.loop r)/\(F.putObj (w.heap.size+1) (.loop r)).heap[w.heap.size]? = some (.deferred (some []))/\
     W1.heap.size<=(F.putObj (w.heap.size+1) (.loop r)).heap.size/\Kps sc w (w.heap.size+2) (Mof (w.heap.size+2) H) Hn (F.putObj (w.heap.size+1) (.loop r)))/\
     Chg (λb=>((∃i q,lk H i=some q/\q.own=true/\q.fp b)\/b=w.heap.size+1)\/W1.heap.size<=b) Y (F.putObj (w.heap.size+1) (.loop r))):=by
   intro Hn env' a3 F e2 g5 b4 r;have a8:Chg (Mfs sc (w.heap.size+2) H) s F:=b4.hold 92 _ (Yv _ _ _);have c0:=(a8.block _ O e4).trans c9;have a9:=(a8.block _ O e8).trans f4;have g1:=a8.size;have p3:=b4.ps e2.2 O3 (h9 Hn e2) O g5 B d0 a2;refine⟨c0,⟨World.putObj_heap_same O,(World.putObj_heap_other O).trans a9,O8,c1 _ _ p3 _⟩,?_⟩;have k0:(Xu w0 (λ_=>False)).holds Y:=a4.stays hB |>.hold 0 _ (hk k y).1;have k3:(Xu w0 (λ_=>False)).holds F:=p3.hold 0 _ e2.1;refine⟨?_,?_,?_,O8,λb f hn=>?_⟩
   .exact a8.os.trans ((by rw [<-z];rfl:s.os=W2.os).trans a7.os)
   .exact a8.tape.trans ((by rw [<-z];rfl:s.tape=W2.tape).trans a7.tape)
   .exact a8.output.trans ((by rw [<-z];rfl:s.output=W2.output).trans a7.output)
   .have f3:b≠w.heap.size+1:=λe=>hn (.inl (.inr e));have g9:¬Mof (w.heap.size+2) H b:=λh=>by
     rcases h with h|h
     .exact hn (.inl (.inl h))
     .exact hn (.inr O)
    refine(World.putObj_heap_other f3).trans ?_;by_cases f9:sc b
    .have f0:¬Mfs sc (w.heap.size+2) H b:=λh=>h.elim g9 (λh=>h f9);refine(a8.block b O f0).trans ?_;have:s.heap[b]? = W2.heap[b]?:=by rw [<-z];exact World.putObj_heap_other f3
     exact this.trans (a7.block b f f0)
    .have f1:b<w0.heap.size:=by
      rcases bA b w0.heap.size with h|h
      .exact h
      .exact absurd (hw b h) f9
     exact(k3.block b f1 (λh=>h)).trans (k0.block b f1 (λh=>h)).symm
  rintro e a3 F (⟨rfl,e7,e1,d6,env',b4⟩|⟨rfl,gx,e1,d6,env',b4⟩)
  .obtain⟨c0,d7,d4⟩:=c8 _ env' a3 F (hk (k+1) e7) d6 b4 (c .ready none);have:=run_endRound (P:=P) none c0;rw [show({ ({ c .ready none with state:= .busy } : Loop)with state:=if(none:Option Code).isNone then LoopState.ready else .done,pending:=none } : Loop)=c .ready none by rw [d];rfl]at this;exact⟨_,_,this,.inl ⟨rfl,⟨e7,e1,d7⟩,d4⟩⟩
  .obtain⟨c0,d7,d4⟩:=c8 _ env' a3 F (i0 gx) d6 b4 (c .done (some .ret));have:=run_endRound (P:=P) (some .ret) c0;rw [show({ ({ c .ready none with state:= .busy } : Loop)with state:=if(some Code.ret).isNone then LoopState.ready else .done,pending:=some .ret } : Loop)=c .done (some .ret) by rw [d];rfl]at this;exact⟨_,_,this,.inr ⟨rfl,⟨gx,e1,d7⟩,d4⟩⟩
 .have j1:∀(Hn:Hp) (W:World),Kps sc w (w.heap.size+2) (Mof (w.heap.size+2) H) Hn W->Kps sc w (w.heap.size+2) (Mof (w.heap.size+2) H) Hn ((W.putObj (w.heap.size+1) (.loop (c .exhausted none))).putObj w.heap.size (.deferred none)):=λHn W h=>f7 _ _ (c1 _ _ h _) _;rintro e W2 ⟨⟨v,rfl⟩,⟨y,Z,hl,hd,g0,e5⟩|⟨gx,Z,hl,hd,g0,e5⟩⟩
  .refine⟨none,_,by have:=run_endLoop (P:=P) hl (by rw [d];simp);rw [d]at this;exact this,?_⟩;obtain⟨F,c5⟩:∃F,W2.putObj (w.heap.size+1) (.loop (c .exhausted none))=F:=⟨_,rfl⟩;have p3:=c1 _ _ e5 (.loop (c .exhausted none));rw [c5]at p3;have a9:F.heap[w.heap.size]? = some (.deferred (some [])):=by rw [<-c5];exact(World.putObj_heap_other O).trans hd
   have g1:F.heap.size=W2.heap.size:=by rw [<-c5];simp
   rw [show W2.putObj (w.heap.size+1) (.loop { state:= .exhausted,pending:=none,fn:=d1,tmps:=a.tmps,params:=ps.toArray,assign:=assign,body:=body,defers:=w.heap.size })=F by rw [<-c5,d]];have s3:Sat N sc env (V xs.length y) { tmps:=a.tmps,defers:=[] } F:=p3.sat hs.size rfl hs.env;have s4:Sat N sc env ((92,fx w.heap.size (.deferred (some [])))::V xs.length y) { tmps:=a.tmps,defers:=[] } F:=s3.add 92 _ a9 (λj jt b1 R Ej b f a6=>by
    rcases Ej with h|h
    .cases h
    .have f:b=w.heap.size:=f;subst f;exact d5 (p3.mf j jt R h _ a6)) (λb f=>hw b (by have f:b=w.heap.size:=f;omega))
   rw [hs.defers];refine wp_seq (wp_region_lit (Zrx (P:=P) (ops:=lc.toArray) (Q:=Exit.then (Code.ret.wp P (Zf5 P fn w0 preF al φ val S)) (Zf5 P fn w0 preF al φ val S)) (ds:=[{ target:= .collected w.heap.size,args:=#[] }]) lc { tmps:=a.tmps,defers:=[] } F i2 ?_));refine Iq (λe a' W' h=>?_) lc _ F (hC y Z _ _ _ F s4);cases e with
   | normal=>
    obtain⟨-,b6,H2,d3,h8,b5,hx⟩:=h;refine wp_ret (Zwf (b5.hold 92 _ (Yv _ _ _)) ?_);have b0:∀i u,lk H2 i=some u->lk ((92,fx w.heap.size (.deferred (some [])))::H2) i=some u:=λi u hi=>by
     by_cases h1:92=i
     .subst h1;rw [d3]at hi;cases hi
     .rw [Yc _ _ h1];exact hi
    refine hx _ _ ⟨b5.size,rfl,b5.env,λi u hi=>u.stable _ _ (b5.hold i u (b0 i u hi)) ⟨rfl,rfl,rfl,O5,λk hk hn=>World.putObj_heap_other (λe=>hn λhf=>?_)⟩,λi j u jt b1 hi R=>b5.sep i j u jt b1 (b0 i u hi) (b0 j jt R),λi u b8 hi=>b5.scope i u b8 (b0 i u hi)⟩;subst e;obtain⟨q,hq,j2,f5⟩:=h8.lk i u hi;cases b2:q.own with
    | true=>exact d5 (p3.mf i q hq b2 _ (f5 _ hf))
    | false=>rcases p3.off i q hq b2 _ (f5 _ hf)with h|h<;>omega
   | _=>exact h.elim
  .refine⟨some .ret,_,by have:=run_endLoop (P:=P) hl (by rw [d];simp);rw [d]at this;exact this,wpIn_ret ?_⟩;have p3:=c1 _ _ e5 (.loop { c .done (some .ret)with state:= .exhausted });have a9:(W2.putObj (w.heap.size+1) (.loop { c .done (some .ret)with state:= .exhausted })).heap[w.heap.size]? = some (.deferred (some [])):=(World.putObj_heap_other O).trans hd;rw [d]at p3 a9;rw [hs.defers];exact Zwf a9 (hX gx Z _ _ ((f7 _ _ p3 _).sat hs.size rfl hs.env))
end Go.Sky
namespace Go.Sky
open Go.Proofs.Tryz
open Go.Proofs
set_option synthInstance.maxHeartbeats 0
set_option synthInstance.maxSize 100000
set_option maxRecDepth 20000
set_option linter.unusedSimpArgs false
variable{ov x:Int}{y z c:List Int}{m i:Nat}{d:SL×List Int}{b:Bool}
theorem Zjm{fr S:Int}{V W Y:Value}{x:List Int}(f h e:Int)(M:Sgo fr S ov x y z)(N:f.natAbs<=3600000)(P:h.natAbs<=3600000)(hd:1<=e/\e<=3600000):Cal prog 79 #[.agg #[.int .i64 fr,.int .i64 S,.int .i64 ov,V,W,Y],.int .i64 f,.int .i64 h,.int .i64 e] [Yl 1 Zz V x,Yl 1 Zz W y,Yl 1 Zz Y z] true (G:=SL×SL×SL) (λg=>True) (λg=> .agg #[Xd g.1,Xd g.2.1,Xd g.2.2]) (λg=>[Yl 2 wv (Xd g.1) (Ph x f h e),Yl 2 wv (Xd g.2.1) (Ph y f h e),Yl 2 wv (Xd g.2.2) (Ph z f h e)]):=by
 refine Zg func79 ntmps79 λw0 sc R F=>?_;have Z:=Zcn N;have a0:=Zcn P;have D:bl e.natAbs<=22:=Zcn O;refine go 2<|Yj (Yg 4) λbx _=>Yj (Yd 5) λj _=>go 6 ?_;refine cl 5 [1,2,3] Zqq λ_ _=>go 4<|Zf (Oy 5 (q:=box j 141 (cellsOf (Nm (α:=List Int)) (Zvg [])).toArray) (aD (box j 141) (show _=(cellsOf (Nm (α:=List Int)) (Zvg [])).toArray from J)) J J)<|Zf (Yh qZ 71) ?_;refine lp (G:=Nat×List (SL×List Int)) [1,2,3,8,14] [0,1,2,3,4] (λq=>[(15,.int .i64 (q.1:Int))]) (λq=>[(5,box j 141 (cellsOf (Nm (α:=List Int)) (Zvg q.2)).toArray),(71,Nw qZ q.2)]) (λq=>(q.1<=3)/\(q.2.length=q.1)/\(∀t,t<q.1->(q.2.getD t Z0).2=Ph (Zt t x y z) f h e)) (λq=>3-q.1) (0,[]) ⟨O1,rfl,λt I=>absurd I (aR t)⟩ K1 K2 ?_;rintro⟨i,zs⟩ ⟨hi,k,p⟩;dsimp only at hi k p;dsimp only;have Q:=M.hc i;have o:=M.lc i;obtain⟨q1,q2,q3,q4,q5,q6,q7,q8⟩:=Zi8 Q o N P hd;have n:(6-((Zt i x y z).length:Int)).toNat=6-(Zt i x y z).length:=O;refine go 6<|Ze J (λr=>?_) (λr=>?_)
 .refine go 5<|Zf (Zc5 i 1 2 3 50 J J J J J J)<|go 2 ?_;refine dt (Zp5 i J J J underlying215 Zcx isAgg25 J)<|go 7 ?_;refine cl 6 [50] (Zak Q (aB o.2 O3)) λ_ _=>?_;refine Yk (Oy 6 (q:=Yl 2 wv _ (tzl (Zt i x y z))) (aD (Yl 2 wv _) (aJ (Zge o.2))) J J)<|go 11 ?_;refine cl 6 [] (Ya f) λ_ _=>go 1 ?_;refine cl 6 [] (Ya h) λ_ _=>go 1 ?_;refine cl 6 [] (Ya e) λ_ _=>cl 7 [6] (Zre (tzl (Zt i x y z)) f h e q1 O O O O q2) λ_ _=>?_;refine go 13 ⟨O,?_⟩;refine cl 7 [] (Fz e (6-((Zt i x y z).length:Int)) (aB D O3) O O) λ_ _=>cl 8 [7] (Nf _ (e^(6-((Zt i x y z).length:Int)).toNat) q3 (by rw [n];exact aB q4 O3) (by rw [n];exact q5)) λ_ _=>?_;refine Zm9 (Xj 8 J Zl) (λB H=>?_);subst H;refine Yk (Oy 8 (q:=Yl 2 wv (Xd B) (Ph (Zt i x y z) f h e)) (aD (Yl 2 wv (Xd B)) (by rw [n];rfl)) J J)<|Yk (Zm (q:=qZ) (z:=(B,(Ph (Zt i x y z) f h e))) 71 8 71 J J J J J)<|go 3 ?_;refine dt (Fk i J J J underlying141 sizeOf140 J)<|tt (t_sbe 5 i 1 (enc:=Nm) (B,(Ph (Zt i x y z) f h e)) J J J J J pS (by rw [Ylq O];omega) J R.h aA) J (λ_ _=>?_);refine go 7 ⟨O,?_⟩;exact Ye (i+1,zs ++ [(B,(Ph (Zt i x y z) f h e))]) ⟨O1,by rw [aO,k];rfl,λt I=>Zw9 k p I⟩ O1 K1 ⟨by rw [Ykh O k];rfl,rfl,aA⟩
 .obtain rfl:i=3:=O;refine go 6 ?_;obtain⟨s,u,v,rfl⟩:=Yha k p;refine Zf (Za1 (q:=qZ) 71 81 (s,Ph x f h e) J J O5 J)<|Zf (Za1 (q:=qZ) 71 82 (u,Ph y f h e) J J O5 J)<|Zf (Za1 (q:=qZ) 71 83 (v,Ph z f h e) J J O5 J)<|go 1 ?_;refine dt (d_lea (i:=5) (enc:=Nm) (l:=[(s,Ph x f h e),(u,Ph y f h e),(v,Ph z f h e)]) J J J pS isAgg141 sizeOf141 J)<|tt (t_sea (i:=5) (enc:=Nm) (l:=[(s,Ph x f h e),(u,Ph y f h e),(v,Ph z f h e)]) J J J J J O3 pS sizeOf141 J J J R.h aA) J λ_ _=>go 3 ?_;exact Ztn (.inl J) F (s,u,v) (λa w hs=>Zeu hs results79 (Er 5 (vs:=cellsOf Nm [(s,Ph x f h e),(u,Ph y f h e),(v,Ph z f h e)]) J J isAgg141 sizeOf141 J)) J aA J (Gt 81 J J J (Gt 82 J J J (Gt 83 J J J Za)))
theorem Yf2{s:Bool}(f:x.natAbs<=9223372036854775807)(h:sg s x):(x=0/\dg U x.natAbs=[])\/(s=true/\x<0/\dg U x.natAbs=[x.natAbs])\/(s=false/\0<x/\dg U x.natAbs=[x.natAbs]):=by
 have e:x.natAbs≠0->dg U x.natAbs=[x.natAbs]:=λg=>by have a:x.natAbs<U:=aV f O3;rw [Zcj O3 O,bH a,cS a];rfl
 rcases Int.lt_trichotomy x 0 with q|q|q
 .right;left;refine⟨?_,q,e O⟩;cases s
  .have:=h.2 rfl;omega
  .rfl
 .subst q;exact .inl ⟨rfl,rfl⟩
 .right;right;refine⟨?_,q,e O⟩;cases s
  .rfl
  .have:=h.1 rfl;omega
theorem int_wn(a:x.natAbs<=9223372036854775807)(h:x<0):IntKind.i64.wrap (18446744073709551616-(x.natAbs:Int))=x:=by simp only [IntKind.wrap,IntKind.bits,IntKind.signed];simp;omega
theorem int_wp(a:x.natAbs<=9223372036854775807)(h:0<x):IntKind.i64.wrap ((([x.natAbs]:List Nat).getD 0 0:Nat):Int)=x:=by show IntKind.i64.wrap (x.natAbs:Int)=x;rw [Zbw ⟨O,O⟩];omega
theorem int_d0(a:x.natAbs<=9223372036854775807):¬((([x.natAbs]:List Nat).getD 0 0:Nat):Int)>=9223372036854775808:=by show ¬(x.natAbs:Int)>=_;omega
theorem Ylu(a:x.natAbs<=9223372036854775807):¬((([x.natAbs]:List Nat).getD 0 0:Nat):Int)>9223372036854775808:=by show ¬(x.natAbs:Int)>_;omega
theorem int_m(h:x<0)(a:x.natAbs<=9223372036854775807):(-((([x.natAbs]:List Nat).getD 0 0:Nat):Int))%18446744073709551616=18446744073709551616-(x.natAbs:Int):=by show(-(x.natAbs:Int))%_=_;omega
theorem Ztr(x:Int)(h:x.natAbs<=9223372036854775807):Xp prog 82 #[wv x] [] (.tuple #[.int .i64 x,.int .i64 0]):=by
 refine Zg func82 ntmps82 λs q p j=>?_;have l:bl x.natAbs<=65536:=aB ((Qo 63 _).2 (aV h O3)) O3;refine go 2<|Yj (Yg 1) λo _=>go 8 ?_;refine cl 1 [] (Kn ‹_›) λ_ _=>go 9 ?_;refine cl 2 [] (Nl (Qs _)) λg n=>Yj (Yd 3) λk _=>go 6 ?_;rcases Yf2 h n with⟨rfl,e⟩|⟨f,e,a⟩|⟨f,e,a⟩
 .refine go 4<|kt (aH (by rw [e];rfl))<|go 13 ?_;exact Nd j () results82 J aA Za
 .refine go 4<|kf (aE (by rw [a];simp))<|go 9<|kf (aE (by rw [a];simp))<|go 3 ?_;refine Di (dF (Qn J J) (aD (λb=>Value.bool (!b)) f)) J J<|go 13 ⟨by rw [a];exact eH,by rw [a];exact eH,?_⟩;refine kfg (aE (by rw [a];exact Ylu h))<|go 8<|kt f<|go 10 ⟨by rw [a];exact eH,by rw [a];exact eH,?_⟩;refine dt (Yg3 (18446744073709551616-(x.natAbs:Int)) J J (by rw [a];exact int_m e h))<|dt (Zic (r:=x) J J Za8 uT3 (int_wn h e))<|go 7 ?_;exact Nd j () results82 J aA Za
 .refine go 4<|kf (aE (by rw [a];simp))<|go 9<|kf (aE (by rw [a];simp))<|go 3 ?_;refine Di (dT (Qn J J) (aD (λb=>Value.bool (!b)) f)) J J<|go 5 ⟨by rw [a];exact eH,by rw [a];exact eH,?_⟩;refine kfg (aE (by rw [a];exact int_d0 h))<|go 7 ⟨by rw [a];exact eH,by rw [a];exact eH,?_⟩;refine kfg (aE (by rw [a];exact Ylu h))<|go 8<|kf f<|go 13 ⟨by rw [a];exact eH,by rw [a];exact eH,?_⟩;refine dt (Zic (r:=x) J J Za8 uT3 (by rw [a];exact int_wp h e))<|go 5 ?_;exact Nd j () results82 J aA Za
theorem Zri{ps:List Zv}(j:∀g∈ps,Gin g)(h:Qg ps=true):∀g∈ps,SgG g:=λg f=>by obtain⟨i,hi,e⟩:=cN.1 f;have a:=Zcb ((Gq h).1 i hi);rw [aK,aL hi,eN,e]at a;exact Nz (j g f) a
def g8(g:Zv):Bool:=decide (g.2.1.2.length<=8) && decide (g.2.2.1.2.length<=8) && decide (g.2.2.2.2.length<=8)
def Zi4(ps:List Zv)(m:Nat):Bool:=(List.range ps.length).all (λi=>decide (m<i) || g8 (ps.getD i G0)) && decide (ps.length<=m)
theorem g8_t{g:Zv}(a:g.2.1.2.length<=8)(e:g.2.2.1.2.length<=8)(f:g.2.2.2.2.length<=8):g8 g=true:=by unfold g8;rw [aH a,aH e,aH f];rfl
theorem g8_f{g:Zv}(h:¬(g.2.1.2.length<=8/\g.2.2.1.2.length<=8/\g.2.2.2.2.length<=8)):g8 g=false:=by
 cases hb:g8 g with
 | false=>rfl
 | true=>
  unfold g8 at hb;simp only [aY,dI]at hb;exact absurd ⟨hb.1.1,hb.1.2,hb.2⟩ h
theorem Zy3 (i:Nat){ps:List Zv}(hi:i<ps.length)(a:i<=m)(h:g8 (ps.getD i G0)=false):Zi4 ps m=false:=by
 cases hb:Zi4 ps m with
 | false=>rfl
 | true=>
  unfold Zi4 at hb;rw [aY]at hb;have:=bK.1 hb.1 i (fM.2 hi);rw [h,aE O]at this;cases this
theorem Ymh (n:Nat){ps:List Zv}(a:n=ps.length\/m<n)(h:∀k,k<n->g8 (ps.getD k G0)=true):Zi4 ps m=decide (ps.length<=m):=by
 unfold Zi4;rw [bK.2 λi hi=>by
  have hi:=fM.1 hi;rcases bA m i with q|q
  .rw [aH q];rfl
  .rw [h i O,Bool.or_true]]
 rfl
theorem Ytf:∀n,n<=5->∀i,i<n->(Ot n i:Int)*((n:Int)-(i:Int))/((i:Int)+1)=(Ot n (i+1):Int):=by intro n e i hi;have a:∀n,n<6->∀i,i<n->(Ot n i:Int)*((n:Int)-(i:Int))/((i:Int)+1)=(Ot n (i+1):Int):=O7;exact a n O i hi
theorem getD3{α:Type}{a b c d:α}(h:i<3):[a,b,c].getD i d=Zt i a b c:=by
 match i,h with
 | 0,_=>rfl
 | 1,_=>rfl
 | 2,_=>rfl
theorem Yii{α β:Type}(i:Nat)(a b c:α×β):(Zt i a b c).2=Zt i a.2 b.2 c.2:=by unfold Zt;split<;>rfl
theorem Zh9{a e f:SL}{x:List Int}(h:i<3):([(a,x),(e,y),(f,z)].getD i d).2=Zt i x y z:=by rw [getD3 h,Yii]
theorem Zxw{a b:Int} : 0<(a-b).sign↔b<a:=by rw [sgp];omega
theorem Yib{a b:Int} : (a-b).sign<0↔a<b:=by rw [Py];omega
def Ys1(t m:Int):m<t\/(¬m<t/\t < -m)\/(¬m<t/\¬t < -m):=O
def axc(c:List Int):Bool:=!(decide (1<=c.length) && decide (c.length<=6) && !(decide (1<c.length) && decide (c.getD (c.length-1) 0=0)))
theorem axc_f(h:b=axc c)(a:b=false):1<=c.length/\c.length<=6/\¬(1<c.length/\c.getD (c.length-1) 0=0):=by subst h;unfold axc at a;simp only [Bool.not_eq_false',aY,fE,gQ,dI,fN]at a;exact⟨a.1.1,a.1.2,λh=>by rcases a.2 with q|q;exact q h.1;exact q h.2⟩
theorem axc_t(h:b=axc c)(a:b=true):axB c ov=false:=by
 cases ha:axB c ov with
 | false=>rfl
 | true=>
  exfalso;unfold axB at ha;rw [aY]at ha;have:axc c=false:=by unfold axc;rw [ha.1];rfl
  rw [h,this]at a;cases a
theorem Yd9(h:¬1<=c.length):true=axc c:=by unfold axc;rw [aE h];rfl
theorem Yd8(h:¬c.length<=6):true=axc c:=by unfold axc;rw [aE h,Bool.and_false];rfl
theorem Yd7(a:1<=c.length)(e:c.length<=6)(f:¬1<c.length):false=axc c:=by unfold axc;rw [aH a,aH e,aE f];rfl
theorem Yd6(a:1<=c.length)(e:c.length<=6)(f:1<c.length):decide (c.getD (c.length-1) 0=0)=axc c:=by unfold axc;rw [aH a,aH e,aH f];simp
theorem Yt0(h:bl ov.natAbs<=64):bl (62914560*ov).natAbs<=100:=by have a:=Yu 62914560 ov;have e:bl (62914560:Int).natAbs<=30:=O3;omega
end Go.Sky

