/- The law: part 16. No conditions but those that each theorem names. -/
import Derived.Test.YtoaklaecgjlfoaaTm14
import Derived.Shelf.SlIterI.Sorted
import Derived.Shelf.SortM.Plain
import Derived.Shelf.SortM.SortNone
set_option linter.all false
set_option maxHeartbeats 4000000
namespace Go.Sky
abbrev QQ (cs:List LT) (t:Int):Prop:=∃P,Pa (It cs) cs.length t P
abbrev leZ:Int->Int->Bool:=λx y=>decide (x<=y)
def QQ.mono{cs:List LT}{s t:Int}(h:QQ cs s)(b:s<=t):QQ cs t:=by obtain⟨P,a⟩:=h;exact⟨P,a.lt,a.i,λi hi=>jH (a.c i hi) b⟩
structure KsI (cs:List LT) (i j:Nat) (ks:List Int):Prop where
 m:∀x∈ks,∃r c,r<cs.length/\c<cs.length/\x=cC (It cs) r c
 a:∀r,r<i->∀c,c<cs.length->cC (It cs) r c∈ks
 b:∀c,c<j->cC (It cs) i c∈ks
 l:ks.length<=i*cs.length+j
def ks_0(cs:List LT):KsI cs 0 0 []:=⟨λx h=>(by cases h),λr h=>absurd h (aZ r),λc h=>absurd h (aZ c),aW _⟩
def Fu{a:List Int}{k x:Int} : x∈Br a k↔x∈a\/x=k:=by
 unfold Br;split
 .rename_i h;exact⟨.inl,λb=>b.elim id λe=>e▸h⟩
 .rw [bG,aY]
def Zje(a:List Int)(k:Int):(Br a k).length<=a.length+1:=by
 unfold Br;split
 .omega
 .rw [aJ];simp
section
variable {cs:List LT} {i j:Nat} {ks:List Int}
theorem ks_in(e:Cst cs)(h:KsI cs i j ks)(hi:i<cs.length)(d:j<(cs.getD i Yt).2.length):KsI cs i (j+1) (Br ks ((cs.getD i Yt).2.getD j 0)):=by
 rw [e.ln i hi]at d;rw [<-Lc];refine⟨λx g=>?_,λr f c b=>Fu.2 (.inl (h.a r f c b)),λc b=>?_,?_⟩
 .rcases Fu.1 g with a|rfl
  .exact h.m x a
  .exact⟨i,j,hi,d,rfl⟩
 .rcases bE.1 b with a|rfl
  .exact Fu.2 (.inl (h.b c a))
  .exact Fu.2 (.inr rfl)
 .have:=Zje ks (cC (It cs) i j);have:=h.l;omega
theorem ks_out(d:Cst cs)(h:KsI cs i (cs.getD i Yt).2.length ks)(hi:i<cs.length):KsI cs (i+1) 0 ks:=by
 rw [d.ln i hi]at h;refine⟨h.m,λr e c a=>?_,λc a=>absurd a (aZ c),by have:=h.l;rw [dB];omega⟩;rcases bE.1 e with b|rfl
 .exact h.a r b c a
 .exact h.b c a
theorem Zja(a:Cst cs)(h:KsI cs cs.length 0 ks):ks.length<=4096:=by have b:=h.l;have c:=bT a.n2 a.n2;omega
theorem ks_rg(a:Cst cs)(h:KsI cs i j ks):∀x∈ks,0<=x/\x<=17592186044416:=λx e=>by obtain⟨r,c,d,b,rfl⟩:=h.m x e;rw [Lc];exact a.rg r c d b
end
structure Sk (cs:List LT) (l:List Int):Prop where
 n1:1<=l.length
 n2:l.length<=4096
 m:∀x∈l,∃r c,r<cs.length/\c<cs.length/\x=cC (It cs) r c
 a:∀r c,r<cs.length->c<cs.length->cC (It cs) r c∈l
 s:∀i k,i<=k->k<l.length->l.getD i 0<=l.getD k 0
theorem sk_of{cs:List LT}{ks l:List Int}(m:Cst cs)(h:KsI cs cs.length 0 ks)(p:l=ks.mergeSort leZ):Sk cs l:=by
 subst p;have q:=List.mergeSort_perm ks leZ;have f:∀x,x∈ks.mergeSort leZ↔x∈ks:=λx=>q.mem_iff;have g:=m.n1;refine⟨?_,by rw [jS];exact Zja m h,λx t=>h.m x ((f x).1 t),λr c s o=>(f _).2 (h.a r s c o),λi k e n=>?_⟩
 .exact jG ((f _).2 (h.a 0 O 0 O))
 .rcases kU e with d|rfl
  .have v:∀a b c:Int,leZ a b=true->leZ b c=true->leZ a c=true:=λa b c g d=>by simp only [leZ,cD]at *;exact jH g d
   have u:∀a b:Int,(leZ a b || leZ b a)=true:=λa b=>by simp only [leZ,gY,cD];exact Int.le_total a b
   have:=(iJ.1 (List.pairwise_mergeSort v u ks)) i k O n d;rw [aA,aA,aF n,aF (show i<_ by omega)];exact bB this
  .exact cL _
structure Ml (cs:List LT) (t:Int):Prop where
 q:QQ cs t
 m:∀s,QQ cs s->t<=s
 r:0<=t/\t<=17592186044416
section
variable {cs:List LT} {l:List Int}
theorem sk_top(a:Sk cs l):QQ cs (l.getD (l.length-1) 0):=⟨id,λi h=>h,λi j _ _ e=>e,λi hi=>by obtain⟨k,b,e⟩:=eW (a.a i i hi hi);have:=a.s k (l.length-1) O (by have:=a.n1;omega);rw [aA,aF b]at this;show cC (It cs) i i<=_;rw [<-e];exact this⟩
theorem Zi3:∀(f:Nat->Int) (n:Nat),1<=n->∃i,i<n/\∀k,k<n->f k<=f i
 | f,0,h=>O
 | f,1,_=>⟨0,O,λk a=>by obtain rfl:k=0:=O;exact cL _⟩
 | f,n+2,_=>by
  obtain⟨i,hi,h⟩:=Zi3 f (n+1) O;by_cases c:f (n+1)<=f i
  .exact⟨i,O,λk a=>by
    rcases bE.1 a with b|rfl
    .exact h k b
    .exact c⟩
  .exact⟨n+1,O,λk a=>by
    rcases bE.1 a with b|rfl
    .have:=h k b;omega
    .exact cL _⟩
theorem sk_ml(n:Cst cs)(b:Sk cs l){g:Nat}(v:g<l.length)(q:∀k,k<g->¬QQ cs (l.getD k 0))(t:QQ cs (l.getD g 0)):Ml cs (l.getD g 0):=by
 refine⟨t,λs ⟨P,a⟩=>?_,?_⟩
 .obtain⟨i,hi,w⟩:=Zi3 (λr=>cC (It cs) r (P r)) cs.length n.n1;have f:=b.a i (P i) hi (a.lt i hi);obtain⟨k,o,e⟩:=eW f;have p:l.getD k 0=cC (It cs) i (P i):=by rw [aA,aF o];exact e
  have x:QQ cs (l.getD k 0):=⟨P,a.lt,a.i,λr m=>by rw [p];exact w r m⟩;have d:g<=k:=Nat.le_of_not_lt λh=>q k h x;have:=b.s g k d o;have:=a.c i hi;omega
 .obtain⟨r,c,m,u,e⟩:=b.m (l.getD g 0) (Ym _ v);rw [e,Lc];exact n.rg r c m u
structure Bs (cs:List LT) (l:List Int) (i j:Nat):Prop where
 ij:i<=j/\j<=l.length
 lo:∀k,k<i->¬QQ cs (l.getD k 0)
 hi:j<l.length->QQ cs (l.getD j 0)
def bs_0(cs:List LT)(l:List Int):Bs cs l 0 l.length:=⟨⟨aW _,aH _⟩,λk h=>absurd h (aZ k),λh=>absurd h (Nat.lt_irrefl _)⟩
theorem bs_lo(c:Sk cs l){i j h:Nat}(a:Bs cs l i j)(d:h<j)(e:¬QQ cs (l.getD h 0)):Bs cs l (h+1) j:=
 ⟨⟨d,a.ij.2⟩,λk f b=>e (b.mono (c.s k h O (by have:=a.ij.2;omega))),a.hi⟩
theorem bs_hi{i j h:Nat}(a:Bs cs l i j)(b:i<=h)(d:h<j)(c:QQ cs (l.getD h 0)):Bs cs l i h:=
 ⟨⟨b,by have:=a.ij.2;omega⟩,a.lo,λ_=>c⟩
theorem bs_lt(a:Sk cs l){i:Nat}(b:Bs cs l i i):i<l.length:=by have c:=a.n1;refine Nat.lt_of_not_le λh=>b.lo (l.length-1) O (sk_top a)
end
end Go.Sky
namespace Go.Sky
open Go.Proofs Go.RowKit Go.Maps Go.Sort Go.Shelf
variable{k q:Nat}{d D:List Nat}{rows2 rows0:List Int}
def lkR:Ren:=⟨λ| 10=>41|n=>n,λ| 33=>57|23=>61|0=>0|4=>4|26=>3|3=>4|n=>n,λ| n=>n⟩
theorem lkL:SlLaysZI.n10 Try.prog lkR where
  mixed:=O4
  f10 := ⟨"maps.Keys[map[int]bool,int,bool]$1", by decide, Try.func41.trans (aU some O4)⟩
  t0:=Try.underlying0
  a0:=Try.isAgg0
  z0:=Try.sizeOf0
  v0:=Try.zeroValue0
  t4:=Try.underlying4
  a4:=Try.isAgg4
  z4:=Try.sizeOf4
  v4:=Try.zeroValue4
  t23:=Try.underlying61
  a23:=Try.isAgg61
  z23:=Try.sizeOf61
  v23:=Try.zeroValue61
  t26:=Try.underlying3
  a26:=Try.isAgg3
  z26:=Try.sizeOf3
  v26:=Try.zeroValue3
  t33:=Try.underlying57
  a33:=Try.isAgg57
  z33:=Try.sizeOf57
  v33:=Try.zeroValue57
def lsR:Ren:=⟨λ| 6=>27|8=>39|9=>40|11=>47|13=>49|12=>48|23=>61|24=>62|14=>52|15=>53|16=>54|17=>55|18=>56|19=>57|20=>58|21=>59|22=>60|25=>63|26=>64|27=>65|28=>66|29=>67|30=>68|31=>69|n=>n,λ| 26=>3|28=>64|24=>24|0=>0|3=>3|37=>81|48=>89|50=>92|4=>4|40=>97|39=>96|45=>66|5=>5|9=>9|51=>105|55=>109|57=>111|58=>112|33=>57|n=>n,λ| n=>n⟩
theorem lsL:SlLaysZI.n6 Try.prog lsR where
  mixed:=O4
  f6 := ⟨"slices.Sorted[int]", by decide, Try.func27.trans (aU some O4)⟩
  f8 := ⟨"slices.Collect[int]", by decide, Try.func39.trans (aU some O4)⟩
  f11 := ⟨"slices.AppendSeq[[]int,int]", by decide, Try.func47.trans (aU some O4)⟩
  t0:=Try.underlying0
  a0:=Try.isAgg0
  z0:=Try.sizeOf0
  v0:=Try.zeroValue0
  t24:=Try.underlying24
  a24:=Try.isAgg24
  z24:=Try.sizeOf24
  v24:=Try.zeroValue24
  t26:=Try.underlying3
  a26:=Try.isAgg3
  z26:=Try.sizeOf3
  v26:=Try.zeroValue3
  t28:=Try.underlying64
  a28:=Try.isAgg64
  z28:=Try.sizeOf64
  v28:=Try.zeroValue64
  i26:=O4
def ltR:Ren:=⟨λ| 5=>40|8=>49|7=>48|19=>61|20=>62|10=>52|11=>53|12=>54|13=>55|14=>56|15=>57|16=>58|17=>59|18=>60|30=>63|31=>64|32=>65|33=>66|34=>67|35=>68|40=>69|n=>n,λ| 23=>24|25=>3|3=>3|32=>81|22=>24|0=>0|44=>89|46=>92|4=>4|36=>97|35=>96|41=>66|5=>5|9=>9|53=>105|57=>109|63=>111|64=>112|n=>n,λ| n=>n⟩
theorem ltL:SlLaysM.n5 Try.prog ltR where
  mixed:=O4
  f5 := ⟨"slices.Sort[[]int,int]", by decide, Try.func40.trans (aU some O4)⟩
  f7 := ⟨"slices.pdqsortOrdered[int]", by decide, Try.func48.trans (aU some O4)⟩
  f8:=Try.func49.trans (aU some O4)
  f10 := ⟨"slices.insertionSortOrdered[int]", by decide, Try.func52.trans (aU some O4)⟩
  f11 := ⟨"slices.heapSortOrdered[int]", by decide, Try.func53.trans (aU some O4)⟩
  f12 := ⟨"slices.breakPatternsOrdered[int]", by decide, Try.func54.trans (aU some O4)⟩
  f13 := ⟨"slices.choosePivotOrdered[int]", by decide, Try.func55.trans (aU some O4)⟩
  f14 := ⟨"slices.reverseRangeOrdered[int]", by decide, Try.func56.trans (aU some O4)⟩
  f15 := ⟨"slices.partialInsertionSortOrdered[int]", by decide, Try.func57.trans (aU some O4)⟩
  f16 := ⟨"cmp.Less[int]", by decide, Try.func58.trans (aU some O4)⟩
  f17 := ⟨"slices.partitionEqualOrdered[int]", by decide, Try.func59.trans (aU some O4)⟩
  f18 := ⟨"slices.partitionOrdered[int]", by decide, Try.func60.trans (aU some O4)⟩
  f19:=Try.func61.trans (aU some O4)
  f20:=Try.func62.trans (aU some O4)
  f30 := ⟨"slices.siftDownOrdered[int]", by decide, Try.func63.trans (aU some O4)⟩
  f31:=Try.func64.trans (aU some O4)
  f32:=Try.func65.trans (aU some O4)
  f33 := ⟨"slices.medianAdjacentOrdered[int]", by decide, Try.func66.trans (aU some O4)⟩
  f34 := ⟨"slices.medianOrdered[int]", by decide, Try.func67.trans (aU some O4)⟩
  f35 := ⟨"cmp.isNaN[int]", by decide, Try.func68.trans (aU some O4)⟩
  f40 := ⟨"slices.order2Ordered[int]", by decide, Try.func69.trans (aU some O4)⟩
  t0:=Try.underlying0
  a0:=Try.isAgg0
  z0:=Try.sizeOf0
  v0:=Try.zeroValue0
  t3:=Try.underlying3
  a3:=Try.isAgg3
  z3:=Try.sizeOf3
  v3:=Try.zeroValue3
  t4:=Try.underlying4
  a4:=Try.isAgg4
  z4:=Try.sizeOf4
  v4:=Try.zeroValue4
  t5:=Try.underlying5
  a5:=Try.isAgg5
  z5:=Try.sizeOf5
  v5:=Try.zeroValue5
  t9:=Try.underlying9
  a9:=Try.isAgg9
  z9:=Try.sizeOf9
  v9:=Try.zeroValue9
  t22:=Try.underlying24
  a22:=Try.isAgg24
  z22:=Try.sizeOf24
  v22:=Try.zeroValue24
  t23:=Try.underlying24
  a23:=Try.isAgg24
  z23:=Try.sizeOf24
  v23:=Try.zeroValue24
  t25:=Try.underlying3
  a25:=Try.isAgg3
  z25:=Try.sizeOf3
  v25:=Try.zeroValue3
  t32:=Try.underlying81
  a32:=Try.isAgg81
  z32:=Try.sizeOf81
  v32:=Try.zeroValue81
  t35:=Try.underlying96
  a35:=Try.isAgg96
  z35:=Try.sizeOf96
  v35:=Try.zeroValue96
  t36:=Try.underlying97
  a36:=Try.isAgg97
  z36:=Try.sizeOf97
  v36:=Try.zeroValue97
  t41:=Try.underlying66
  a41:=Try.isAgg66
  z41:=Try.sizeOf66
  v41:=Try.zeroValue66
  t44:=Try.underlying89
  a44:=Try.isAgg89
  z44:=Try.sizeOf89
  v44:=Try.zeroValue89
  t46:=Try.underlying92
  a46:=Try.isAgg92
  z46:=Try.sizeOf92
  v46:=Try.zeroValue92
  t53:=Try.underlying105
  a53:=Try.isAgg105
  z53:=Try.sizeOf105
  v53:=Try.zeroValue105
  t57:=Try.underlying109
  a57:=Try.isAgg109
  z57:=Try.sizeOf109
  v57:=Try.zeroValue109
  t63:=Try.underlying111
  a63:=Try.isAgg111
  z63:=Try.sizeOf111
  v63:=Try.zeroValue111
  t64:=Try.underlying112
  a64:=Try.isAgg112
  z64:=Try.sizeOf112
  v64:=Try.zeroValue112
def ltS{m:Nat}:AnyZI.SortsIn Try.prog lsR Fence.wide m:=
  ⟨λc f a h W g b e=>callsIn_wide.2 (AnyM.slices_Sort_int ltL c f a h W g b e),
   λp a W=>callsIn_wide.2 (AnyM.slices_Sort_int_none ltL p a W)⟩
theorem Zhh(xs:List Int):cellsOf (Value.int .i64) xs=xs.map (Value.int .i64):=by
  induction xs with
  | nil=>rfl
  | cons x xs a=>show _::cellsOf _ xs=_;rw [a];rfl
theorem Zg4(i b:Nat)(f:List Int)(z:f.length<=4096)(R:∀x∈f,0<=x/\x<=17592186044416):Cal Try.prog 27 #[.func (.func 41) #[] #[.pointer (some ⟨i,0,none⟩)]] [Kc i 61 #[.map (some b)],mri b f] true (G:=Value×List Int) (λg=>g.2=f.mergeSort leZ) (λg=>g.1) (λg=>[Ou 1 Zo g.1 g.2]):=λw F=>by
  have u:(Kc i 61 #[.map (some b)]).holds w:=F _ O6;have N:(mri b f).holds w:=F _ O6;obtain⟨D,m,o,s⟩:=Ziq (k:=3) N Try.underlying3 (aM z O3) (λx S=>by have h:=R x S;have I:IntKind.i64.min=-9223372036854775808:=rfl;have M:IntKind.i64.max=9223372036854775807:=rfl;simp [Lit.wf,I,M];omega);have n:SeqGives Fence.wide 2 Try.prog 41 #[.pointer (some ⟨i,0,none⟩)] (Value.int .i64) (λr=>r.Perm (intKeys D)) (Maps.size D) w:=
    AnyZI.keys_gives (ρ:=lkR) lkL Fence.wide _ aB rfl O i b _ D w ((Kc i 61 #[.map (some b)]).lt w i u rfl) (by have P:w.heap[i]? = some (.cells #[.map (some b)] 61 (0,0)):=u;simp [World.cell?,P]) m
  have H:=AnyZI.sorted_in lsL Fence.wide 5 aB aB aB aB rfl O ltS (enters_of Try.func40 O4 rfl) 41 #[.pointer (some ⟨i,0,none⟩)] aB (enters_of Try.func41 O4 rfl) _ _ (by rw [o];exact aM z O3) (by rw [o];omega) w n;refine callsIn_wide.1 (H.mono ?_);rintro e V ⟨v,r,rfl,Q,a,B,j⟩;have hs:r.mergeSort leZ=f.mergeSort leZ:=mergeSort_of_perm_i (Q.trans s);refine⟨(v,f.mergeSort leZ),rfl,rfl,j,λp t=>?_⟩;rw [aY.1 t];rw [show(r.mergeSort λx y=>decide (x<=y))=f.mergeSort leZ from hs]at a;have l:r.length=(f.mergeSort leZ).length:=by rw [<-hs,jS]
  have c:V.ownsRow 0 3 1 v (f.mergeSort leZ).length (cellsOf (Value.int .i64) (f.mergeSort leZ)):=by rw [Zhh,<-l];exact ownsRow_base_a a (aW _)
  refine⟨⟨Kv (λ_=>rfl) c,λb j=>(c.lt b j.2).2⟩,rfl,λb j=> .inl (a.lt b j.2).1⟩
open Go.Proofs.Try
open Go.Proofs
set_option synthInstance.maxHeartbeats 0
set_option synthInstance.maxSize 100000
set_option maxRecDepth 20000
set_option linter.unusedSimpArgs false
theorem Zmb(b:Nat):Cal prog 28 #[.map (some b)] [] true (G:=Nat) (λg=>True) (λg=> .func (.func 41) #[] #[.pointer (some ⟨g,0,none⟩)]) (λg=>[Kc g 61 #[.map (some b)]]):=by refine Yf func28 ntmps28 λh f e a=>go 2 ?_;refine Lg (Iv 1) λc _=>go 5 ?_;refine dt (Zf7 [] [_] J aB K1)<|go 4 ?_;exact Xr (Zbd 1 J J)<|Kq a _ results28 J aB (gsm 1 Zh)
theorem Zgl(l:Nat)(j:Value)(cs:List LT)(a:Int)(u:Bool)(e:Cst cs):Cal prog 30 #[.int .i64 a,.bool u,.pointer (some ⟨l,0,none⟩)] [Nd 1 (Qe (α:=List Int)) qL j cs,Kc l 34 #[j]] false (G:=Int) (λg=>(g=-1/\¬QQ cs a)\/(g=1/\QQ cs a)) (λg=> .int .i64 g) (λg=>[]):=by
 refine Yf func30 ntmps30 λt r p f=>go 2 ?_;refine Lg (Iv 3) λn _=>go 5<|Yg (Zbd 3 J J)<|go 2 ?_;refine dt (Zf7 [] [_] J aB K1)<|cl 4 [1,3] (Zdt j cs n a e) λm b=>cl 4 [4] (Zma m.1 m.2 cs.length (gr_gv e b) e.n1) λs c=>go 15 ?_;refine Zy J (λh=>?_) (λh=>?_)
 .refine go 7 ?_;exact Kq f (-1) results30 J (.inl ⟨J,λo=>by have i:=c.2.2 (by rw [b];exact(pm_pa e).2 o);omega⟩) Zh
 .refine go 8 ?_;exact Kq f 1 results30 J (.inr ⟨J,by have i:=c.2.1 (by have:=c.1;omega);rw [b]at i;exact(pm_pa e).1 i⟩) Zh
theorem sl_bsf{v:Value}(s:Value)(l:List Int)(cs:List LT)(r:Nat)(w:Cst cs)(t:Sk cs l):Cal prog 29 #[v,.bool true,.func (.func 30) #[] #[.pointer (some ⟨r,0,none⟩)]] [Ou 1 Zo v l,Nd 1 (Qe (α:=List Int)) qL s cs,Kc r 34 #[s]] false (G:=Nat) (λg=>Bs cs l g g) (λg=> .tuple #[.int .i64 (g:Int),.bool false]) (λg=>[]):=by
 refine Yf func29 ntmps29 λM I y o=>?_;refine Yy (Pr (i:=1) J Zn) (λx=>?_);have B:=t.n2;refine go 22 ?_;refine lp (G:=Nat×Nat) [0,1,2,8] [0,1,2,3] (λq=>[(9,.int .i64 (q.1:Int)),(10,.int .i64 (q.2:Int))]) (λq=>[]) (λq=>Bs cs l q.1 q.2) (λq=>q.2-q.1) (0,l.length) ((bs_0 cs l)) K2 aB ?_;rintro⟨i,j⟩ b;dsimp only at b;dsimp only;have z:=b.ij;refine go 8<|Zy J (λe=>?_) (λe=>?_)
 .have F:i<j:=O;refine go 7 ?_;refine dt (Xa ( .int .i64 ((i+j:Nat):Int)) (Zau J J J) (by rw [hO]))<|dt (Zev J J uT3 underlying81 (by simp only [U];omega))<|dt (Ei 2 (n:=1) J J J J J)<|dt (Zj7 J J underlying81 uT3 ⟨O,O⟩)<|go 8 ?_;refine dt (Zm 1 ((i+j)/2) J J J J Zn Zu Qz J O)<|go 2 ⟨O,?_⟩;refine tt (Md 3 [] [_,_] [_] (Zgl r s cs (l.getD ((i+j)/2) 0) true w) J J J J K2 call30 (Xu 2 J J J (Xu 3 J J J Xj)) J y.h) λH h=>go 3 ?_;refine Zy J (λf=>?_) (λf=>?_)
  .refine go 6 ⟨O,?_⟩;exact Yr (((i+j)/2)+1,j) ((bs_lo t b O (by rcases h with a|a;exact a.2;omega))) (by dsimp only;omega) K2 aB
  .refine go 5 ?_;exact Yr (i,((i+j)/2)) ((bs_hi b O O (by rcases h with a|a;omega;exact a.2))) (by dsimp only;omega) K2 aB
 .obtain rfl:i=j:=O;have m:=bs_lt t b;refine go 12<|Lq 39 J (λp=>?_) (λp=>?_)
  .refine go 3 ?_;refine gdt (Zm 1 i J J J J Zn Zu Qz J m) J J<|go 2 ⟨m,?_⟩;refine gtt (Md 3 [] [_,_] [_] (Zgl r s cs (l.getD i 0) true w) J J J J K2 call30 (Xu 2 J J J (Xu 3 J J J Xj)) J y.h) J J J J (λu c=>?_);refine gdt (dF (d_eql J J J) (by rcases c with a|a<;>(rw [a.1];rfl))) J J<|go 6 ?_;exact xe2 o i results29 J b Zh
  .refine go 14 ?_;exact xe2 o i results29 J b Zh
theorem Zb7(v:Value)(cs:List LT)(b:Cst cs):Cal prog 15 #[v] [Nd 1 (Qe (α:=List Int)) qL v cs] false (G:=Int) (λg=>Ml cs g) (λg=> .int .i64 g) (λg=>[]):=by
 refine Yf func15 ntmps15 λQ P u r=>?_;have H:=b.n1;have I:=b.n2;refine Zep (Pd 1 J Yl) (λN s=>?_);subst s;refine go 2<|Lg (Iv 2) λy _=>go 5 ?_;refine tt (t_smk (i:=3) J J J J u.h) λm _=>go 12 ?_;refine lp (G:=Nat×List Int) [1,3,12,13] [0,1,2] (λq=>[(14,.int .i64 (q.1:Int))]) (λq=>[(3,msi m q.2)]) (λq=>(q.1<=cs.length)/\(KsI cs q.1 0 q.2)) (λq=>cs.length-q.1) (0,[]) ⟨O1,ks_0 cs⟩ K1 K1 ?_;rintro⟨i,w⟩ ⟨hi,l⟩;dsimp only at hi l;dsimp only;refine go 6<|Zy J (λn=>?_) (λn=>?_)
 .have a:i<cs.length:=O;refine go 5<|Yg (Nv 1 73 J J (Ym i (d:=Yt) a))<|go 1 ?_;refine dt (Zm 1 i J J J J Yl Mp Ge J a)<|dt (Xk 1 Yt J J J Yl pS a)<|go 4 ?_;refine Yy (Pr (i:=73) J Zn) λM=>go 7 ?_;refine lp (G:=Nat×List Int) [1,3,12,13,14,18,19] [0,1,2,73] (λq=>[(20,.int .i64 (q.1:Int))]) (λq=>[(3,msi m q.2)]) (λq=>(q.1<=(cs.getD i Yt).2.length)/\(KsI cs i q.1 q.2)) (λq=>(cs.getD i Yt).2.length-q.1) (0,w) ⟨O1,l⟩ K1 K1 ?_;rintro⟨j,kt⟩ ⟨F,p⟩;dsimp only at F p;dsimp only;refine go 6<|Zy J (λo=>?_) (λo=>?_)
  .have h:j<(cs.getD i Yt).2.length:=O;refine go 6 ?_;refine dt (Zm 73 j J J J J Zn Zu Qz J h)<|go 7 ⟨h,?_⟩;refine tt (t_sins (i:=3) J J J J J J J J underlying61 uT3 J u.h aB) (λ_ _=>?_);refine go 7 ⟨O,?_⟩;exact Yr (j+1,Br kt ((cs.getD i Yt).2.getD j 0)) ⟨O1,ks_in b p a h⟩ O1 K1 K1
  .obtain rfl:j=(cs.getD i Yt).2.length:=O;refine go 10 ⟨O,?_⟩;exact Yr (i+1,kt) ⟨O1,ks_out b p a⟩ O1 K1 K1
 .obtain rfl:i=cs.length:=O;refine go 6<|Yg (Zh8 3 J J)<|go 2 ?_;refine cl 4 [] (Zmb m) λz _=>cl 5 [4,3] (Zg4 z m w (Zja b l) (ks_rg b l)) λx t=>go 4 ?_;have e:=sk_of b l t;refine Yy (Pr (i:=5) J Zn) λB=>go 2 ?_;refine dt (Zf7 [] [_] J aB K1)<|cl 5 [5,1,2] (sl_bsf (Qu N) x.2 cs y b e) λgb f=>go 8 ?_;have c:=bs_lt e f;refine go 3 ?_;refine dt (Zm 5 gb J J J J Zn Zu Qz J c)<|go 5 ⟨c,?_⟩;exact Kq r (x.2.getD gb 0) results15 J (sk_ml b e c f.lo (f.hi c)) Zh
theorem Iq{α:Type}{l:List α}{n m:Nat}(h:l.length=n)(a:m<n):m<l.length:=by rw [h];exact a
theorem Mi{α:Type}{l:List α}{n m:Nat}(h:l.length=n+1)(a:m<=n):m<l.length:=by rw [h];exact iS a
theorem Zme{α:Type}{l:List α}{n m:Nat}{x:α}(h:l.length=n+1)(a:m<=n):m<(l.set k x).length:=by rw [aS,h];exact iS a
theorem Zh0{f:Nat->Int}{c:Int} : ∀n:Nat,(∀k,k<n->f k<=c)->Zc f n<=n*c
 | 0,_=>by simp [Zc]
 | n+1,h=>by
  have a:=Zh0 n λk e=>h k O;have b:=h n O;rw [Zf];have:((n+1:Nat):Int)*c=n*c+c:=by rw [hO,gU];simp
  omega
section
variable {C:List (List Int)} {n i:Nat} {most:Int} {u v rows bf ds u' v' ds' bf2 ds2:List Int} {dl:List Nat} {col:Nat} {S ls nx:Int} {m:Nat} {P:Nat->Nat}
theorem Zjh(h:Hu C n most u v S)(a:Pa C n most P)(g:1<=n/\n<=64)(b:0<=most/\most<=17592186044416):0<=S/\S<=1125899906842624:=by have c:=h.le a;have e:asS C P n<=n*most:=Zh0 n a.c;have f:(n:Int)*most<=64*most:=cH O b.1;have:=h.un 0 O;omega
theorem Cst.c0{cs:List LT}(h:Cst cs):∀r k,r<cs.length->k<cs.length->0<=cC (It cs) r k:=λr k b a=>by rw [Lc];exact(h.rg r k b a).1
theorem hu_F(h:Hu C n most u v S)(a:Pa C n most P)(c:1<=n/\n<=64)(b:0<=most/\most<=17592186044416):most+S<Mm:=by have:=Zjh h a c b;show _<(1152921504606846976:Int);omega
structure Dn (dn:List Bool) (n:Nat) (d:List Nat):Prop where
 l:dn.length=n+1
 m:∀k,k<=n->dn.getD k false=decide (k∈d)
theorem dn_0(n:Nat):Dn (List.replicate (n+1) false) n []:=⟨bJ,λk a=>by rw [aA,cT,aK O];rfl⟩
theorem Zjz{dn:List Bool}(h:Dn dn n d)(b:col<=n):Dn (dn.set col true) n (d ++ [col]):=⟨by rw [aS,h.l],λk a=>by
 rw [aA,dY];by_cases e:col=k
 .subst e;rw [aK rfl,aK (by rw [h.l];omega)];simp
 .rw [aG e];have:=h.m k a;rw [aA]at this;rw [this];exact decide_eq_decide.2 ⟨λh=>eT _ h,λh=>(bG.1 h).elim id λh=>absurd (aY.1 h).symm e⟩⟩
theorem Dn.t{dn:List Bool}(h:Dn dn n d)(a:k<=n)(e:dn.getD k false=true):k∈d:=by rw [h.m k a]at e;exact bB e
theorem Dn.f{dn:List Bool}(h:Dn dn n d)(a:k<=n)(e:dn.getD k false=false):k ∉ d:=by rw [h.m k a]at e;exact fH e
structure Pw (C:List (List Int)) (n i:Nat) (most:Int) (u v rows:List Int) (S:Int):Prop where
 ph:Ph C n i most u v rows S
 vn:cU v n=-S
theorem pw_0(a:∀r k,r<n->k<n->0<=cC C r k):Pw C n 0 most (List.replicate n 0) (List.replicate (n+1) 0) (List.replicate (n+1) (-1)) 0:=⟨ph_0 a,by rw [Zey];split<;>rfl⟩
structure Tv (C:List (List Int)) (n i:Nat) (most:Int) (u v rows bf ds:List Int) (dn:List Bool) (dl:List Nat) (col:Nat) (S:Int):Prop where
 tp:Tp C n i most u v rows bf ds dl col S
 dn:Dn dn n dl
 vn:cU v n=-S
section
variable {dn:List Bool}
def tvw_0(h:Pw C n i most u v rows S):Tv C n i most u v (rows.set n (i:Int)) (List.replicate n 0) (List.replicate n Mm) (List.replicate (n+1) false) [] n S:=⟨tp_0 h.ph,dn_0 n,h.vn⟩
def Tv.cl(h:Tv C n i most u v rows bf ds dn dl col S):col<=n:=h.tp.nx.tw.le col (jR _ (aY.2 rfl))
def Tv.lr(h:Tv C n i most u v rows bf ds dn dl col S):rows.length=n+1:=h.tp.nx.rw.lr
theorem Tv.row(hi:i<n)(h:Tv C n i most u v rows bf ds dn dl col S)(a:k∈dl ++ [col]):∃r:Nat,rows.getD k 0=(r:Int)/\r<n/\gI rows k=(r:Int):=by obtain⟨r,b,c⟩:=Er hi h.tp.nx.rw (h.tp.nx.tw.le k a) (h.tp.hr k a);exact⟨r,by rw [<-Ov (by rw [h.lr];have:=h.tp.nx.tw.le k a;omega)];exact b,c,b⟩
def tv_sc(h:Tv C n i most u v rows bf ds dn dl col S):Sc C n most u v rows dl col bf bf ds 0 0 (-1) Mm:=sc_0 h.tp.nx.lb h.tp.nx.ld λk a b=>h.tp.nx.dk k a b
theorem tv_rd(hi:i<n)(h:Tv C n i most u v rows bf ds dn dl col S){r:Nat}(b:r<n)(a:k<n):(0<=cU u r/\cU u r<=S)/\-S<=cU v k/\cU v k<=0/\(cC C r k<=most->0<=cC C r k-cU u r-cU v k):=
 ⟨h.tp.nx.hu.un r b,(h.tp.nx.hu.vn k a).1,(h.tp.nx.hu.vn k a).2,λc=>by have:=h.tp.nx.hu.fe r k b a c;omega⟩
def tv_up(h:Tv C n i most u v rows bf ds dn dl col S)(a:Sc C n most u v rows dl col bf bf2 ds2 n n nx ls):Up n rows (dl ++ [col]) u v ds2 u v ds2 S ls 0:=up_0 h.tp.nx.hu.lu h.tp.nx.hu.lv a.ld h.tp.nx.hu.sm
theorem up_uB(hi:i<n)(h:Tv C n i most u v rows bf ds dn dl col S)(c:Up n rows (dl ++ [col]) u v ds2 u' v' ds' S ls m)(f:m∈dl ++ [col]){r:Nat}(l:gI rows m=(r:Int))(b:r<n):0<=cU u' r/\cU u' r<=S:=by
 have j:=h.tp.nx.tw.le m f;rw [c.u0 r b λk a g e=>by have:=Cf h.tp.nx.rw (h.tp.nx.tw.le k a) j (h.tp.hr k a) (e.trans l.symm);omega]
 exact h.tp.nx.hu.un r b
theorem up_vB(h:Tv C n i most u v rows bf ds dn dl col S)(b:Up n rows (dl ++ [col]) u v ds2 u' v' ds' S ls m)(c:m<=n)(e:0<=S):-S<=cU v' m/\cU v' m<=0:=by
 rw [b.v0 m (.inr (aH _))];rcases kU c with a|rfl
 .exact h.tp.nx.hu.vn m a
 .rw [h.vn];omega
theorem up_dB(c:Sc C n most u v rows dl col bf bf2 ds2 n n nx ls)(b:Up n rows (dl ++ [col]) u v ds2 u' v' ds' S ls m)(a:m<n)(e:m ∉ dl ++ [col]):0<=cU ds' m/\cU ds' m<=Mm:=by rw [b.d0 m a (.inr (.inl (aH _)))];exact(c.a m a a e).nn
theorem up_dn(h:Tv C n i most u v rows bf ds dn dl col S)(f:Up n rows (dl ++ [col]) u v ds2 u' v' ds' S ls m)(a:m∈dl ++ [col]){r:Nat}(l:gI rows m=(r:Int))(j:r<n) :
  Up n rows (dl ++ [col]) u v ds2 (u'.set r (cU u' r+ls)) (v'.set m (cU v' m-ls)) ds' S ls (m+1):=by
 have c:=h.tp.nx.tw.le m a;exact Zla f c a l j λk b g e=>by have:=Cf h.tp.nx.rw (h.tp.nx.tw.le k b) c (h.tp.hr k b) e;omega
def tv_n(h:Tv C n i most u v rows bf ds dn dl col S):n∈dl ++ [col]:=jQ h.tp.nx.tw.hd
theorem tv_end(hi:i<n)(e:most+S<Mm)(h:Tv C n i most u v rows bf ds dn dl col S)(f:Sc C n most u v rows dl col bf bf2 ds2 n n nx ls)(g:nx=(q:Int))(a:Up n rows (dl ++ [col]) u v ds2 u' v' ds' S ls (n+1)) :
  Nx C n i most u' v' rows bf2 ds' (dl ++ [col]) q (S+ls)/\q<n/\cU v' n=-(S+ls):=by
 obtain⟨b,c⟩:=up_end hi e h.tp.nx.hu h.tp.nx.rw h.tp.nx.tw h.tp.hr f g a;exact⟨b,c,by rw [a.v1 n (tv_n h) (eF n),h.vn];omega⟩
def Zlc(h:Tv C n i most u v rows bf ds dn dl col S)(a:Nx C n i most u' v' rows bf2 ds' (dl ++ [col]) q (S+ls))(c:cU v' n=-(S+ls))(b:0<=gI rows q) :
  Tv C n i most u' v' rows bf2 ds' (dn.set col true) (dl ++ [col]) q (S+ls):=⟨Zle a h.tp.hr b,Zjz h.dn h.cl,c⟩
def tv_fl(a:Nx C n i most u v rows bf ds dl col S)(b:gI rows col<0):Fl C n i most u v rows rows (dl ++ [col]) dl.length col:=fl_0 a.rw a.tw b
def pw_s(b:Nx C n i most u v rows bf ds dl col S)(c:cU v n=-S){j:Nat}(a:Fl C n i most u v rows rows2 D j n):Pw C n (i+1) most u v rows2 S:=⟨⟨b.hu,fl_end a⟩,c⟩
end
theorem Zl1(h:Ph C n n most u v rows S)(z:k<n):∃r:Nat,rows.getD k 0=(r:Int)/\r<n/\gI rows k=(r:Int):=by
 obtain⟨Q,p,f,-⟩:=Zim h;have hs:∃r,r<n/\Q r=k:=by
  have c:(List.range n).map Q ⊆ List.range n:=λx j=>by obtain⟨r,f,rfl⟩:=cQ.1 j;exact bR.2 (p.lt r (bR.1 f))
  have s:((List.range n).map Q).Nodup:=lF.2 (eZ.imp_of_mem λ{a b} w y l e=>l (p.i a b (bR.1 w) (bR.1 y) e));by_cases o:k∈(List.range n).map Q
  .obtain⟨r,f,e⟩:=cQ.1 o;exact⟨r,bR.1 f,e⟩
  .exfalso;have t:(k::(List.range n).map Q) ⊆ List.range n:=λx j=>by
    rcases dA.1 j with rfl|j
    .exact bR.2 z
    .exact c j
   have:=fA (eA.2 ⟨o,s⟩) t;simp at this;omega
 obtain⟨r,g,e⟩:=hs;have c:=f r g;rw [e]at c;exact⟨r,by rw [<-Ov (by rw [h.mw.lr];omega)];exact c,g,c⟩
structure Cl (n:Nat) (rows cl:List Int) (m:Nat):Prop where
 l:cl.length=n
 c:∀k,k<m->∀r:Nat,gI rows k=(r:Int)->cl.getD r 0=(k:Int)
def cl_0{n:Nat}{rows:List Int}:Cl n rows (List.replicate n 0) 0:=⟨bJ,λk h=>absurd h (aZ k)⟩
theorem cl_s{cl:List Int}(h:Ph C n n most u v rows S)(a:Cl n rows cl m)(j:m<n){r:Nat}(o:gI rows m=(r:Int))(l:r<n):Cl n rows (cl.set r (m:Int)) (m+1):=
 ⟨by rw [aS,a.l],λk g r2 e=>by
  have b:(cl.set r (m:Int)).getD r2 0=if r2=r then(m:Int)else cl.getD r2 0:=Hg _ _ _ (by rw [a.l];exact l)
  rw [b];rcases bE.1 g with f|rfl
  .rw [aG λc=>by subst c;have:=h.mw.inj k m O j O (e.trans o.symm);omega]
   exact a.c k f r2 e
  .rw [aK O]⟩
structure Bx (C:List (List Int)) (n:Nat) (most:Int) (cl:List Int) (Q:Nat->Nat):Prop where
 p:Pa C n most Q
 c:cl=(List.range n).map λr=>(Q r:Int)
 m:∀P,Pa C n most P->asS C Q n<=asS C P n
theorem bx_of{cl:List Int}(h:Ph C n n most u v rows S)(c:Cl n rows cl n):∃Q,Bx C n most cl Q:=by
 obtain⟨Q,e,g,hs⟩:=Zim h;refine⟨Q,e,?_,λP f=>by rw [hs];exact Zl2 h f⟩;refine iW (by simp [c.l]) λr b j=>?_;have a:r<n:=by rw [c.l]at b;exact b
 have:=c.c (Q r) (e.lt r a) r (g r a);rw [aA,aF b]at this;simp only [List.getElem_map,List.getElem_range];exact this
end
section
variable {cs:List LT} {i:Nat} {most:Int} {u v rows bf ds u' v' ds' bf2 ds2:List Int} {dl:List Nat} {col:Nat} {S ls nx:Int} {m:Nat} {r:Nat} {dn:List Bool}
theorem Zcn(a:gI rows col=(r:Int))(h:Sc (It cs) cs.length most u v rows dl col bf bf2 ds2 m m nx ls)(b:(cs.getD r Yt).2.getD m 0<=most->¬(cs.getD r Yt).2.getD m 0-u.getD r 0-v.getD m 0<ds2.getD m 0):Sc (It cs) cs.length most u v rows dl col bf bf2 ds2 (m+1) m nx ls:=
 Zln h (by rw [a,bW];unfold Hz;rw [Lc];exact b)
theorem Zll(a:gI rows col=(r:Int))(h:Sc (It cs) cs.length most u v rows dl col bf bf2 ds2 m m nx ls)(g:m<cs.length)(f:m ∉ dl ++ [col])(c:(cs.getD r Yt).2.getD m 0<=most)(j:(cs.getD r Yt).2.getD m 0-u.getD r 0-v.getD m 0<ds2.getD m 0)(b:0<=(cs.getD r Yt).2.getD m 0-u.getD r 0-v.getD m 0) :
  Sc (It cs) cs.length most u v rows dl col bf (bf2.set m (col:Int)) (ds2.set m ((cs.getD r Yt).2.getD m 0-u.getD r 0-v.getD m 0)) (m+1) m nx ls:=by
 have e:Hz (It cs) u v (gI rows col).toNat m=(cs.getD r Yt).2.getD m 0-u.getD r 0-v.getD m 0:=by rw [a,bW];unfold Hz;rw [Lc]
 have:=sc_upd h g f (by rw [a,bW,Lc];exact c) (by rw [e];exact j) (by rw [e];exact b);rw [e]at this;exact this
theorem Zhw(hi:i<cs.length)(h:Tv (It cs) cs.length i most u v rows bf ds dn dl col S)(b:r<cs.length)(a:m<cs.length):(0<=u.getD r 0/\u.getD r 0<=S)/\-S<=v.getD m 0/\v.getD m 0<=0/\((cs.getD r Yt).2.getD m 0<=most->0<=(cs.getD r Yt).2.getD m 0-u.getD r 0-v.getD m 0):=by have:=tv_rd hi h b a;rw [Lc]at this;exact this
theorem Zjn{rows:List Int}{j c:Nat}{n:Nat}{C:List (List Int)}(f:Nx C n i most u v rows0 bf ds dl col S)(w:D=dl ++ [col])(h:Fl C n i most u v rows0 rows D j c)(g:c≠n) :
  ∃b e:Nat,bf.getD c 0=(b:Int)/\b<=n/\c<n/\e<j/\Fl C n i most u v rows0 (rows.set c (rows.getD b 0)) D e b:=by
 subst w;obtain⟨b,e,o,p,s,t⟩:=Zmr f.tw h g;have a:c<n:=iH (f.tw.le c (fP h.jc)) g;refine⟨b,e,by rw [<-Ov (by rw [f.lb];exact a)];exact o,p,a,s,?_⟩;rw [<-Ov (l:=rows) (i:=b) (by rw [h.lr];omega)];exact t
end
end Go.Sky
namespace Go.Sky
open Go
variable {P:Program} {N:Nat} {sc:Nat->Prop} {env env':Yd} {H H':Hp}
def preW(v:Value)(n:Nat):Value:=match v with
 | .slice a _ _=> .slice a n n
 | u=>u
theorem d_pre3 {α:Type} {o:Oper} {x y z:Operand} {t e:TypeId} {v:Value} {ii k i:Nat} {Q j:IntKind} {m B:Int} {p:Pc} {enc:α->Value} {xs:List α} (l:o.op= .slice t x none (some y) (some z))
  (r:ev env x=some v) (s:ev env y=some (.int Q m)) (u:ev env z=some (.int j B)) (I:lk H ii=some p) (M:Rd p k enc v xs) (n:P.underlying t=some (.slice e)) (f:∀w,(sizeOf e).run P w= .ok k w)
  (g:m=(i:Int)) (d:B=(i:Int)) (h:i<=xs.length):Pv P N sc o env H (preW v i):=λa w hs=>by
 obtain⟨D,c,rfl,G,R,S⟩:=M w (hs.hold ii p I);subst g;subst d;have b:i<=c:=aM h G;have F:∀q:Addr,q.add 0=q:=λq=>by simp [Addr.add]
 cases D with
 | none=>simp [execOp,l,hs.ev r,hs.ev s,hs.ev u,Instr.sliceAt,Instr.slice,Instr.sliceBounds,Instr.sliceBound,asIntOf,run_underlying n,f,b,preW]
 | some q=>simp [execOp,l,hs.ev r,hs.ev s,hs.ev u,Instr.sliceAt,Instr.slice,Instr.sliceBounds,Instr.sliceBound,asIntOf,run_underlying n,f,b,preW,F]
end Go.Sky
namespace Go.Sky
open Go.Proofs.Try
open Go.Proofs
set_option synthInstance.maxHeartbeats 0
set_option synthInstance.maxSize 100000
set_option maxRecDepth 20000
set_option linter.unusedSimpArgs false
def Zdu(v:Value)(cs:List LT)(n:Int)(hC:Cst cs)(hM:Ml cs n):Cal prog 16 #[v,.int .i64 n] [Nd 1 (Qe (α:=List Int)) qL v cs] true (G:=SL×SL×SL×List Int) (λg=>∃Q,Bx (It cs) cs.length n g.2.2.2 Q) (λg=> .tuple #[Qu g.1,Qu g.2.1,Qu g.2.2.1]) (λg=>[Ou 1 Zo (Qu g.1) g.2.2.2]):=by
 refine Yf func16 ntmps16 λw0 sc y d7=>?_;have R:=hC.n1;have V:=hC.n2;obtain⟨P,F⟩:=hM.q;have hm:=hM.r;refine go 14 ?_;refine jn (G:=Value×Value) [0,1,7] [0,1] (λq=>[(5,q.1),(6,q.2)]) (λq=>[(61,Yu 1 3 Zo q.1 (List.replicate cs.length 0)),(62,Yu 1 3 Zo q.2 (List.replicate (cs.length+1) 0))]) (λq=>True) ?_ ?_
 .refine Fy (λ_=>False) [6]<|Ic 4 [(0,0),(2,0),(3,0)]<|go 2 ?_;refine Kx J J (Hy (Xa ( .int .i64 ((cs.length+1:Nat):Int)) (Zau J J J) J))<|go 1 ?_
  repeat' first|refine bq 1 ?_;refine Im rfl rfl (Ga 61 cs.length 8 (enc:=Zo) 0 rfl rfl rfl rfl rfl Zu ti3 rfl pZ.cells pZ.pos rfl rfl rfl y.h) (λv _=>?_)|refine bq 4 ?_;refine Im rfl rfl (Ga 62 (cs.length+1) 8 (enc:=Zo) 0 rfl rfl rfl rfl rfl Zu ti3 rfl pZ.cells pZ.pos rfl rfl rfl y.h) (λf6 _=>?_)|refine Dy 1 4 O5 ?_ ?_|refine Dz 1 O5 ?_|refine Dz 4 O5 ?_|refine Ak 5 0 O5 ?_;refine go 2 ?_|refine Ak 6 3 O5 ?_;refine go 2 ?_|refine Ie ?_ O5;exact x_j (_,_) aB ⟨rfl,rfl,aB⟩ ⟨rfl,rfl,aB⟩
 .rintro⟨vu,vv⟩ -;dsimp only;refine go 2 ?_;refine tt (Od [(0,_)] 71 (enc:=Zo) [-1] J J K2 Zu ti3 J J J J J pZ.cells J J y.h) λf7 _=>go 1 ?_;refine dt (Xa ( .int .i64 ((cs.length+1:Nat):Int)) (Zau J J J) J)<|tt (Gy 63 (Hi (-1) (cs.length+1) O O) J J J K2 call33 (Ha 71 J J pZ Xj) J y.h) λd1 _=>go 11 ?_;refine lp (G:=Nat×List Int×List Int×List Int×Int) [0,1,5,6,7,8,33] [0,1,71] (λq=>[(34,.int .i64 (q.1:Int))]) (λq=>[(61,Yu 1 3 Zo vu q.2.1),(62,Yu 1 3 Zo vv q.2.2.1),(63,Yu 1 3 Zo d1 q.2.2.2.1)]) (λq=>(q.1<=cs.length)/\(Pw (It cs) cs.length q.1 n q.2.1 q.2.2.1 q.2.2.2.1 q.2.2.2.2)) (λq=>cs.length-q.1) (0,_,_,_,0) ⟨O1,pw_0 hC.c0⟩ K1 K3 ?_;rintro⟨i,u,v2,p,S⟩ ⟨hi,M⟩;dsimp only at hi M;dsimp only;refine go 6<|Zy J (λc0=>?_) (λc0=>?_)
  .have I:i<cs.length:=O;refine go 10 ?_;refine Zmy<|go 5 ?_;refine dt (Zm 63 cs.length J J J J (Ze pZ) Zu Qz J (Mi M.ph.mw.lr (aH _)))<|tt (Nl 63 (enc:=Zo) J J J J J J pZ J y.h O3 (Mi M.ph.mw.lr (aH _))) λ_ _=>go 8 ?_;refine jn (G:=Value×Value×Value) [0,1,5,6,7,8,10,33,34] [0,61,62,63,1,71] (λq=>[(11,q.1),(12,q.2.1),(13,q.2.2)]) (λq=>[(64,Yu 1 3 Zo q.1 (List.replicate cs.length 1152921504606846976)),(65,Yu 1 3 Zo q.2.1 (List.replicate cs.length 0)),(66,Yu 1 4 Kk q.2.2 (List.replicate (cs.length+1) false))]) (λq=>True) ?_ ?_
   .refine Fy (λ_=>False) [10]<|Ic 7 [(1,0),(3,0),(5,0),(6,0)]<|go 3 ?_;refine Kx J J (Hy (Xa ( .int .i64 ((cs.length+1:Nat):Int)) (Zau J J J) J))<|go 1 ?_
    repeat' first|refine bq 0 ?_;refine Im rfl rfl (Od [(0,_)] 72 (enc:=Zo) [1152921504606846976] rfl rfl ⟨rfl,rfl,aB⟩ Zu ti3 rfl rfl rfl rfl rfl pZ.cells rfl rfl y.h) (λf8 _=>?_)|refine bq 2 ?_;refine Im rfl rfl (Gy 64 (Hi 1152921504606846976 cs.length O O) rfl rfl rfl ⟨rfl,rfl,aB⟩ call33 (Ha 72 rfl rfl pZ Xj) rfl y.h) (λf9 _=>?_)|refine bq 4 ?_;refine Im rfl rfl (Ga 65 cs.length 8 (enc:=Zo) 0 rfl rfl rfl rfl rfl Zu ti3 rfl pZ.cells pZ.pos rfl rfl rfl y.h) (λg0 _=>?_)|refine bq 7 ?_;refine Im rfl rfl (Ga 66 (cs.length+1) 1 (enc:=Kk) false rfl rfl rfl rfl rfl Ao ti4 rfl pBo.cells pBo.pos rfl rfl rfl y.h) (λg1 _=>?_)|refine Zn4 0 4 7 O5 ?_ ?_ ?_|refine Dy 0 4 O5 ?_ ?_|refine Dz 0 O5 ?_|refine Dz 2 O5 ?_|refine Dy 2 4 O5 ?_ ?_|refine Dz 4 O5 ?_|refine Dy 0 7 O5 ?_ ?_|refine Dy 2 7 O5 ?_ ?_|refine Dz 7 O5 ?_|refine Zn4 2 4 7 O5 ?_ ?_ ?_|refine Dy 4 7 O5 ?_ ?_|refine Ak 8 0 O5 ?_;refine go 2 ?_|refine Ak 9 0 O5 ?_;refine go 2 ?_|refine Ak 10 3 O5 ?_;refine go 2 ?_|refine Ie ?_ O5;exact x_j (_,_,_) aB ⟨rfl,rfl,rfl,aB⟩ ⟨rfl,rfl,rfl,aB⟩
   .rintro⟨vd,vb,vn⟩ -;dsimp only;refine go 1 ?_;refine Zmz<|go 3 ?_;refine lp (G:=List Int×List Int×List Int×List Int×List Bool×List Nat×Nat×Int) [0,1,5,6,7,8,11,12,13,33,34] [0,63,1,71] (λq=>[(10,.int .i64 (q.2.2.2.2.2.2.1:Int))]) (λq=>[(61,Yu 1 3 Zo vu q.1),(62,Yu 1 3 Zo vv q.2.1),(64,Yu 1 3 Zo vd q.2.2.2.1),(65,Yu 1 3 Zo vb q.2.2.1),(66,Yu 1 4 Kk vn q.2.2.2.2.1)]) (λq=>Tv (It cs) cs.length i n q.1 q.2.1 (p.set cs.length (i:Int)) q.2.2.1 q.2.2.2.1 q.2.2.2.2.1 q.2.2.2.2.2.1 q.2.2.2.2.2.2.1 q.2.2.2.2.2.2.2) (λq=>cs.length+1-q.2.2.2.2.2.1.length) (_,_,_,_,_,[],cs.length,_) ((tvw_0 M)) ⟨J,aB⟩ ⟨J,J,J,J,J,aB⟩ ?_;rintro⟨u2,w2,bf,ds,dn,dl,D,S2⟩ b;dsimp only at b;dsimp only;obtain⟨r,hr,o,b7⟩:=b.row I (k:=D) O6;refine go 5 ?_;refine dt (Zm 66 D J J J J (Ze pBo) Ao sizeOf4 J (Mi b.dn.l b.cl))<|tt (Nl 66 (enc:=Kk) (z:=true) J J J J J J pBo J y.h O3 (Mi b.dn.l b.cl)) λ_ _=>go 6 ?_;refine dt (Zm 63 D J J J J (Ze pZ) Zu Qz J (Mi b.lr b.cl))<|dt (Xa ( .int .i64 (r:Int)) (Xk 63 0 J J J (Ze pZ) pZ (Mi b.lr b.cl)) (aU (Value.int .i64) hr))<|go 13 ?_;refine lp (G:=Nat×List Int×List Int×Int×Int) [0,1,5,6,7,8,10,11,12,13,14,33,34,57] [0,61,62,66,63,1,71] (λq=>[(58,.int .i64 (q.1:Int)),(15,.int .i64 q.2.2.2.1),(16,.int .i64 q.2.2.2.2)]) (λq=>[(64,Yu 1 3 Zo vd q.2.2.1),(65,Yu 1 3 Zo vb q.2.1)]) (λq=>(q.1<=cs.length)/\(Sc (It cs) cs.length n u2 w2 (p.set cs.length (i:Int)) dl D bf q.2.1 q.2.2.1 q.1 q.1 q.2.2.2.1 q.2.2.2.2)) (λq=>cs.length-q.1) (0,bf,ds,-1,_) ⟨O1,tv_sc b⟩ ⟨J,J,J,aB⟩ ⟨J,J,aB⟩ ?_;rintro⟨m,d2,b8,nx,ls⟩ ⟨b3,H⟩;dsimp only at b3 H;dsimp only;refine go 6<|Zy J (λc1=>?_) (λc1=>?_)
    .have a:m<cs.length:=O;refine go 15 ?_;refine dt (Zm 66 m J J J J (Ze pBo) Ao sizeOf4 J (Zme b.dn.l (bP a)))<|dt (Xk 66 false J J J (Ze pBo) pBo (Zme b.dn.l (bP a)))<|go 2 ?_;refine Ng J (λY=>?_) (λY=>?_)
     .have l:=(Zjz b.dn b.cl).t O Y;refine go 8 ⟨O,?_⟩;exact Yr (m+1,d2,b8,nx,ls) ⟨O1,Zlo H l⟩ O1 K3 K2
     .have l:=(Zjz b.dn b.cl).f O Y;refine go 4<|Yg (Nv 1 73 J J (Ym r (d:=Yt) o)) ?_;have c6:m<(cs.getD r Yt).2.length:=by rw [hC.ln r o];exact a
      refine go 3 ?_;refine dt (Zm 1 r J J J J Yl Mp Ge J o)<|dt (Xk 1 Yt J J J Yl pS o)<|go 1 ?_;refine dt (Zm 73 m J J J J Zn Zu Qz J c6)<|go 5 ⟨c6,?_⟩;rcases Decidable.em ((cs.getD r Yt).2.getD m 0<=n)with W|W
      .have a6:=Zjh b.tp.nx.hu F ⟨R,V⟩ hm;have d0:=Zhw I b o a;have d4:=hC.rg r m o a;refine Da (λ_=>False) [(0,0),(1,0),(2,0),(3,0),(4,0),(5,0),(6,0),(7,0),(8,0),(9,0),(10,0),(11,0),(12,0),(13,0),(14,0),(15,0),(16,0),(17,0),(18,0),(19,0),(20,0)]<|go 2 ?_;refine Kx J J (Hy (dT (Zj5 J J J) (vB (aQ W))))<|go 4 ?_;refine r0g (Hy (Zm 61 r J J J J (Ze pZ) Zu Qz J (Iq b.tp.nx.hu.lu o))) J J J J J J J<|go 4 ⟨Iq b.tp.nx.hu.lu o,O,?_⟩;refine r0g (Hy (Zm 62 m J J J J (Ze pZ) Zu Qz J (Mi b.tp.nx.hu.lv (bP a)))) J J J J J J J<|go 4 ⟨Mi b.tp.nx.hu.lv (bP a),O,?_⟩;refine r0g (Hy (Zm 64 m J J J J (Ze pZ) Zu Qz J (Iq H.ld a))) J J J J J J J<|go 5 ⟨Iq H.ld a,?_⟩;refine Zy J (λZ=>?_) (λZ=>?_)
       .have a4:=Z;have f0:=H.ld;have f1:=H.lb;refine Yy (Aa 64 J O) (λe1=>?_);refine Yy (Aa 65 J O) (λe2=>?_);refine Fx [61,62] [19]<|Ic 0 [(0,0),(1,0),(2,0),(3,0),(4,0),(5,0),(6,0),(7,0),(8,0),(9,0),(10,0),(11,0),(12,0),(13,0),(14,0),(15,0),(16,0),(17,1),(18,0),(19,3)]<|go 7 ?_;refine Kx J J (stf (Zm 61 r J J J J (Ze pZ) Zu Qz J (Iq b.tp.nx.hu.lu o)) K2)<|go 4 ⟨Iq b.tp.nx.hu.lu o,O,?_⟩;refine Kx J J (stf (Zm 62 m J J J J (Ze pZ) Zu Qz J (Mi b.tp.nx.hu.lv (bP a))) K2)<|go 3 ⟨Mi b.tp.nx.hu.lv (bP a),O,?_⟩;refine Kx J J (stf (Zat m J J J e1 Zu Qz J) K2)<|r1' J (Zd1 64 J J J K2 (λb4=>(Zd0 64 (enc:=Zo) _ J J J J J J pZ J y.h b4 O3 (Iq H.ld a)))) (λ_ _=>?_);refine Kx J J (stf (Zat m J J J e2 Zu Qz J) K2)<|r3' J (Nl 65 (enc:=Zo) J J J J J J pZ J y.h O3 (Iq H.lb a)) λ_ _=>go 1 ?_;refine Ie<|go 2 ?_;have j:=Zll b7 H a l W a4 (d0.2.2.2 W);refine go 3 ?_;refine dt (Zm 64 m J J J J (Ze pZ) Zu Qz J (Iq j.ld a))<|go 5 ⟨Iq j.ld a,?_⟩;refine Zy J (λa0=>?_) (λa0=>?_)
        .have f:=a0;refine Da (λ_=>False) [(0,0),(1,0),(2,0),(3,0),(4,0),(5,0),(6,3)]<|go 3 ?_;refine Kx J J (Hy (Zm 64 m J J J J (Ze pZ) Zu Qz J (Iq j.ld a)))<|go 10 ⟨Iq j.ld a,O,?_⟩;exact Yr (m+1,_,_,(m:Int),_) ⟨O1,Zbc j a l f⟩ O1 K3 K2
        .have f:=a0;refine go 7 ⟨O,?_⟩;exact Yr (m+1,_,_,nx,ls) ⟨O1,Zbb j a l f⟩ O1 K3 K2
       .have a4:=Z;refine go 3 ?_;have j:=Zcn b7 H (λ_=>a4);refine go 3 ?_;refine dt (Zm 64 m J J J J (Ze pZ) Zu Qz J (Iq j.ld a))<|go 5 ⟨Iq j.ld a,?_⟩;refine Zy J (λw=>?_) (λw=>?_)
        .have f:=w;refine Da (λ_=>False) [(0,0),(1,0),(2,0),(3,0),(4,0),(5,0),(6,3)]<|go 3 ?_;refine Kx J J (Hy (Zm 64 m J J J J (Ze pZ) Zu Qz J (Iq j.ld a)))<|go 10 ⟨Iq j.ld a,O,?_⟩;exact Yr (m+1,_,_,(m:Int),_) ⟨O1,Zbc j a l f⟩ O1 K3 K2
        .have f:=w;refine go 7 ⟨O,?_⟩;exact Yr (m+1,_,_,nx,ls) ⟨O1,Zbb j a l f⟩ O1 K3 K2
      .have a6:=Zjh b.tp.nx.hu F ⟨R,V⟩ hm;have d0:=Zhw I b o a;have d4:=hC.rg r m o a;refine Da (λ_=>False) [(0,0),(1,0),(2,0),(3,0),(4,2),(5,2),(6,2),(7,2),(8,2),(9,2),(10,2),(11,2),(12,2),(13,2),(14,2),(15,2),(16,2),(17,2),(18,2),(19,2),(20,0)]<|go 2 ?_;refine Kx J J (Hy (dF (Zj5 J J J) (vB (aO W))))<|go 24 ?_;have j:=Zcn b7 H (λh=>absurd h W);refine go 3 ?_;refine dt (Zm 64 m J J J J (Ze pZ) Zu Qz J (Iq j.ld a))<|go 5 ⟨Iq j.ld a,?_⟩;refine Zy J (λx=>?_) (λx=>?_)
       .have f:=x;refine Da (λ_=>False) [(0,0),(1,0),(2,0),(3,0),(4,0),(5,0),(6,3)]<|go 3 ?_;refine Kx J J (Hy (Zm 64 m J J J J (Ze pZ) Zu Qz J (Iq j.ld a)))<|go 10 ⟨Iq j.ld a,O,?_⟩;exact Yr (m+1,_,_,(m:Int),_) ⟨O1,Zbc j a l f⟩ O1 K3 K2
       .have f:=x;refine go 7 ⟨O,?_⟩;exact Yr (m+1,_,_,nx,ls) ⟨O1,Zbb j a l f⟩ O1 K3 K2
    .obtain rfl:m=cs.length:=O;obtain⟨qn,rfl,a7,f2,f3,e6,b0⟩:=Zlm I (hu_F b.tp.nx.hu F ⟨R,V⟩ hm) b.tp H F;have e7:ls<1152921504606846976:=b0;clear b0;refine go 9 ?_;refine dt (Xa ( .int .i64 ((cs.length+1:Nat):Int)) (Zau J J J) J)<|go 4 ?_;refine lp (G:=Nat×List Int×List Int×List Int) [0,1,5,6,7,8,11,12,13,15,16,33,34,124] [0,65,66,63,1,71] (λq=>[(125,.int .i64 (q.1:Int))]) (λq=>[(61,Yu 1 3 Zo vu q.2.1),(62,Yu 1 3 Zo vv q.2.2.1),(64,Yu 1 3 Zo vd q.2.2.2)]) (λq=>(q.1<=cs.length+1)/\(Up cs.length (p.set cs.length (i:Int)) (dl ++ [D]) u2 w2 b8 q.2.1 q.2.2.1 q.2.2.2 S2 ls q.1)) (λq=>cs.length+1-q.1) (0,_,_,_) ⟨O1,tv_up b H⟩ ⟨J,aB⟩ ⟨J,J,J,aB⟩ ?_;rintro⟨m,u3,w3,b9⟩ ⟨d5,s⟩;dsimp only at d5 s;dsimp only;refine go 6<|Zy J (λc2=>?_) (λc2=>?_)
     .have B:m<=cs.length:=O;refine go 15 ?_;refine dt (Zm 66 m J J J J (Ze pBo) Ao sizeOf4 J (Zme b.dn.l B))<|dt (Xk 66 false J J J (Ze pBo) pBo (Zme b.dn.l B))<|go 3 ?_;refine Ng J (λa1=>?_) (λa1=>?_)
      .have l:=(Zjz b.dn b.cl).t O a1;obtain⟨r3,c8,t,c7⟩:=b.row I l;have a6:=Zjh b.tp.nx.hu F ⟨R,V⟩ hm;have f4:0<=u3.getD r3 0/\u3.getD r3 0<=S2:=up_uB I b s l c7 t;have f5:-S2<=w3.getD m 0/\w3.getD m 0<=0:=up_vB b s O a6.1;refine go 5 ?_;refine dt (Zm 63 m J J J J (Ze pZ) Zu Qz J (Mi b.lr B))<|dt (Xa ( .int .i64 (r3:Int)) (Xk 63 0 J J J (Ze pZ) pZ (Mi b.lr B)) (aU (Value.int .i64) c8))<|dt (Zm 61 r3 J J J J (Ze pZ) Zu Qz J (Iq s.lu t))<|go 3 ⟨Iq s.lu t,O,?_⟩;refine dt (Zm 61 r3 J J J J (Ze pZ) Zu Qz J (Iq s.lu t))<|tt (Nl 61 (enc:=Zo) J J J J J J pZ J y.h O3 (Iq s.lu t)) λ_ _=>go 5 ?_;refine dt (Zm 62 m J J J J (Ze pZ) Zu Qz J (Mi s.lv B))<|go 3 ⟨Mi s.lv B,O,?_⟩;refine dt (Zm 62 m J J J J (Ze pZ) Zu Qz J (Mi s.lv B))<|tt (Nl 62 (enc:=Zo) J J J J J J pZ J y.h O3 (Mi s.lv B)) (λ_ _=>?_);refine go 8 ⟨O,?_⟩;exact Yr (m+1,_,_,_) ⟨O1,up_dn b s l c7 t⟩ O1 K1 K3
      .have l:=(Zjz b.dn b.cl).f O a1;have a6:=Zjh b.tp.nx.hu F ⟨R,V⟩ hm;have a:m<cs.length:=iH O (λe=>l (e▸tv_n b));have e8:0<=b9.getD m 0/\b9.getD m 0<=1152921504606846976:=up_dB H s a l;refine go 4 ?_;refine dt (Zm 64 m J J J J (Ze pZ) Zu Qz J (Iq s.ld a))<|go 5 ⟨Iq s.ld a,?_⟩;refine Zy J (λa2=>?_) (λa2=>?_)
       .have b1:=a2;refine go 3 ?_;refine dt (Zm 64 m J J J J (Ze pZ) Zu Qz J (Iq s.ld a))<|go 3 ⟨Iq s.ld a,O,?_⟩;refine dt (Zm 64 m J J J J (Ze pZ) Zu Qz J (Iq s.ld a))<|tt (Nl 64 (enc:=Zo) J J J J J J pZ J y.h O3 (Iq s.ld a)) (λ_ _=>?_);refine go 8 ⟨O,?_⟩;exact Yr (m+1,_,_,_) ⟨O1,Zk9 s a l b1⟩ O1 K1 K3
       .have b1:=a2;refine go 8 ⟨O,?_⟩;exact Yr (m+1,_,_,_) ⟨O1,up_far s a l b1⟩ O1 K1 K3
     .obtain rfl:m=cs.length+1:=O;refine go 12 ?_;have hN:=tv_end I (hu_F b.tp.nx.hu F ⟨R,V⟩ hm) b H rfl s;refine go 3 ?_;refine dt (Zm 63 qn J J J J (Ze pZ) Zu Qz J (Mi b.lr (bP a7)))<|go 4 ⟨Mi b.lr (bP a7),?_⟩;refine Zy J (λa8=>?_) (λa8=>?_)
      .have b6:gI (p.set cs.length (i:Int)) qn<0:=by rw [Ov (Mi b.lr (bP a7))];exact a8
       refine go 6 ?_;refine lp (G:=List Int×Nat×Nat) [0,1,5,6,7,8,12,33,34] [0,61,62,64,65,66,1,71] (λq=>[(10,.int .i64 (q.2.1:Int))]) (λq=>[(63,Yu 1 3 Zo d1 q.1)]) (λq=>Fl (It cs) cs.length i n u3 w3 (p.set cs.length (i:Int)) q.1 ((dl ++ [D]) ++ [qn]) q.2.2 q.2.1) (λq=>q.2.2) (_,_,_) ((tv_fl hN.1 b6)) ⟨J,aB⟩ ⟨J,aB⟩ ?_;rintro⟨e3,c,jj⟩ hF;dsimp only at hF;dsimp only;refine go 8<|Zy J (λc3=>?_) (λc3=>?_)
       .obtain⟨b5,j5,c5,a9,N,e9,d3⟩:=Zjn hN.1 rfl hF O;refine go 10 ?_;refine dt (Zm 65 c J J J J (Ze pZ) Zu Qz J (Iq hN.1.lb N))<|dt (Xa ( .int .i64 (b5:Int)) (Xk 65 0 J J J (Ze pZ) pZ (Iq hN.1.lb N)) (aU (Value.int .i64) c5))<|dt (Zm 63 b5 J J J J (Ze pZ) Zu Qz J (Mi hF.lr a9))<|go 1 ⟨Mi hF.lr a9,?_⟩;refine dt (Zm 63 c J J J J (Ze pZ) Zu Qz J (Mi hF.lr (bP N)))<|tt (Nl 63 (enc:=Zo) J J J J J J pZ J y.h O3 (Mi hF.lr (bP N))) λ_ _=>go 5 ?_;refine dt (Zm 65 c J J J J (Ze pZ) Zu Qz J (Iq hN.1.lb N))<|dt (Xa ( .int .i64 (b5:Int)) (Xk 65 0 J J J (Ze pZ) pZ (Iq hN.1.lb N)) (aU (Value.int .i64) c5))<|go 3 ?_;exact Yr (_,b5,j5) d3 O1 K1 K1
       .obtain rfl:c=cs.length:=O;refine go 4 ?_;refine x_ngn<|go 6 ⟨O,?_⟩;exact Yr (i+1,u3,w3,e3,S2+ls) ⟨O1,pw_s hN.1 hN.2.2 hF⟩ O1 K1 K3
      .have b6:0<=gI (p.set cs.length (i:Int)) qn:=by rw [Ov (Mi b.lr (bP a7))];omega
       refine go 2 ?_;exact Yr (_,_,_,_,_,dl ++ [D],qn,S2+ls) ((Zlc b hN.1 hN.2.2 b6)) (by have:=tp_len b.tp;simp only [aJ,bF,cZ];omega) K1 K5
  .obtain rfl:i=cs.length:=O;refine go 8 ?_;refine tt (Ga 67 cs.length 8 (enc:=Zo) 0 J J J J J Zu ti3 J pZ.cells pZ.pos J J J y.h) λe4 _=>go 5 ?_;refine Yg (Nm 63 J J pZ) ?_;have e5:=M.ph.mw.lr;refine go 3 ?_;refine dt (d_pre (ii:=63) (i:=cs.length) J J J J Zn Zu Qz J (by rw [M.ph.mw.lr];omega))<|Qf (s_pre 63 2 (cs.length) J J (by rw [M.ph.mw.lr];omega))<|go 5 ?_;refine lp (G:=Nat×List Int) [4,5,6,7,192,193] [0,61,62,63,1,71,2] (λq=>[(194,.int .i64 (q.1:Int))]) (λq=>[(67,Yu 1 3 Zo e4 q.2)]) (λq=>(q.1<=cs.length)/\(Cl cs.length p q.2 q.1)) (λq=>cs.length-q.1) (0,_) ⟨O1,cl_0⟩ ⟨J,aB⟩ ⟨J,aB⟩ ?_;rintro⟨m,cl⟩ ⟨b3,a3⟩;dsimp only at b3 a3;dsimp only;refine go 6<|Zy J (λc4=>?_) (λc4=>?_)
   .have b2:m<cs.length:=by simp at *;omega
    obtain⟨r6,c9,a5,d6⟩:=Zl1 M.ph b2;refine go 7 ?_;refine dt (Zm 2 m J J J J Zn Zu Qz J (by rw [aI,M.ph.mw.lr];omega))<|dt (Xa ( .int .i64 (r6:Int)) (Xk 2 0 J J J Zn pZ (by rw [aI,M.ph.mw.lr];omega)) (by rw [aA,aX,aK b2,<-aA];exact aU (Value.int .i64) c9)) ?_;refine go 8 ?_;refine dt (Zm 67 r6 J J J J (Ze pZ) Zu Qz J (Iq a3.l a5))<|tt (Nl 67 (enc:=Zo) J J J J J J pZ J y.h O3 (Iq a3.l a5)) (λ_ _=>?_);refine go 7 ⟨O,?_⟩;exact Yr (m+1,_) ⟨O1,cl_s M.ph a3 b2 d6 a5⟩ O1 K1 K1
   .obtain rfl:m=cs.length:=by simp at *;omega
    refine go 6 ?_;refine Zep (Pd 67 J (Ze pZ)) (λt0 d8=>?_);subst d8;refine Zep (Pd 61 J (Ze pZ)) (λt1 d9=>?_);subst d9;refine Zep (Pd 62 J (Ze pZ)) (λt2 e0=>?_);subst e0;refine Yg (Nm 67 J J pZ)<|Da (λ_=>False) [(0,0),(1,0),(2,0),(3,0),(4,0),(5,0),(6,0),(7,0),(8,3)]<|go 5 ?_;refine Kx J J (Hy (d_pre3 (ii:=62) (i:=cs.length) J J J J J (Ze pZ) Zu Qz J J (by have:=M.ph.hu.lv;omega)))<|go 6 ?_;exact xe3 d7 (t0,t1,(t2.1,cs.length,cs.length),cl) results16 J (bx_of M.ph a3) (gsm 67 Zh)
def Fo(f:Nat->Int):Nat->Int
 | 0=>0
 | n+1=>max (Fo f n) (f n)
abbrev qcs (cs:List LT) (Q:Nat->Nat) (r:Nat):Int:=cC (It cs) r (Q r)
structure Us (us:List Bool) (n:Nat) (Q:Nat->Nat) (i:Nat):Prop where
 l:us.length=n
 m:∀k,k<n->us.getD k false=decide (∃j,j<i/\Q j=k)
def us_0{n:Nat}{Q:Nat->Nat}:Us (List.replicate n false) n Q 0:=⟨bJ,λk a=>by rw [aA,cT,aK a];exact(aO λ⟨j,h,_⟩=>absurd h (aZ j)).symm⟩
section
variable {us:List Bool} {n i:Nat} {Q:Nat->Nat} {C:List (List Int)} {most:Int} {cs:List LT}
theorem us_s(h:Us us n Q i)(d:Q i<n):Us (us.set (Q i) true) n Q (i+1):=⟨by rw [aS,h.l],λk f=>by
 rw [aA,dY];by_cases e:Q i=k
 .rw [aK e,aK (by rw [h.l];exact d)];exact(aQ ⟨i,eF i,e⟩).symm
 .rw [aG e];have:=h.m k f;rw [aA]at this;rw [this];exact decide_eq_decide.2 ⟨λ⟨j,c,a⟩=>⟨j,O,a⟩,λ⟨j,c,a⟩=>⟨j,iH O (λb=>e (b▸a)),a⟩⟩⟩
theorem us_f(h:Us us n Q i)(a:Pa C n most Q)(hi:i<n):us.getD (Q i) false=false:=by rw [h.m _ (a.lt i hi)];exact aO λ⟨j,c,b⟩=>by have:=a.i j i O hi b;omega
theorem Zd3{f:Nat->Int}{c:Int} : ∀n:Nat,(∀k,k<n->0<=f k/\f k<=c)->0<=Zc f n/\Zc f n<=n*c
 | 0,_=>by simp [Zc]
 | n+1,h=>by
  have a:=Zd3 n λk d=>h k O;have b:=h n O;rw [Zf];have:((n+1:Nat):Int)*c=n*c+c:=by rw [hO,gU];simp
  omega
def Bb(cs:List LT)(Q:Nat->Nat)(r:Nat):qcs cs Q r=(cs.getD r Yt).2.getD (Q r) 0:=Lc cs r (Q r)
theorem Zih(b:Cst cs)(c:Pa (It cs) cs.length most Q){k:Nat}(a:k<cs.length):0<=qcs cs Q k/\qcs cs Q k<=17592186044416:=by rw [Bb];exact b.rg k (Q k) a (c.lt k a)
theorem of_rg(a:Cst cs)(c:Pa (It cs) cs.length most Q)(hi:i<cs.length):(0<=Zc (qcs cs Q) i/\Zc (qcs cs Q) i<=1125899906842624)/\0<=(cs.getD i Yt).2.getD (Q i) 0/\(cs.getD i Yt).2.getD (Q i) 0<=17592186044416:=by have d:=Zd3 (f:=qcs cs Q) i λk g=>Zih a c O;have b:=Zih a c hi;rw [Bb]at b;have:=a.n2;have e:(i:Int)*17592186044416<=64*17592186044416:=cH O O3;exact⟨O,b⟩
theorem mxT_s(cs:List LT)(Q:Nat->Nat)(i:Nat):Fo (qcs cs Q) (i+1)=max (Fo (qcs cs Q) i) ((cs.getD i Yt).2.getD (Q i) 0):=by rw [<-Bb];rfl
theorem sumT_s(cs:List LT)(Q:Nat->Nat)(i:Nat):Zc (qcs cs Q) (i+1)=Zc (qcs cs Q) i+(cs.getD i Yt).2.getD (Q i) 0:=by rw [<-Bb,Zf]
theorem cl_at{cl:List Int}{n:Nat}{Q:Nat->Nat}(h:cl=(List.range n).map λr=>(Q r:Int)){i:Nat}(hi:i<n):cl.getD i 0=(Q i:Int):=by subst h;rw [aA,dI,List.getElem?_range hi];rfl
theorem cl_len{cl:List Int}{n:Nat}{Q:Nat->Nat}(h:cl=(List.range n).map λr=>(Q r:Int)):cl.length=n:=by subst h;simp
end
end Go.Sky
namespace Go.Sky
open Go.Proofs.Try
open Go.Proofs
set_option synthInstance.maxHeartbeats 0
set_option synthInstance.maxSize 100000
set_option maxRecDepth 20000
set_option linter.unusedSimpArgs false
variable{v:Value}{p:Yw}{z:LT}{P:Nat->Nat}
theorem Zng(xs:List Int)(g:xs.length*8<=140737488355328):Zn6 prog 34 #[v] [Ou 1 Zo v xs] (G:=Value) (λr=>True) (λr=>r) (λr=>Yu 1 3 Zo r xs):=by
 refine Zgh func34 J ntmps34 J K1 ?_;intro j h d e;have d:=Hw.mk d;simp only [Pu,Qi];refine Yy (f_nil (i:=1) J Zn) λc=>go 9 ?_;refine dt (Zm8 J J J (i:=1) J Zn Zu)<|go 2 ?_;refine Ng J (λb=>?_) (λb=>?_)
 .refine go 7 ?_;obtain rfl:xs=[]:=c (by simpa using b);exact Xr (Ka 9 1 3 Zo)<|Zdx (.inl J) (.slice none 0 0) (λa w hs=>Zct hs results34 J) J aB J 9 J J J
 .refine go 4 ?_;refine tt (t_bs0 (i:=2) (enc:=Zo) J J J Zu pZ J d.h) λv _=>go 1 ?_;refine tt (Ms 2 1 8 J J J J J J O3 J Zn Zu ti3 J pZ J J J (by simp;omega) O3 J d.h) λf _=>go 4 ?_;exact Zdx (.inl J) _ (λa w hs=>Zct hs results34 J) J aB J 2 J (by rfl) J
theorem bn_of(v:Value){y:Value}(cs:List LT)(cl:List Int)(Q:Nat->Nat)(h:Int)(j:Cst cs)(k:Pa (It cs) cs.length h Q)(f:cl=(List.range cs.length).map λr=>(Q r:Int)):Cal prog 17 #[v,y] [Nd 1 (Qe (α:=List Int)) qL v cs,Ou 1 Zo y cl] true (G:=SL) (λg=>True) (λg=> .tuple #[.agg #[Qu g,.int .i64 (Fo (qcs cs Q) cs.length),.int .i64 (asS (It cs) Q cs.length)],.bool true]) (λg=>[Ou 1 Zo (Qu g) cl]):=by
 refine Yf func17 ntmps17 λV R u o=>?_;have D:=j.n1;have F:=j.n2;have B:=cl_len f;refine go 2<|Lg (Oy 3) λN _=>go 7 ?_;refine tt (Ga 4 cs.length 1 (enc:=Kk) false J J J J J Ao ti4 J pBo.cells pBo.pos J J J u.h) λv _=>go 6 ?_;refine tt (Gy 5 (Zng cl O) J J J K1 call34 (Xu 2 J J J Xj) J u.h) (λM _=>?_);refine l_ex (Pd 5 J (Ze pZ)) (λx s=>?_);subst s;refine dt (Ik [(0,_)] J K2 (λa w hs=>b26_0 ((Bj 5 J (Ze pZ)) a w hs)))<|Lg (Oy 6) λe _=>go 10 ?_;refine kf (aO O)<|go 14 ?_;refine lp (G:=Nat×List Bool) [0,4,6,7,22,23] [0,1,2,3,5] (λq=>[(24,.int .i64 (q.1:Int))]) (λq=>[(6,box e 26 #[Qu x,.int .i64 (Fo (qcs cs Q) q.1),.int .i64 (Zc (qcs cs Q) q.1)]),(4,Yu 1 4 Kk v q.2)]) (λq=>(q.1<=cs.length)/\(Us q.2 cs.length Q q.1)) (λq=>cs.length-q.1) (0,_) ⟨O1,us_0⟩ ⟨J,aB⟩ ⟨J,J,aB⟩ ?_;rintro⟨i,S⟩ ⟨hi,l⟩;dsimp only at hi l;dsimp only;refine go 6<|Zy J (λm=>?_) (λm=>?_)
 .have b:i<cs.length:=O;have H:=of_rg j k b;have n:=k.lt i b;have t:=us_f l k b;have I:=l.l;refine go 7 ?_;refine dt (Zm 2 i J J J J Zn Zu Qz J O)<|dt (Xa ( .int .i64 (Q i:Int)) (Xk 2 0 J J J Zn pZ O) (aU (Value.int .i64) (cl_at f b)))<|go 8 ?_;refine kf (aO O)<|go 4<|kfg (aO O)<|go 4 ?_;refine gdt (Zm 4 (Q i) J J J J (Ze pBo) Ao sizeOf4 J O) J J<|gdt (dF (Xk 4 false J J J (Ze pBo) pBo O) (vB t)) J J<|go 10 ?_;refine dt (Zm 4 (Q i) J J J J (Ze pBo) Ao sizeOf4 J O)<|tt (Nl 4 (enc:=Kk) (z:=true) J J J J J J pBo J u.h) λ_ _=>go 3 ?_;refine Yg (Nv 1 73 J J (Ym i (d:=Yt) b)) ?_;have c:Q i<(cs.getD i Yt).2.length:=by rw [j.ln i b];exact n
  refine Da (λ_=>False) [(0,0),(1,0),(2,0),(3,0),(4,0),(5,0),(6,0),(7,0),(8,0),(9,0),(10,0),(11,3)]<|go 4 ?_;refine Kx J J (Hy (Zm 1 i J J J J Yl Mp Ge J b))<|Kx J J (Hy (Xk 1 Yt J J J Yl pS b))<|go 1 ?_;refine Kx J J (Hy (Zm 73 (Q i) J J J J Zn Zu Qz J c))<|go 1 ⟨c,?_⟩;refine Kx J J (Hy (d_max J J J))<|go 4 ?_;refine Da (λ_=>False) [(0,0),(1,0),(2,0),(3,0),(4,0),(5,0),(6,0),(7,0),(8,0),(9,0),(10,0),(11,3)]<|go 4 ?_;refine Kx J J (Hy (Zm 1 i J J J J Yl Mp Ge J b))<|Kx J J (Hy (Xk 1 Yt J J J Yl pS b))<|go 1 ?_;refine Kx J J (Hy (Zm 73 (Q i) J J J J Zn Zu Qz J c))<|go 11 ⟨c,O,O,?_⟩;exact Yr (i+1,_) ⟨O1,us_s l (k.lt i b)⟩ O1 K1 ⟨(by rw [mxT_s,sumT_s];rfl),J,aB⟩
 .obtain rfl:i=cs.length:=O;refine go 13<|Xr (Nm 5 J J pZ) ?_;exact xe2 o x results17 J aB (gsm 5 Zh)
theorem Zns(cs:List LT)(b:Cst cs):Cal prog 8 #[v] [Nd 1 (Qe (α:=List Int)) qL v cs] true (G:=SL×List Int×SL×SL×SL×SL×(Nat->Nat)×Int) (λg=>Ml cs g.2.2.2.2.2.2.2/\Bx (It cs) cs.length g.2.2.2.2.2.2.2 g.2.1 g.2.2.2.2.2.2.1) (λg=> .tuple #[.agg #[Qu g.1,.int .i64 (Fo (qcs cs g.2.2.2.2.2.2.1) cs.length),.int .i64 (asS (It cs) g.2.2.2.2.2.2.1 cs.length)],.agg #[Qu g.2.2.1,Qu g.2.2.2.1,Qu g.2.2.2.2.1,Qu g.2.2.2.2.2.1],.int .i64 0]) (λg=>[Ou 1 Zo (Qu g.1) g.2.1]):=by refine Yf func8 ntmps8 λD B y m=>?_;have t:=b.n1;have u:=b.n2;refine go 2<|Lg (Oy 2) λx _=>Lg (Oy 3) λo _=>go 7 ?_;refine cl 3 [1] (Zkp v cs b) λ_ _=>go 9 ?_;refine cl 3 [1] (Zb7 v cs b) λi f=>Lg (Oy 4) λe _=>go 7 ?_;refine cl 5 [1] (Zdu v cs i b f) λh k=>go 10 ?_;obtain⟨n,d⟩:=k;refine go 3 ?_;refine cl 6 [1,5] (bn_of v cs h.2.2.2 n i b d.p d.c) λj _=>go 3<|Lg (Oy 7) λq _=>go 5<|Yg (Zbd 4 J J)<|go 2 ?_;refine dt (Zf7 [] [_] J aB K1)<|cl 8 [1,4] (Zds v cs e i b) λs l=>cl 8 [8] (Zi0 s.1 s.2 cs.length (gr_gv b l) b.n1) λc _=>go 3 ?_;refine Lg (Oy 9) λr _=>go 5<|Fx [7,9] [8] ?_;refine Ic 0 [(0,0),(1,0),(2,0),(3,0),(4,0),(5,0),(6,1),(7,1),(8,3)]<|go 4 ?_;refine Kx J J (stf (Ik [(0,_),(1,_),(2,_)] J K6 (λa w hs=>Znw ((Qq J) a w hs) ((Qq J) a w hs))) K2)<|go 5 ?_;exact Ie<|go 2<|xe3 m (j,h.2.2.2,c.1,c.2,h.2.1,h.2.2.1,n,i) results8 J ⟨f,d⟩ (gsm 6 Zh)
abbrev dP (p q:Yw):Int:=d2V p.1 p.2.1 p.2.2 q.1 q.2.1 q.2.2
theorem sq_b (x:Int)(h:-2097152<=x/\x<=2097152):0<=x*x/\x*x<=4398046511104:=by refine⟨by rw [<-kE];exact iF _,?_⟩;have:=cI (show 0<=2097152-x by omega) (show 0<=2097152+x by omega);simp only [Int.sub_mul,iN]at this;omega
theorem dP_rg{q:Yw}(a:ptT p=true)(b:ptT q=true):0<=dP p q/\dP p q<=17592186044416:=by obtain⟨i,j,k⟩:=pt_b a;obtain⟨f,g,h⟩:=pt_b b;have c:=sq_b (p.1-q.1) O;have d:=sq_b (p.2.1-q.2.1) O;have e:=sq_b (p.2.2-q.2.2) O;unfold dP d2V;omega
abbrev Ca (b:List Yw) (p:Yw) (j:Nat):List Int:=(b.take j).map (dP p)
structure AsI (a b:List Yw) (ys:List LT) (i:Nat):Prop where
 l:ys.length=i
 r:∀k,k<i->(ys.getD k Yt).2=b.map (dP (a.getD k Oa))
abbrev asZ (ys:List LT) (n:Nat):List LT:=ys ++ List.replicate (n-ys.length) Yt
section
variable {a b:List Yw} {ys:List LT} {i n:Nat}
def as_0(a b:List Yw):AsI a b [] 0:=⟨rfl,λk h=>absurd h (aZ k)⟩
theorem as_s(h:AsI a b ys i)(e:SL):AsI a b (ys ++ [(e,Ca b (a.getD i Oa) b.length)]) (i+1):=⟨by rw [aJ,h.l];rfl,λk d=>by
 rcases bE.1 d with c|rfl
 .rw [aA,aV (by rw [h.l];exact c),<-aA];exact h.r k c
 .rw [aA,aR (by rw [h.l];exact aH _),h.l,eP];show Ca _ _ _=_;unfold Ca;rw [bZ (aH _)]⟩
theorem Aj(h:AsI a b ys i)(hi:i<=n):(asZ ys n).length=n:=by unfold asZ;rw [aJ,bJ,h.l];omega
theorem Znz(h:AsI a b ys i)(hi:i<n):(asZ ys n).set i ((none,0,0),[])=asZ ys n:=by
 unfold asZ;refine eK λk=>?_;rw [dY];split
 .rename_i e;subst e;rw [aK (by rw [aJ,bJ,h.l];omega),aR (by rw [h.l];exact aH _),cT,aK (by rw [h.l];omega)]
 .rfl
theorem Zny(h:AsI a b ys i)(hi:i<n):(asZ ys n).set i z=asZ (ys ++ [z]) n:=by
 unfold asZ;have e:n-ys.length=(n-(ys ++ [z]).length)+1:=by rw [aJ,h.l];simp;omega
 rw [e,List.replicate_succ,<-h.l,List.set_append_right _ _ (aH _),eP,cM];rfl
theorem as_at(h:AsI a b ys i)(hi:i<n):((asZ ys n).set i z).getD i Yt=z:=by rw [aA,dY,aK rfl,aK (by rw [Aj h O];exact hi)];rfl
theorem Zk0{j:Nat}(c:j<b.length):Ca b p (j+1)=Ca b p j ++ [dP p (b.getD j Oa)]:=by unfold Ca;rw [Oc Oa c,fI];rfl
theorem as_end(h:AsI a b ys n):asZ ys n=ys:=by unfold asZ;rw [h.l,eP];simp
theorem Zg5{f:Yw->Int}{b:List Yw}{j:Nat}(c:j<b.length):(b.map f).getD j 0=f (b.getD j Oa):=by rw [aA,dI,aF c,aA,aF c];rfl
theorem Zgo(h:AsI a b ys n){k j:Nat}(d:k<n)(c:j<b.length):(ys.getD k Yt).2.getD j 0=dP (a.getD k Oa) (b.getD j Oa):=by rw [h.r k d,Zg5 c]
theorem as_cst(h:AsI a b ys a.length)(l:Lj a b=true)(j:a.length<=64):Cst ys:=by
 obtain⟨c,d,e,f⟩:=Zcw l;refine⟨by rw [h.l];exact c,by rw [h.l];exact j,λi hi=>?_,λi k hi g=>?_⟩
 .rw [h.l]at hi ⊢;rw [h.r i hi,cY];exact d.symm
 .rw [h.l]at hi g;rw [Zgo h hi O];exact dP_rg (e i hi) (f k O)
end
abbrev Mb (a b:List Yw) (Q:Nat->Nat) (r:Nat):Int:=dP (a.getD r Oa) (b.getD (Q r) Oa)
structure Ij (n:Nat) (Q:Nat->Nat):Prop where
 lt:∀i,i<n->Q i<n
 i:∀i j,i<n->j<n->Q i=Q j->i=j
structure OpA (a b:List Yw) (Q:Nat->Nat):Prop where
 p:Ij a.length Q
 m:∀P,Ij a.length P->Fo (Mb a b Q) a.length<=Fo (Mb a b P) a.length
 s:∀P,Ij a.length P->Fo (Mb a b P) a.length=Fo (Mb a b Q) a.length->Zc (Mb a b Q) a.length<=Zc (Mb a b P) a.length
theorem Eu{f g:Nat->Int} : ∀n:Nat,(∀k,k<n->f k=g k)->Fo f n=Fo g n
 | 0,_=>rfl
 | n+1,h=>by show max _ _=max _ _;rw [Eu n λk c=>h k O,h n O]
theorem Zix{f:Nat->Int} : ∀{n k:Nat},k<n->f k<=Fo f n
 | n+1,k,h=>by
  show _<=max _ _;rcases bE.1 h with c|rfl
  .have:=Zix (f:=f) c;omega
  .omega
theorem Ziw{f:Nat->Int}{c:Int}(d:0<=c):∀{n:Nat},(∀k,k<n->f k<=c)->Fo f n<=c
 | 0,_=>d
 | n+1,h=>by show max _ _<=c;have:=Ziw d (n:=n) λk e=>h k O;have:=h n O;omega
section
variable {a b:List Yw} {ys:List LT} {Q:Nat->Nat} {most:Int} {cl:List Int}
theorem Zn0(h:AsI a b ys a.length)(e:Lj a b=true)(d:∀i,i<a.length->P i<a.length):∀r,r<a.length->qcs ys P r=Mb a b P r:=λr c=>by obtain⟨f,g,j,k⟩:=Zcw e;rw [Bb];exact Zgo h c (by have:=d r c;omega)
theorem Zkt(h:AsI a b ys a.length)(d:Lj a b=true)(c:∀i,i<a.length->P i<a.length):Fo (qcs ys P) ys.length=Fo (Mb a b P) a.length/\asS (It ys) P ys.length=Zc (Mb a b P) a.length:=by rw [h.l];exact⟨Eu _ (Zn0 h d c),Zj (Zn0 h d c)⟩
theorem as_op(h:AsI a b ys a.length)(j:Lj a b=true)(o:Ml ys most)(g:Bx (It ys) ys.length most cl Q):OpA a b Q:=by
 have d:=h.l;have m:Ij a.length Q:=⟨by rw [<-d];exact g.p.lt,by rw [<-d];exact g.p.i⟩;have l:∀P,Ij a.length P->Pa (It ys) ys.length (Fo (Mb a b P) a.length) P:=λP c=>⟨by rw [d];exact c.lt,by rw [d];exact c.i,λi hi=>by rw [d]at hi;show qcs ys P i<=_;rw [Zn0 h j c.lt i hi];exact Zix hi⟩
 have r:Fo (Mb a b Q) a.length<=most:=Ziw o.r.1 λk q=>by rw [<-Zn0 h j m.lt k q];exact g.p.c k (by rw [d];exact q)
 have f:∀P,Ij a.length P->most<=Fo (Mb a b P) a.length:=λP c=>o.m _ ⟨P,l P c⟩;refine⟨m,λP c=>jH r (f P c),λP c e=>?_⟩;have s:Pa (It ys) ys.length most P:=⟨(l P c).lt,(l P c).i,λi hi=>jH ((l P c).c i hi) (by rw [e];exact r)⟩;have:=g.m P s;rwa [(Zkt h j m.lt).2,(Zkt h j c.lt).2]at this
end
end Go.Sky
namespace Go.Sky
open Go.Proofs.Try
open Go.Proofs
set_option synthInstance.maxHeartbeats 0
set_option synthInstance.maxSize 100000
set_option maxRecDepth 20000
set_option linter.unusedSimpArgs false
variable{v:Value}{w:List Int}{Q:Nat->Nat}{z:LT}
theorem Ap{w:Value}(a b:List Yw)(e:Lj a b=false):Ow prog 5 #[v,w] [Ou 3 Qt v a,Ou 3 Qt w b] (.tuple #[.agg #[.slice none 0 0,.int .i64 0,.int .i64 0],.agg #[.slice none 0 0,.slice none 0 0,.slice none 0 0,.slice none 0 0],.int .i64 2]):=by refine Yf func5 ntmps5 λi h g c=>go 2 ?_;refine Lg (Oy 3) λf _=>Lg (Oy 4) λd _=>go 9 ?_;refine cl 4 [1,2] (Zch a b) λ_ _=>?_;refine dt (dT (Gt J J) (aU (λb=>Value.bool (!b)) e))<|go 6 ?_;refine dt (Ik [] J aB (λa w hs=>b26_))<|dt (Ik [] J aB (λa w hs=>b30_))<|go 8 ?_;exact xe3 c () results5 J aB Zh
theorem Zab{w:Value}(a b:List Yw)(k:Lj a b=true)(S:a.length<=64):Cal prog 5 #[v,w] [Ou 3 Qt v a,Ou 3 Qt w b] true (G:=SL×List Int×SL×SL×SL×SL×(Nat->Nat)) (λg=>OpA a b g.2.2.2.2.2.2/\g.2.1=(List.range a.length).map λr=>(g.2.2.2.2.2.2 r:Int)) (λg=> .tuple #[.agg #[Qu g.1,.int .i64 (Fo (Mb a b g.2.2.2.2.2.2) a.length),.int .i64 (Zc (Mb a b g.2.2.2.2.2.2) a.length)],.agg #[Qu g.2.2.1,Qu g.2.2.2.1,Qu g.2.2.2.2.1,Qu g.2.2.2.2.2.1],.int .i64 0]) (λg=>[Ou 1 Zo (Qu g.1) g.2.1]):=by
 refine Yf func5 ntmps5 λw0 sc p x=>?_;obtain⟨V,W,t,u⟩:=Zcw k;refine Yy (Pr (i:=1) J Zn) (λP=>?_);refine Yy (Pr (i:=2) J Zn) λR=>go 2 ?_;refine Lg (Oy 3) λb9 _=>Lg (Oy 4) λD _=>go 9 ?_;refine cl 4 [1,2] (Zch a b) λ_ _=>?_;refine dt (dF (Gt J J) (aU (λb=>Value.bool (!b)) k))<|go 8 ?_;refine kf (aO O)<|go 11 ?_;refine tt (Ga 70 a.length 24 (enc:=(Qe (α:=List Int))) Yt J J J J J Mp ti24 J (pS (α:=List Int)).cells (pS (α:=List Int)).pos J J J p.h) λv _=>go 12 ?_;refine Yg (Mx qL 71)<|lp (G:=Nat×List LT) [1,4,5,7,30,31] [0,1,2,3,4] (λq=>[(32,.int .i64 (q.1:Int))]) (λq=>[(70,Yu 1 24 (Qe (α:=List Int)) v (asZ q.2 a.length)),(71,Gm qL q.2)]) (λq=>(q.1<=a.length)/\(AsI a b q.2 q.1)) (λq=>a.length-q.1) (0,[]) ⟨O1,as_0 a b⟩ K1 K2 ?_;rintro⟨i,B⟩ ⟨hi,d⟩;dsimp only at hi d;dsimp only;refine go 6<|Zy J (λl=>?_) (λl=>?_)
 .have c:i<a.length:=O;refine go 7 ?_;refine dt (Zm 1 i J J J J Zn Zdy sizeOf38 J c)<|dt (Xk 1 Oa J J J Zn pPt c)<|Lg (Oy 5) λF _=>go 12 ?_;refine Yg (Ka 72 1 3 Zo)<|lp (G:=Nat×SL) [1,4,5,7,8,9,30,31,32,37,38] [0,71,1,2,3,4,5] (λq=>[(39,.int .i64 (q.1:Int))]) (λq=>[(70,Yu 1 24 (Qe (α:=List Int)) v ((asZ B a.length).set i (q.2,(Ca b (a.getD i Oa) q.1)))),(72,Yu 1 3 Zo (Qu q.2) (Ca b (a.getD i Oa) q.1))]) (λq=>q.1<=b.length) (λq=>b.length-q.1) (0,(none,0,0)) O1 K1 ⟨aU (λz=>some (Yu 1 24 (Qe (α:=List Int)) v z)) (Znz d c).symm,J,aB⟩ ?_;rintro⟨j,s⟩ N;dsimp only at N;dsimp only;refine go 6<|Zy J (λm=>?_) (λm=>?_)
  .have f:j<b.length:=O;refine go 6 ?_;refine dt (Zm 2 j J J J J Zn Zdy sizeOf38 J f)<|dt (Xk 2 Oa J J J Zn pPt f)<|Lg (Oy 6) λH _=>go 7 ?_;refine cl 6 [] (ve_d2 (Ze4 (t i c)) (Ze4 (u j f))) λ_ _=>go 12 ?_;refine dt (Zm 70 i J J J J (Ze (pS (α:=List Int))) Mp Ge J (by rw [aS,Aj d O];exact c))<|dt (Xa (Qu s) (Xk 70 Yt J J J (Ze (pS (α:=List Int))) (pS (α:=List Int)) (by rw [aS,Aj d O];exact c)) (aU (Qe (α:=List Int)) (as_at d c)))<|go 1 ?_;refine tt (Od [(0,_)] 7 (enc:=Zo) [dP (a.getD i Oa) (b.getD j Oa)] J J K2 Zu ti3 J J J J J pZ.cells J J p.h) (λY _=>?_);refine tt (Ms 72 7 8 J J J J J J O3 J (Ze pZ) Zu ti3 J pZ J J J (by unfold Ca;simp only [cY,aI,bF,cZ];omega) O3 J p.h) (λZ _=>?_);refine l_ex (Pd 72 J (Ze pZ)) (λh o=>?_);subst o;refine dt (Zm 70 i J J J J (Ze (pS (α:=List Int))) Mp Ge J (by rw [aS,Aj d O];exact c))<|tt (Nl 70 (enc:=(Qe (α:=List Int))) (z:=(h,(Ca b (a.getD i Oa) j) ++ [dP (a.getD i Oa) (b.getD j Oa)])) J J J J J J (pS (α:=List Int)) J p.h O3 (by rw [aS,Aj d O];exact c)) (λ_ _=>?_);refine go 7 ⟨O,?_⟩;exact Yr (j+1,h) O1 O1 K1 ⟨(aU (λz=>some (Yu 1 24 (Qe (α:=List Int)) v z)) (by rw [List.set_set,Zk0 f])),aU (λz=>some (Yu 1 3 Zo (Qu h) z)) (Zk0 f).symm,aB⟩
  .obtain rfl:j=b.length:=O;refine go 10 ⟨O,?_⟩;exact Xr (Nm 72 J J pZ)<|Xr (Nn (q:=qL) (z:=(s,(Ca b (a.getD i Oa) b.length))) 71 72 71 J J J J J)<|Yr (i+1,B ++ [(s,(Ca b (a.getD i Oa) b.length))]) ⟨O1,as_s d s⟩ O1 K1 ⟨aU (λz=>some (Yu 1 24 (Qe (α:=List Int)) v z)) (Zny d c),J,aB⟩
 .obtain rfl:i=a.length:=O;refine go 6 ?_;rw [as_end d];refine Zep (Pd 70 J (Ze pS)) (λso y=>?_);subst y;refine Yg (Nm 70 J J pS)<|Yg (Iy 70 71 78 J J J J) ?_;have M:=as_cst d k S;refine go 2 ?_;refine cl 8 [78] (Zns B M) λgb e=>go 9 ?_;have n:=Zkt d k (as_op d k e.1 e.2).p.lt;exact xe3 x (gb.1,gb.2.1,gb.2.2.1,gb.2.2.2.1,gb.2.2.2.2.1,gb.2.2.2.2.2.1,gb.2.2.2.2.2.2.1) results5 (by rw [n.1,n.2]) ⟨as_op d k e.1 e.2,by have I:=e.2.c;rw [d.l]at I;exact I⟩ (gsm 8 Zh)
abbrev exmA:List Yw:=[(0,0,0),(100,0,0)]
abbrev Fw:List Yw:=[(300,0,0),(90,0,0)]
def mt_pr:Lj exmA Fw=true:=O3
theorem Za5(a b:List Yw)(Q:Nat->Nat)(h:a.length=2):Fo (Mb a b Q) a.length=max (max 0 (Mb a b Q 0)) (Mb a b Q 1)/\Zc (Mb a b Q) a.length=Mb a b Q 0+Mb a b Q 1:=by rw [h];exact⟨rfl,by rw [Zf,Zf];simp [Zc]⟩
theorem mat_q(h:OpA exmA Fw Q):Q 0=1/\Q 1=0/\Fo (Mb exmA Fw Q) exmA.length=40000/\Zc (Mb exmA Fw Q) exmA.length=48100:=by
 have m:Q 0<2:=h.p.lt 0 O3;have n:Q 1<2:=h.p.lt 1 O3;have o:Q 0≠Q 1:=λe=>absurd (h.p.i 0 1 O3 O3 e) O3;obtain⟨d,f⟩:Q 0=1/\Q 1=0:=by
  by_cases e:Q 0=0
  .exfalso;have l:Q 1=1:=O;have c:=h.m (λk=>1-k) ⟨λi hi=>by show 1-i<2;omega,λi j hi g e=>by have hi:i<2:=hi;have g:j<2:=g;have e:1-i=1-j:=e;omega⟩
   rw [(Za5 exmA Fw Q rfl).1,(Za5 exmA Fw _ rfl).1]at c;have a:Mb exmA Fw Q 0=90000:=by unfold Mb;rw [e];decide
   have b:Mb exmA Fw Q 1=100:=by unfold Mb;rw [l];decide
   rw [a,b]at c;exact absurd c O3
  .omega
 have a:Mb exmA Fw Q 0=8100:=by unfold Mb;rw [d];decide
 have b:Mb exmA Fw Q 1=40000:=by unfold Mb;rw [f];decide
 refine⟨d,f,?_,?_⟩
 .rw [(Za5 exmA Fw Q rfl).1,a,b];decide
 .rw [(Za5 exmA Fw Q rfl).2,a,b];decide
theorem mat_l{cl:List Int}(h:Q 0=1/\Q 1=0)(a:cl=(List.range exmA.length).map λr=>(Q r:Int)):cl=[1,0]:=by rw [a];show [(Q 0:Int),(Q 1:Int)]=_;rw [h.1,h.2];rfl
theorem Mr:Ow prog 4 #[] [] (.bool true):=by
 refine Yf func4 ntmps4 λp o j h=>go 7 ?_;refine dt (Ik [] J aB (λa w hs=>b38_))<|dt (Ik [(0,_)] J K2 (λa w hs=>Zks ((Qq J) a w hs)))<|tt (Od [(0,_),(1,_)] 1 (enc:=Qt) exmA J J K4 Zdy ti38 J J J J J pPt.cells J J j.h) (λv _=>?_);refine dt (Ik [(0,_)] J K2 (λa w hs=>Zks ((Qq J) a w hs)))<|dt (Ik [(0,_)] J K2 (λa w hs=>Zks ((Qq J) a w hs)))<|tt (Od [(0,_),(1,_)] 2 (enc:=Qt) Fw J J K4 Zdy ti38 J J J J J pPt.cells J J j.h) (λm _=>?_);refine Qf (Nm 1 J J pPt)<|Qf (Nm 2 J J pPt)<|cl 3 [1,2] (Zab exmA Fw mt_pr O3) λk c=>go 4<|Lg (Oy 4) λn _=>Lg (Oy 5) λi _=>go 6 ?_;obtain⟨d,e,f,g⟩:=mat_q c.1;have b:=mat_l ⟨d,e⟩ c.2;have l:k.2.1.length=2:=by rw [b];rfl
 refine go 2<|kt (aQ J)<|go 4<|ktg (aQ O)<|go 5 ⟨O,?_⟩;refine gdt (Xa ( .int .i64 1) (Xk 3 0 J J J Zn pZ O) (by rw [b];rfl)) J J<|ktg (aQ J)<|go 5 ⟨O,?_⟩;refine gdt (Xa ( .int .i64 0) (Xk 3 0 J J J Zn pZ O) (by rw [b];rfl)) J J<|ktg (aQ J)<|go 3 ?_;refine gdt (Xa ( .int .i64 40000) (d_lb 4 J J J isAgg3 J) (aU (Value.int .i64) f)) J J<|ktg (aQ J)<|go 3 ?_;refine gdt (Xa ( .int .i64 48100) (d_lb 4 J J J isAgg3 J) (aU (Value.int .i64) g)) J J<|ktg (aQ J)<|go 5 ?_;exact Kq h () results4 J aB Zh
def tm_few{n m:Nat}(h:¬(1<=n/\n<=5/\m=n)):n<1\/(1<=n/\5<n)\/(1<=n/\n<=5/\m≠n):=O
structure Dfl (n i:Nat) (w:List Int):Prop where
 l:w.length=i
 nd:w.Nodup
 r:∀x∈w,0<=x/\x<(n:Int)
abbrev Am (a:List LT) (p:Nat):List Int:=(a.getD p Yt).2
structure Wy (n i:Nat) (ws:List LT):Prop where
 s:∀p,p<ws.length->Dfl n i (Am ws p)
 a:∀w,Dfl n i w->∃p,p<ws.length/\Am ws p=w
 l:ws.length<=n^i
structure Wm (n i:Nat) (ws:List LT) (p k:Nat) (ms:List LT):Prop where
 s:∀q,q<ms.length->Dfl n (i+1) (Am ms q)
 a:∀q,q<p->∀x:Nat,x<n->(x:Int) ∉ Am ws q->∃r,r<ms.length/\Am ms r=Am ws q ++ [(x:Int)]
 b:∀x:Nat,x<k->(x:Int) ∉ Am ws p->∃r,r<ms.length/\Am ms r=Am ws p ++ [(x:Int)]
 l:ms.length<=p*n+k
section
variable {n i p k:Nat} {ws ms:List LT}
theorem wy_0{n:Nat}:Wy n 0 [Yt]:=⟨λp a=>by
  obtain rfl:p=0:=by simpa using a
  exact⟨rfl,kA,λx h=>by cases h⟩,λw b=>⟨0,O6,(aE b.l).symm⟩,O6⟩
def wm_0{n i:Nat}{ws:List LT}:Wm n i ws 0 0 []:=⟨λq h=>absurd h (aZ q),λq h=>absurd h (aZ q),λx h=>absurd h (aZ x),aW _⟩
theorem wm_no(h:Wm n i ws p k ms)(c:(k:Int)∈Am ws p):Wm n i ws p (k+1) ms:=⟨h.s,h.a,λx d a=>by
  rcases bE.1 d with b|rfl
  .exact h.b x b a
  .exact absurd c a,by have:=h.l;omega⟩
theorem wAt_l{r:Nat}(h:r<ms.length):Am (ms ++ [z]) r=Am ms r:=by unfold Am;rw [aA,aV h,<-aA]
theorem wAt_r : Am (ms ++ [z]) ms.length=z.2:=by unfold Am;rw [aA,aR (aH _),eP];rfl
theorem wm_yes(o:Wy n i ws)(u:p<ws.length)(h:Wm n i ws p k ms)(t:k<n)(s:(k:Int) ∉ Am ws p)(d:SL):Wm n i ws p (k+1) (ms ++ [(d,Am ws p ++ [(k:Int)])]):=by
 have j:(ms ++ [(d,Am ws p ++ [(k:Int)])]).length=ms.length+1:=by rw [aJ];rfl
 have l:∀w,(∃r,r<ms.length/\Am ms r=w)->∃r,r<(ms ++ [(d,Am ws p ++ [(k:Int)])]).length/\Am (ms ++ [(d,Am ws p ++ [(k:Int)])]) r=w:=λw ⟨r,a,m⟩=>⟨r,O,by rw [wAt_l a,m]⟩;refine⟨λq c=>?_,λq c x b g=>l _ (h.a q c x b g),λx b g=>?_,by rw [j];have:=h.l;omega⟩
 .rw [j]at c;rcases bE.1 c with a|rfl
  .rw [wAt_l a];exact h.s q a
  .rw [wAt_r];have f:=o.s p u;refine⟨by rw [aJ,f.l];rfl,?_,λx b=>?_⟩
   .refine iR.2 ⟨f.nd,O6,λx b y B e=>?_⟩;rw [aY.1 B]at e;exact s (e▸b)
   .rcases bG.1 b with a|a
    .exact f.r x a
    .rw [aY.1 a];omega
 .rcases bE.1 b with a|rfl
  .exact l _ (h.b x a g)
  .exact⟨ms.length,O,wAt_r⟩
theorem wm_nx(h:Wm n i ws p n ms):Wm n i ws (p+1) 0 ms:=⟨h.s,λq d x a b=>by
  rcases bE.1 d with c|rfl
  .exact h.a q c x a b
  .exact h.b x a b,λx a=>absurd a (aZ x),by have:=h.l;rw [dB];omega⟩
theorem wm_end(g:Wy n i ws)(h:Wm n i ws ws.length 0 ms):Wy n (i+1) ms:=by
 refine⟨h.s,λw b=>?_,by have d:=h.l;have f:=bI n g.l;rw [dJ];omega⟩
 have a:w≠[]:=λe=>by have:=b.l;rw [e]at this;simp at this
 obtain⟨u,x,rfl⟩:∃u x,w=u ++ [x]:=⟨w.dropLast,w.getLast a,(List.dropLast_concat_getLast a).symm⟩;have j:=iR.1 b.nd;have s:x ∉ u:=λc=>j.2.2 x c x O6 rfl;have o:Dfl n i u:=⟨by have:=b.l;rw [aJ]at this;simpa using this,j.1,λy t=>b.r y (eT _ t)⟩;obtain⟨q,l,e⟩:=g.a u o;have B:=b.r x O6;obtain⟨m,rfl⟩:∃m:Nat,x=(m:Int):=⟨x.toNat,O⟩;obtain⟨r,d,f⟩:=h.a q l m O (by rw [e];exact s);exact⟨r,d,by rw [f,e]⟩
def wF(w:List Int)(i:Nat):Nat:=(w.getD i 0).toNat
theorem Zce(h:Dfl n n w){i:Nat}(hi:i<n):w.getD i 0=(wF w i:Int)/\wF w i<n:=by have:=h.r (w.getD i 0) (Ym _ (by rw [h.l];exact hi));unfold wF;omega
theorem wF_ij(h:Dfl n n w):Ij n (wF w):=⟨λi hi=>(Zce h hi).2,λi j hi f e=>by
 have d:=(Zce h hi).1;have l:=(Zce h f).1;rw [e,<-l]at d;have a:i<w.length:=by rw [h.l];exact hi
 have b:j<w.length:=by rw [h.l];exact f
 rw [aA,aA,aF a,aF b]at d;have g:=iJ.1 h.nd;rcases lD i j with c|c|c
 .exact absurd d (g i j a b c)
 .exact c
 .exact absurd d.symm (g j i b a c)⟩
theorem df_q{cl:List Int}(d:Ij n Q)(h:cl=(List.range n).map λr=>(Q r:Int)):Dfl n n cl:=by subst h;refine⟨O6,lF.2 (eZ.imp_of_mem λ{a b} f g c e=>c (d.i a b (bR.1 f) (bR.1 g) O)),λx l=>?_⟩;obtain⟨r,j,rfl⟩:=cQ.1 l;have:=d.lt r (bR.1 j);omega
end
end Go.Sky
namespace Go.Sky
open Go.Proofs.Try
open Go.Proofs
set_option synthInstance.maxHeartbeats 0
set_option synthInstance.maxSize 100000
set_option maxRecDepth 20000
set_option linter.unusedSimpArgs false
def Zei(v w:Value)(a b:List Yw)(f:¬(1<=a.length/\a.length<=5/\b.length=a.length)):Ow prog 3 #[v,w] [Ou 3 Qt v a,Ou 3 Qt w b] (.bool true):=by
 refine Yf func3 ntmps3 λm l k c=>?_;refine Yy (Pr (i:=1) J Zn) (λh=>?_);refine Yy (Pr (i:=2) J Zn) λj=>go 14 ?_;rcases tm_few f with d|⟨d,e⟩|⟨d,e,g⟩
 .refine go 2<|kt (aQ O)<|go 15 ?_;refine cl 2 [] Mr λ_ _=>go 5 ?_;exact Kq c () results3 J aB Zh
 .refine go 2<|kf (aO O)<|go 2<|ktg (aQ O)<|go 12 ?_;refine cl 2 [] Mr λ_ _=>go 5 ?_;exact Kq c () results3 J aB Zh
 .refine go 2<|kf (aO O)<|go 2<|kfg (aO O)<|go 5<|ktg (aQ O)<|go 6 ?_;refine cl 2 [] Mr λ_ _=>go 5 ?_;exact Kq c () results3 J aB Zh
def Zej(v w:Value)(a b:List Yw)(j:1<=a.length/\a.length<=5/\b.length=a.length)(g:Lj a b=false):Ow prog 3 #[v,w] [Ou 3 Qt v a,Ou 3 Qt w b] (.bool true):=by refine Yf func3 ntmps3 λm l k c=>?_;refine Yy (Pr (i:=1) J Zn) (λe=>?_);refine Yy (Pr (i:=2) J Zn) λf=>go 16 ?_;refine kf (aO O)<|go 2<|kfg (aO O)<|go 5<|kfg (aO O)<|go 10 ?_;refine cl 2 [1,2] (Ap a b g) λ_ _=>go 4<|Lg (Oy 3) λh _=>Lg (Oy 4) λd _=>go 9<|kt (aQ O3)<|go 4<|Yg (Ka 79 1 3 Zo)<|go 4<|kt (aQ J)<|go 1 ?_;refine clg 4 [] Mr λ_ _=>go 6 ?_;exact Kq c () results3 J aB Zh
abbrev frW (w:List Int) (k:Nat) (j:Nat):Bool:=decide ((k:Int) ∉ w.take j)
section
variable {w:List Int} {k j:Nat}
theorem frw_t(d:j<w.length)(c:frW w k j=true)(h:w.getD j 0≠(k:Int)):frW w k (j+1)=true:=by have:=bB c;refine aQ ?_;rw [Oc 0 d,bG,aY];exact λa=>a.elim this λb=>h b.symm
theorem frw_s(b:j<w.length)(h:w.getD j 0=(k:Int)):frW w k (j+1)=false:=aO (by rw [Oc 0 b,bG,aY];exact λa=>a (.inr h.symm))
theorem frw_f(d:j<w.length)(c:frW w k j=false):frW w k (j+1)=false:=by have:=fH c;refine aO ?_;rw [Oc 0 d,bG];exact λa=>this λb=>a (.inl b)
theorem frw_b(b:j<w.length):frW w k (j+1)=(frW w k j && decide (w.getD j 0≠(k:Int))):=by
 cases h:frW w k j with
 | false=>rw [frw_f b h];rfl
 | true=>
  by_cases a:w.getD j 0=(k:Int)
  .rw [frw_s b a,aO (λc=>c a)];rfl
  .rw [frw_t b h a,aQ a];rfl
theorem Zfx(w:List Int)(k:Nat):frW w k w.length=decide ((k:Int) ∉ w):=by unfold frW;rw [bZ (aH _)]
end
theorem wy_b{n i:Nat}{a:List LT}(h:Wy n i a)(b:n<=5)(hi:i<=5):a.length<=3125:=by have c:n^i<=5^i:=hZ b i;have d:(5:Nat)^i<=5^5:=dX O3 hi;have:=h.l;have e:(5:Nat)^5=3125:=rfl;omega
theorem wm_b{n i p k:Nat}{a c:List LT}(d:Wy n i a)(h:Wm n i a p k c)(b:n<=5)(hi:i<=5)(m:p<a.length)(l:k<=n):c.length<=15630:=by have e:=wy_b d b hi;have f:=h.l;have g:p*n<=3125*5:=bT O b;omega
end Go.Sky
namespace Go.Sky
variable{ws:List LT}
abbrev fdW (ws:List LT) (cl:List Int) (p:Nat):Bool:=decide (∃q,q<p/\(ws.getD q Yt).2=cl)
abbrev smW (w cl:List Int) (x:Nat):Bool:=decide (w.take x=cl.take x)
def fdW_0{cl:List Int}:fdW ws cl 0=false:=aO λ⟨q,h,_⟩=>absurd h (aZ q)
theorem Zas(ws:List LT)(cl:List Int)(p:Nat):fdW ws cl (p+1)=(fdW ws cl p || decide ((ws.getD p Yt).2=cl)):=by
 rw [Bool.eq_iff_iff,gY,cD,cD,cD];constructor
 .rintro⟨q,b,a⟩;rcases bE.1 b with c|rfl
  .exact .inl ⟨q,c,a⟩
  .exact .inr a
 .rintro(⟨q,b,a⟩|h)
  .exact⟨q,O,a⟩
  .exact⟨p,eF p,h⟩
section
variable {w cl:List Int} {x n:Nat}
theorem smW_s(d:x<w.length)(c:x<cl.length):smW w cl (x+1)=(smW w cl x && decide (w.getD x 0=cl.getD x 0)):=by
 rw [Bool.eq_iff_iff,bH,cD,cD,cD,Oc 0 d,Oc 0 c];constructor
 .intro h;have a:=List.append_inj h (by rw [aI,aI];omega);exact⟨a.1,by simpa using a.2⟩
 .rintro⟨b,a⟩;rw [b,a]
theorem Zlj(b:w.length=n)(a:cl.length=n):smW w cl n=decide (w=cl):=by unfold smW;rw [bZ O,bZ O]
end
section
variable {a b:List Yw} {Q:Nat->Nat} {w cl:List Int}
theorem law_m(h:OpA a b Q)(c:Dfl a.length a.length w):¬Fo (Mb a b (wF w)) a.length<Fo (Mb a b Q) a.length:=by have:=h.m _ (wF_ij c);omega
theorem law_s(h:OpA a b Q)(c:Dfl a.length a.length w)(e:Fo (Mb a b (wF w)) a.length=Fo (Mb a b Q) a.length):¬Zc (Mb a b (wF w)) a.length<Zc (Mb a b Q) a.length:=by have:=h.s _ (wF_ij c) e;omega
theorem law_e(c:cl=(List.range a.length).map λr=>(Q r:Int)):Fo (Mb a b (wF cl)) a.length=Fo (Mb a b Q) a.length/\Zc (Mb a b (wF cl)) a.length=Zc (Mb a b Q) a.length:=by
 have e:∀r,r<a.length->Mb a b (wF cl) r=Mb a b Q r:=λr d=>by
  have:wF cl r=Q r:=by unfold wF;rw [cl_at c d];rfl
  unfold Mb;rw [this]
 exact⟨Eu _ e,Zj e⟩
theorem dw_rg(h:Lj a b=true)(q:a.length<=5)(i:Dfl a.length a.length w){x:Nat}(j:x<a.length) :
  (0<=Zc (Mb a b (wF w)) x/\Zc (Mb a b (wF w)) x<=87960930222080)/\0<=dP (a.getD x Oa) (b.getD (wF w x) Oa)/\dP (a.getD x Oa) (b.getD (wF w x) Oa)<=17592186044416:=by
 obtain⟨l,m,e,g⟩:=Zcw h;have d:∀k,k<a.length->0<=Mb a b (wF w) k/\Mb a b (wF w) k<=17592186044416:=λk c=>dP_rg (e k c) (g _ (by have:=(Zce i c).2;omega));have o:=Zd3 (f:=Mb a b (wF w)) x λk c=>d k O;have p:(x:Int)*17592186044416<=5*17592186044416:=cH O O3;exact⟨O,d x j⟩
theorem law_fd(e:Ij a.length Q)(g:cl=(List.range a.length).map λr=>(Q r:Int))(f:Wy a.length a.length ws):fdW ws cl ws.length=true:=by obtain⟨p,c,d⟩:=f.a cl (df_q e g);exact aQ ⟨p,c,d⟩
end
end Go.Sky
namespace Go.Sky
open Go.Proofs.Try
open Go.Proofs
set_option synthInstance.maxHeartbeats 0
set_option synthInstance.maxSize 100000
set_option maxRecDepth 20000
set_option linter.unusedSimpArgs false
def law_tm(v w:Value)(a b:List Yw)(Z:1<=a.length/\a.length<=5/\b.length=a.length)(hp:Lj a b=true):Ow prog 3 #[v,w] [Ou 3 Qt v a,Ou 3 Qt w b] (.bool true):=by
 refine Yf func3 ntmps3 λw0 sc R b4=>?_;refine Yy (Pr (i:=1) J Zn) (λc1=>?_);refine Yy (Pr (i:=2) J Zn) λc2=>go 16 ?_;refine kf (aO O)<|go 2<|kfg (aO O)<|go 5<|kfg (aO O)<|go 10 ?_;refine cl 3 [1,2] (Zab a b hp O) λQ o=>go 4<|Lg (Oy 4) λb9 _=>Lg (Oy 5) λb8 _=>go 9<|kf (aO O3)<|go 7 ?_;have b2:Q.2.1.length=a.length:=by rw [o.2];simp
 refine go 5<|kf (aO O)<|go 7 ?_;refine tt (Od [(0,_)] 70 (enc:=(Qe (α:=List Int))) [Yt] J J K2 Mp ti24 J J J J J (pS (α:=List Int)).cells J J R.h) λv _=>go 5 ?_;refine Yg (Ka 77 1 3 Zo)<|Yg (Nm 77 J J pZ)<|Yg (Mx qL 71)<|Yg (Nn (q:=qL) (z:=Yt) 71 77 71 J J J J J)<|Yg (Nm 70 J J pS)<|Yg (Iy 70 71 78 J J J J)<|go 5 ?_;refine lp (G:=Nat×Value×List LT) [0,1,5,6] [0,1,2,3,4,5] (λq=>[(10,.int .i64 (q.1:Int)),(9,q.2.1)]) (λq=>[(78,Nd 1 (Qe (α:=List Int)) qL q.2.1 q.2.2)]) (λq=>(q.1<=a.length)/\(Wy a.length q.1 q.2.2)) (λq=>a.length-q.1) (0,_,[Yt]) ⟨O1,wy_0⟩ K2 K1 ?_;rintro⟨i,vw,e⟩ ⟨hi,B⟩;dsimp only at hi B;dsimp only;refine go 8<|Zy J (λa2=>?_) (λa2=>?_)
 .have c0:i<a.length:=O;refine go 18<|Yg (Ka 74 1 24 (Qe (α:=List Int)))<|Yg (Mx qL 75) ?_;refine lp (G:=Nat×Value×List LT) [0,1,5,6,10,68,69] [0,78,1,2,3,4,5] (λq=>[(70,.int .i64 (q.1:Int)),(11,q.2.1)]) (λq=>[(74,Yu 1 24 (Qe (α:=List Int)) q.2.1 q.2.2),(75,Gm qL q.2.2)]) (λq=>(q.1<=e.length)/\(Wm a.length i e q.1 0 q.2.2)) (λq=>e.length-q.1) (0,_,[]) ⟨O1,wm_0⟩ K2 K2 ?_;rintro⟨p,vm,ms⟩ ⟨b1,hM⟩;dsimp only at b1 hM;dsimp only;refine go 6<|Zy J (λa3=>?_) (λa3=>?_)
  .have g:p<e.length:=O;have a0:(e.getD p Yt).2.length=i:=(B.s p g).l;have b6:=wy_b B Z.2.1 O;refine go 5<|Yg (Nv 78 73 J J (Ym p (d:=Yt) g))<|go 1 ?_;refine dt (Zm 78 p J J J J Yl Mp Ge J g)<|dt (Xk 78 Yt J J J Yl (pS (α:=List Int)) g)<|go 9 ?_;refine lp (G:=Nat×Value×List LT) [0,1,5,6,10,13,68,69,70] [0,78,1,2,3,4,5,73] (λq=>[(14,.int .i64 (q.1:Int)),(11,q.2.1)]) (λq=>[(74,Yu 1 24 (Qe (α:=List Int)) q.2.1 q.2.2),(75,Gm qL q.2.2)]) (λq=>(q.1<=a.length)/\(Wm a.length i e p q.1 q.2.2)) (λq=>a.length-q.1) (0,_,ms) ⟨O1,hM⟩ K2 K2 ?_;rintro⟨k,vk,mk⟩ ⟨hk,S⟩;dsimp only at hk S;dsimp only;refine go 8<|Zy J (λa4=>?_) (λa4=>?_)
   .have a8:k<a.length:=O;refine go 16 ?_;refine lp (G:=Nat) [0,1,5,6,10,11,13,14,68,69,70] [0,74,75,78,1,2,3,4,5,73] (λj=>[(16,.int .i64 (j:Int)),(15,.bool (frW (e.getD p Yt).2 k j))]) (λj=>[]) (λj=>j<=(e.getD p Yt).2.length) (λj=>(e.getD p Yt).2.length-j) 0 O1 K2 aB ?_;rintro j hj;refine go 9<|Zy J (λa5=>?_) (λa5=>?_)
    .have D:j<(e.getD p Yt).2.length:=O;refine go 7<|Ki 86 J (λN=>?_) (λN=>?_)
     .refine go 2 ?_;refine gdt (Zm 73 j J J J J Zn Zu Qz J D) J J<|go 13 ⟨D,O,?_⟩;exact Yr (j+1) O1 O1 ⟨J,(aU (λz=>some (Value.bool z)) (by rw [frw_b D,N];rfl)),aB⟩ aB
     .refine go 16 ⟨O,?_⟩;exact Yr (j+1) O1 O1 ⟨J,(aU (λz=>some (Value.bool z)) (by rw [frw_b D,N];rfl)),aB⟩ aB
    .obtain rfl:j=(e.getD p Yt).2.length:=O;refine go 10<|Ng J (λM=>?_) (λM=>?_)
     .have t:=M;rw [Zfx]at t;refine Yg (Ka 72 1 3 Zo)<|go 3 ?_;refine tt (Ms 72 73 8 J J J J J J O3 J Zn Zu ti3 J pZ J J J (by simp only [fV,cZ,aJ,bF];omega) O3 J R.h) λc7 _=>go 1 ?_;refine tt (Od [(0,_)] 6 (enc:=Zo) [(k:Int)] J J K2 Zu ti3 J J J J J pZ.cells J J R.h) (λc8 _=>?_);refine tt (Ms 72 6 8 J J J J J J O3 J (Ze pZ) Zu ti3 J pZ J J J (by simp only [fV,cZ,aJ,bF];omega) O3 J R.h) (λc9 _=>?_);refine l_ex (Pd 72 J (Ze pZ)) (λsx b5=>?_);subst b5;refine Qf (Nm 72 J J pZ)<|tt (Od [(0,_)] 7 (enc:=(Qe (α:=List Int))) [(sx,(e.getD p Yt).2 ++ [(k:Int)])] J J K2 Mp ti24 J J J J J (pS (α:=List Int)).cells J J R.h) (λd0 _=>?_);refine tt (Ms 74 7 24 J J J J J J O3 J (Ze (pS (α:=List Int))) Mp ti24 J (pS (α:=List Int)) J J J (by have:=wm_b B S Z.2.1 O g O;simp only [bF,cZ];omega) O3 J R.h) (λd1 _=>?_);refine go 9 ⟨O,?_⟩;exact Xr (Nn (q:=qL) (z:=(sx,(e.getD p Yt).2 ++ [(k:Int)])) 75 72 75 J J J J J)<|Yr (k+1,_,mk ++ [(sx,(e.getD p Yt).2 ++ [(k:Int)])]) ⟨O1,wm_yes B g S a8 (bB t) sx⟩ O1 K2 K2
     .have t:=M;rw [Zfx]at t;refine go 8 ⟨O,?_⟩;exact Yr (k+1,_,mk) ⟨O1,wm_no S (eQ.1 (fH t))⟩ O1 K2 K2
   .obtain rfl:k=a.length:=O;refine go 10 ⟨O,?_⟩;exact Yr (p+1,_,mk) ⟨O1,wm_nx S⟩ O1 K2 K2
  .obtain rfl:p=e.length:=O;refine go 5<|Yg (Nm 74 J J pS)<|Yg (Iy 74 75 78 J J J J)<|go 11 ⟨O,?_⟩;exact Yr (i+1,_,ms) ⟨O1,wm_end B hM⟩ O1 K2 K1
 .obtain rfl:i=a.length:=O;refine go 19 ?_;refine lp (G:=Nat) [0,1,5,6,105,106] [0,78,1,2,3,4,5] (λp=>[(107,.int .i64 (p:Int)),(17,.bool (fdW e Q.2.1 p))]) (λp=>[]) (λp=>p<=e.length) (λp=>e.length-p) 0 O1 ⟨J,aU (λz=>some (Value.bool z)) (fdW_0).symm,aB⟩ aB ?_;rintro p c5;refine go 6<|Zy J (λa6=>?_) (λa6=>?_)
  .have g:p<e.length:=O;have s:Dfl a.length a.length (e.getD p Yt).2:=B.s p g;have a0:(e.getD p Yt).2.length=a.length:=s.l;have b6:=wy_b B Z.2.1 Z.2.1;refine go 5<|Yg (Nv 78 73 J J (Ym p (d:=Yt) g))<|go 1 ?_;refine dt (Zm 78 p J J J J Yl Mp Ge J g)<|dt (Xk 78 Yt J J J Yl (pS (α:=List Int)) g)<|go 17 ?_;refine lp (G:=Nat) [0,1,5,6,17,19,105,106,107] [0,78,1,2,3,4,5,73] (λx=>[(23,.int .i64 (x:Int)),(20,.int .i64 (Fo (Mb a b (wF (e.getD p Yt).2)) x)),(21,.int .i64 (Zc (Mb a b (wF (e.getD p Yt).2)) x)),(22,.bool (smW (e.getD p Yt).2 Q.2.1 x))]) (λx=>[]) (λx=>x<=a.length) (λx=>a.length-x) 0 O1 K4 aB ?_;rintro x hx;refine go 8<|Zy J (λa7=>?_) (λa7=>?_)
   .have y:x<a.length:=O;have I:x<Q.2.1.length:=O;have r:x<(e.getD p Yt).2.length:=O;obtain⟨b7,c6⟩:=Zce s y;have b3:=dw_rg hp Z.2.1 s y;dsimp only [dP]at b3;obtain⟨c3,c4,a9,b0⟩:=Zcw hp;refine go 5<|Da (λ_=>False) [(0,0),(1,0),(2,0),(3,0),(4,0),(5,0),(6,0),(7,0),(8,0),(9,0),(10,0),(11,1),(12,0),(13,0),(14,0),(15,0),(16,3)]<|go 2 ?_;refine Kx J J (Hy (Zm 1 x J J J J Zn Zdy sizeOf38 J y))<|Kx J J (Hy (Xk 1 Oa J J J Zn pPt y))<|go 3 ?_;refine Kx J J (Hy (Zm 73 x J J J J Zn Zu Qz J r))<|Kx J J (Hy (Xa ( .int .i64 (wF (e.getD p Yt).2 x:Int)) (Xk 73 0 J J J Zn pZ r) (aU (Value.int .i64) b7)))<|Kx J J (Hy (Zm 2 (wF (e.getD p Yt).2 x) J J J J Zn Zdy sizeOf38 J O))<|Kx J J (Hy (Xk 2 Oa J J J Zn pPt O))<|r1x (t_ca 7 [] (ve_d2 (Ze4 (a9 x y)) (Ze4 (b0 _ O)))) λ_ _=>go 11 ?_;refine kf (aO O3)<|go 9 ?_;refine dt (d_max J J J)<|go 7 ⟨O,?_⟩;rcases Bool.eq_false_or_eq_true (smW (e.getD p Yt).2 Q.2.1 x)with u|u
    .refine Da (λ_=>False) [(0,0),(1,0),(2,0),(3,0),(4,0),(5,0),(6,0),(7,0),(8,0),(9,0),(10,0),(11,0),(12,0),(13,3)]<|go 1 ?_;refine Kx J J (Hy (dT (Zm7 J J) (vB u)))<|go 2 ?_;refine r0g (Hy (Zm 73 x J J J J Zn Zu Qz J r)) J J J J J J J<|go 4 ⟨r,?_⟩;refine r0g (Hy (Zm 3 x J J J J Zn Zu Qz J I)) J J J J J J J<|go 12 ⟨I,O,?_⟩;exact Yr (x+1) O1 O1 ⟨J,J,aU (λz=>some (Value.int .i64 z)) (Zf _ _).symm,(aU (λz=>some (Value.bool z)) (by rw [smW_s r I,u];rfl)),aB⟩ aB
    .refine Da (λ_=>False) [(0,0),(1,0),(2,2),(3,2),(4,2),(5,2),(6,2),(7,2),(8,2),(9,2),(10,2),(11,2),(12,0),(13,3)]<|go 1 ?_;refine Kx J J (Hy (dF (Zm7 J J) (vB u)))<|go 20 ⟨O,?_⟩;exact Yr (x+1) O1 O1 ⟨J,J,aU (λz=>some (Value.int .i64 z)) (Zf _ _).symm,(aU (λz=>some (Value.bool z)) (by rw [smW_s r I,u];rfl)),aB⟩ aB
   .obtain rfl:x=a.length:=O;refine go 7 ?_;have Y:=law_m o.1 s;have H:=Zlj a0 (by rw [b2]:Q.2.1.length=a.length);have F:=law_e (b:=b) o.2;refine go 4<|kf (aO Y)<|go 6<|Lq 161 J (λa1=>?_) (λa1=>?_)
    .have V:=a1;refine go 3<|kfg (aO (law_s o.1 s V))<|go 10<|Ki 169 J (λP=>?_) (λP=>?_)
     .have f:=P;refine go 22 ⟨O,?_⟩;exact Yr (p+1) O1 O1 ⟨J,(aU (λz=>some (Value.bool z)) (by rw [Zas,f];rfl)),aB⟩ aB
     .have f:=P;refine go 2<|Ki 171 J (λl=>?_) (λl=>?_)
      .have c:=l;rw [H]at c;have h:=bB c;refine go 3<|ktg (aQ (by rw [h];exact F.1))<|go 5<|ktg (aQ (by rw [h];exact F.2))<|go 10 ⟨O,?_⟩;exact Yr (p+1) O1 O1 ⟨J,(aU (λz=>some (Value.bool z)) (by rw [Zas,aQ h,Bool.or_true])),aB⟩ aB
      .have c:=l;rw [H]at c;have h:=fH c;refine go 20 ⟨O,?_⟩;exact Yr (p+1) O1 O1 ⟨J,(aU (λz=>some (Value.bool z)) (by rw [Zas,f,aO h];rfl)),aB⟩ aB
    .refine go 14<|Ki 169 J (λm=>?_) (λm=>?_)
     .have f:=m;refine go 22 ⟨O,?_⟩;exact Yr (p+1) O1 O1 ⟨J,(aU (λz=>some (Value.bool z)) (by rw [Zas,f];rfl)),aB⟩ aB
     .have f:=m;refine go 2<|Ki 171 J (λn=>?_) (λn=>?_)
      .have c:=n;rw [H]at c;have h:=bB c;refine go 3<|ktg (aQ (by rw [h];exact F.1))<|go 5<|ktg (aQ (by rw [h];exact F.2))<|go 10 ⟨O,?_⟩;exact Yr (p+1) O1 O1 ⟨J,(aU (λz=>some (Value.bool z)) (by rw [Zas,aQ h,Bool.or_true])),aB⟩ aB
      .have c:=n;rw [H]at c;have h:=fH c;refine go 20 ⟨O,?_⟩;exact Yr (p+1) O1 O1 ⟨J,(aU (λz=>some (Value.bool z)) (by rw [Zas,f,aO h];rfl)),aB⟩ aB
  .obtain rfl:p=e.length:=O;refine go 6 ?_;have W:=law_fd o.1.p o.2 B;refine go 2<|kt W ?_;refine clg 7 [] Mr λ_ _=>go 5 ?_;exact Kq b4 () results3 J aB Zh
def Zmk(v:Value)(a:List Yw)(w:Value)(b:List Yw):Ow prog 3 #[v,w] [Ou 3 Qt v a,Ou 3 Qt w b] (.bool true):=by
 by_cases c:1<=a.length/\a.length<=5/\b.length=a.length
 .cases hp:Lj a b with
  | false=>exact Zej v w a b c hp
  | true=>exact law_tm v w a b c hp
 .exact Zei v w a b c
open Go.ChangeShapes Go.WideShapes Go.ChangeAt Go.RowKit Go.Joins Go.Deep
variable {P:Program} {W:World} {H:Type} {enc:TypeId×Value->H}
theorem Zmg {α:Type} [Inhabited α] {t0 t:TypeId} {k:Nat} {ec:α->Value} {Pz:α->Prop} {c:Value} {d:Nat} {x:DataW H×List MemPlace} (Z:P.underlying t0=some (.slice t)) (hC:P.cellsOf t=k) (F:0<k) (hk:∀z,(ec z).cells.size=k)
  (R:∀cs d y,DataW.trod enc P W 0 (λ_=>true) true d t cs=some y->∃z,cs=(ec z).cells.toList/\Pz z)
  (h:DataW.trod enc P W 0 (λ_=>true) true d t0 [c]=some x):∃(s:SL) (l:List α),c=Qu s/\(Ou k ec (Qu s) l).holds W/\∀z∈l,Pz z:=by
 rcases open_slice Z h with⟨Y,_⟩|⟨a,r,a1,m,n,D,Pl,Y,_,hl,hm,G,hx,he⟩
 .cases Y;exact⟨(none,0,0),[],rfl,Zg1 k ec W,λg B=>by cases B⟩
 .cases Y;simp at G;subst G;by_cases hn:r=0
  .subst hn;exact⟨(some a,0,m),[],rfl,⟨⟨some a,m,rfl,hl,hm,.inl rfl⟩,λb N=>absurd rfl N.1⟩,λg B=>by cases B⟩
  .obtain⟨M,a0,q⟩:=Dm (p:=λi (g:α)=>W.cells? 0 (a.add (i*k)) k=some (ec g).cells.toList/\Pz g) r λi e=>by obtain⟨a2,k2,k3⟩:=he i O;rw [hC]at k2;obtain⟨g,rfl,k4⟩:=R _ _ _ k3;exact⟨g,k2,k4⟩
   have w:∀g∈M,Pz g:=λg B=>by obtain⟨i,e,rfl⟩:=eW B;exact(q i _ (aF e)).2
   obtain⟨g,v,I⟩:=a;have c0:=(World.cells?_some (q 0 (M[0]' O) (aF O)).1).2.2 0 F;rw [iA]at c0;have hz:0<(ec (M[0]' O)).cells.toList.length:=by rw [bN,hk];exact F
   obtain⟨o,f⟩:=Zhi (c0.trans (aF hz));have o:I=none:=o;have f:g<W.heap.size:=f;subst o;refine⟨(some ⟨g,v,none⟩,r,m),M,rfl,⟨⟨some ⟨g,v,none⟩,m,by rw [a0],by show M.length<=m;omega,hm,.inr ⟨g,v,rfl,λi x e j u S=>?_⟩⟩,λb N=>by cases N.2;exact f⟩,w⟩;obtain⟨_,_,Q⟩:=World.cells?_some (q i x e).1;have V:j<k:=by
    rcases bD j k with h|h
    .exact h
    .rw [bL (by rw [bN,hk];exact h)]at S;cases S
   have:=Q j V;simp only [Xw]at this;rw [this];simpa using S
theorem Zcv {t ti:TypeId} {f0 f1 f2:Field} {cs:List Value} {c:Nat} {x:DataW H×List MemPlace} (r:P.underlying t=some (.struct #[f0,f1,f2])) (q:P.cellsOf t=3) (m:f0.type=ti) (o:f1.type=ti) (p:f2.type=ti) (w:f0.offset=0) (y:f1.offset=1) (B:f2.offset=2)
  (hi:P.underlying ti=some (.int .i64)) (a:P.cellsOf ti=1) (h:DataW.trod enc P W 0 (λ_=>true) true c t cs=some x):∃z:Yw,cs=[.int .i64 z.1,.int .i64 z.2.1,.int .i64 z.2.2]:=by
 obtain⟨D,n,_,M,i,d,b⟩:=DataW.trod_struct r h;rw [q]at i
 match cs,i with
 | [F,G,I],_=>
 match D,d with
 | [S,V,Y],_=>
 have e:=b 0 f0 rfl;have f:=b 1 f1 rfl;have g:=b 2 f2 rfl;rw [m,w,a]at e;rw [o,y,a]at f;rw [p,B,a]at g;obtain⟨s,j,N⟩:=DataW.trod_int hi e;obtain⟨u,k,Q⟩:=DataW.trod_int hi f;obtain⟨v,l,R⟩:=DataW.trod_int hi g;simp at j k l;subst j;subst k;subst l;exact⟨(s,u,v),rfl⟩
instance:Inhabited Yw:=⟨Oa⟩
instance:Inhabited PgT:=⟨Pg0⟩
theorem Zan (k:Nat) {α:Type} [Inhabited α] {t0 t:TypeId}  {ec:α->Value} {v:Value} {d:DataW H} {p:List MemPlace} (c:P.underlying t0=some (.slice t)) (n:P.cellsOf t=k) (g:0<k) (q:∀z,(ec z).cells.size=k)
  (f:∀cs a y,DataW.trod enc P W 0 (λ_=>true) true a t cs=some y->∃z,cs=(ec z).cells.toList)
  {r:Reach} {b:Nat} (u:Value.okWide P W r b t0 v) (h:DataW.Trod enc P W 0 (λ_=>true) true t0 v d p):∃l:List α,(Ou k ec v l).holds W:=by
 obtain⟨j,i,e,rfl⟩:=okWide_slice c u;obtain⟨a,o⟩:=h;obtain⟨s,l,hs,m,-⟩:=Zmg (Pz:=λ_=>True) c n g q (λcs a y w=>by obtain⟨z,x⟩:=f cs a y w;exact⟨z,x,aB⟩) (show DataW.trod enc P W 0 (λ_=>true) true a t0 [.slice j i e]=some (d,p) by simpa [Value.cells]using o);exact⟨l,by rw [hs];exact m⟩
end Go.Sky
namespace Go.Proofs.Ytoaklaecgjlfoaa
open Go.ChangeShapes Go.WideShapes Go.ChangeAt Go.RowKit Go.Joins Go.Deep Go.Sky
def own:ownKnob Try.prog.godebug=none:=O4
def Zft:laidOutB Try.prog=true:=O4
set_option maxRecDepth 100000 in
def lifted(Q:Os)(d:Q.Started)(H:Type)(enc:TypeId×Value->H) :
  ReturnsInHanded {} Try.checked Q 3 .any (Rows.topMatchingSpec.pre6 enc Try.prog Try.f3 Rows.topMatchingRow.domain false) (Rows.topMatchingSpec.post enc Try.prog Try.f3 false true false false):=by
 refine returnsInHanded_of_change (C:=Try.checked) own d O4 Try.func3
  (ChangeSpec.witness6 (enc:=enc) (C:=Try.checked) false ⟨#[],#[.slice none 0 0,.slice none 0 0],[]⟩ 8 O4 O4 O4 O4) ?_
 intro W base a S gs l c N P _;have b:∀(j:Nat) t v,Try.f3.params[j]? = some t->a[j]? = some v->Value.okWide Try.prog W .any base t v:=c;have r:=N;obtain⟨p,q,i,Z,rfl,a0,a1⟩:=N;have M:DataW.TrodAll enc Try.prog W 0 (λ_=>true) true Try.f3.params.toList a.toList S p:=i;rw [Try.params3]at M b;obtain⟨G,a2,d0,V,p0,q0,s,rfl,rfl,n,r0⟩:=trodAll_cons M;obtain⟨I,a3,d1,Y,p1,q1,rfl,rfl,rfl,o,r1⟩:=trodAll_cons r0;obtain⟨rfl,rfl,rfl⟩:=trodAll_nil r1;obtain rfl:a=#[G,I]:=by cases a;simp_all
 obtain⟨rfl,rfl⟩:=trodVars_none Z;have D:∀x∈p0,x.block<W.heap.size:=by obtain⟨m,z⟩:=n;exact DataW.trod_lt m _ _ _ z
 obtain⟨l0,u⟩:=Zan 3 (ec:=Qt) Try.underlying22 O4 O3 (λ_=>rfl) (λR g y B=>Zcv Try.underlying38 O4 rfl rfl rfl rfl rfl rfl Try.underlying3 O4 B) (b 0 (22) G rfl rfl) n;have F:∀x∈p1,x.block<W.heap.size:=by obtain⟨m,z⟩:=o;exact DataW.trod_lt m _ _ _ z
 obtain⟨l1,w⟩:=Zan 3 (ec:=Qt) Try.underlying22 O4 O3 (λ_=>rfl) (λR g y B=>Zcv Try.underlying38 O4 rfl rfl rfl rfl rfl rfl Try.underlying3 O4 B) (b 1 (22) I rfl rfl) o;clear i c;refine(Zmk G l0 I l1 W (λp k=>by cases k with|head=>exact u|tail _ k=>cases k with|head=>exact w|tail _ k=>cases k)).mono λe W' ⟨_,he,_,f,_⟩=>?_;subst he;exact⟨_,rfl,_,_,_,[],_,[],r,trodAll_mk1 (shut_bool Try.underlying4 _),(trodAll_cons_mk (Below.trod Zft O4 (bB O4) n f D) (trodAll_cons_mk (Below.trod Zft O4 (bB O4) o f F) trodAll_mk0)),rfl,f.frame _,λh=>by cases h⟩
theorem x_holds : Rows.TopMatchingSaid :=
 OpenClaim.holds_of_wide 3 Try.f3 rfl rfl rfl rfl rfl rfl rfl ⟨rfl,rfl,rfl,rfl,rfl⟩ rfl rfl rfl rfl rfl O4 Try.func3 closed
  (bB O4) (by unfold Func.isWrapper;first|(rw [aK O5];kernel_rfl)|(rw [aG O5];exact⟨rfl,rfl⟩))
  (λos started H enc _=>lifted os started H enc)
#print axioms x_holds
end Go.Proofs.Ytoaklaecgjlfoaa

