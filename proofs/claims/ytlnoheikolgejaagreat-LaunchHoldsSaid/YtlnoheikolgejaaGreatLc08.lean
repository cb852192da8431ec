/- Rules, arithmetic and contracts: part 9. No conditions but those that each theorem names. -/
import Derived.Test.YtlnoheikolgejaaGreatLc07
set_option linter.all false
set_option maxHeartbeats 4000000
namespace Go.Sky
open Go.Proofs.Tryz
open Go.Proofs
set_option synthInstance.maxHeartbeats 0
set_option synthInstance.maxSize 100000
set_option maxRecDepth 20000
set_option linter.unusedSimpArgs false
variable{s t:Bool}{v w:Value}{x:Int}{listed:Array Bool}{ts:List Nat}{ops:Array Oper}
theorem Zrn(hs:sg s x):Cal prog 212 #[.agg #[.bool s,v]] [Dj v x.natAbs] true (G:=Bool×Value) (λr=>sg r.1 (-x)) (λr=> .agg #[.bool r.1,r.2]) (λr=>[Dj r.2 (-x).natAbs]):=by refine Zg func212 ntmps212 λg f e c=>go 2 ?_;refine Yj (Yg 2) λb _=>Yj (Yd 3) λd _=>go 9 ?_;refine dt (Qe [(0,_),(1,_)] J K4 (λa w hs=>Kz ((Zk J) a w hs) ((Pj 1 J Zl) a w hs)))<|go 4 ?_;exact Yp c (!s,v) results212 J (Yie hs) (Pb 1 Za (by rw [dV]))
theorem Zeg{y:Int}(hs:sg s x)(f:sg t y)(g:bl x.natAbs<=4294967296:=by omega)(h:bl y.natAbs<=4294967296:=by omega):Cal prog 340 #[.agg #[.bool s,v],.agg #[.bool t,w]] [Dj v x.natAbs,Dj w y.natAbs] true (G:=Bool×Value) (λr=>sg r.1 (x*y)) (λr=> .agg #[.bool r.1,r.2]) (λr=>[Dj r.2 (x*y).natAbs]):=by refine Zg func340 ntmps340 λk j i c=>go 2 ?_;refine Yj (Yg 3) λb _=>Yj (Yg 4) λd _=>Yj (Yd 5) λe _=>go 3<|Qa (λ_=>False) [(0,0),(1,0),(2,0),(3,0),(4,0),(5,0),(6,0),(7,0),(8,0),(9,1),(10,0),(11,3)]<|go 9<|Yq (Zo 6 [1,2] (Ybt g h)) λv _=>?_;refine Yz J J (Xn (Qe [(0,_),(1,_)] J K4 (λa w hs=>Kz ((Zk J) a w hs) ((Pj 6 J Zl) a w hs))))<|go 4 ?_;exact Yp c (_,_) results340 J (Yif hs f) (Pb 6 Za (by rw [cE]))
theorem Zmq(hs:sg s x)(g:bl x.natAbs<=4294967296:=by omega):Cal prog 213 #[.agg #[.bool s,v]] [Dj v x.natAbs] true (G:=Unit) (λ_=>True) (λ_=> .int .i64 x.sign) (λ_=>[]):=by
 refine Zg func213 ntmps213 λi h f d=>?_;have e:=Mo x.natAbs;refine go 2<|Yj (Yg 2) λb _=>go 14<|Ze J (λa=>?_) (λa=>?_)
 .refine go 8 ?_;exact Yp d () results213 (Yet a) aA Za
 .refine go 7<|Pe J (λc=>?_) (λc=>?_)
  .refine go 8 ?_;exact Yp d () results213 (Yh9 hs c a) aA Za
  .refine go 9 ?_;exact Yp d () results213 (Yh8 hs c a) aA Za
theorem Zg5{y:Int}(hs:sg s x)(g:sg t y)(i:bl x.natAbs<=4294967296:=by omega)(j:bl y.natAbs<=4294967296:=by omega):Cal prog 211 #[.agg #[.bool s,v],.agg #[.bool t,w]] [Dj v x.natAbs,Dj w y.natAbs] true (G:=Bool×Value) (λr=>sg r.1 (x+y)) (λr=> .agg #[.bool r.1,r.2]) (λr=>[Dj r.2 (x+y).natAbs]):=by
 refine Zg func211 ntmps211 λu q p f=>go 2 ?_;refine Yj (Yg 3) λb _=>Yj (Yg 4) λl _=>Yj (Yd 5) λm _=>go 14<|Pe J (λd=>?_) (λd=>?_)
 .have c:s=t:=by simpa using d
  refine go 1<|Qa (λ_=>False) [(0,0),(1,0),(2,0),(3,0),(4,0),(5,0),(6,1),(7,0),(8,3)]<|go 6<|Yq (Zo 6 [1,2] (Ybv i j)) λv _=>?_;refine Yz J J (Xn (Qe [(0,_),(1,_)] J K4 (λa w hs=>Kz ((Zk J) a w hs) ((Pj 6 J Zl) a w hs))))<|go 6 ?_;exact Yp f (_,_) results211 J (Yap hs (c▸g)) (Pb 6 Za (by rw [Zh8 hs (c▸g)]))
 .have c:s≠t:=by simpa using d
  refine go 6 ?_;refine cl 6 [1,2] (Zde i j) λr k=>go 4<|Ze J (λh=>?_) (λh=>?_)
  .have e:y.natAbs<=x.natAbs:=by have:=k.1;omega
   refine go 1<|Qa (λ_=>False) [(0,0),(1,0),(2,0),(3,0),(4,0),(5,0),(6,1),(7,0),(8,3)]<|go 6<|Yq (Zo 7 [1,2] (Zg6 i)) λn _=>?_;refine Yz J J (Xn (Qe [(0,_),(1,_)] J K4 (λa w hs=>Kz ((Zk J) a w hs) ((Pj 7 J Zl) a w hs))))<|go 6 ?_;exact Yp f (_,_) results211 J (Zke hs g c e) (Pb 7 Za (by rw [Zbv hs g c e]))
  .have e:x.natAbs<=y.natAbs:=by have:=k.1;omega
   refine go 4<|Qa (λ_=>False) [(0,0),(1,0),(2,0),(3,0),(4,0),(5,0),(6,1),(7,0),(8,3)]<|go 6<|Yq (Zo 8 [2,1] (Zg6 j)) λo _=>?_;refine Yz J J (Xn (Qe [(0,_),(1,_)] J K4 (λa w hs=>Kz ((Zk J) a w hs) ((Pj 8 J Zl) a w hs))))<|go 4 ?_;exact Yp f (_,_) results211 J (by rw [iC];exact Zke g hs (fB c) e) (Pb 8 Za (by rw [iC,Zbv g hs (fB c) e]))
theorem Nl(hs:sg s x)(e:bl x.natAbs<=4294967296:=by omega):Cal prog 153 #[.agg #[.bool s,.string (Qy x.natAbs)]] [] true (G:=Bool×Value) (λr=>sg r.1 x) (λr=> .agg #[.bool r.1,r.2]) (λr=>[Dj r.2 x.natAbs]):=by refine Zg func153 ntmps153 λh g f c=>go 2 ?_;refine Yj (Yg 1) λb _=>Yj (Yd 2) λd _=>go 3<|Qa (λ_=>False) [(0,0),(1,0),(2,0),(3,0),(4,1),(5,0),(6,3)]<|go 4<|Yq (Zo 3 [] (Zd2 e)) λv _=>?_;refine Yz J J (Xn (Qe [(0,_),(1,_)] J K4 (λa w hs=>Kz ((Zk J) a w hs) ((Pj 3 J Zl) a w hs))))<|go 4 ?_;exact Yp c (_,_) results153 J hs (Pb 3 Za J)
theorem Ge(hs:sg s x)(g:bl x.natAbs<=4294967296:=by omega):Xp prog 148 #[.agg #[.bool s,v]] [Dj v x.natAbs] (Zex x):=by
 refine Zg func148 ntmps148 λi h f d=>go 2 ?_;refine Yj (Yg 2) λb _=>Yj (Yd 3) λe _=>go 8 ?_;refine cl 3 [1] Zmt λ_ _=>go 3<|Ze J (λc=>?_) (λc=>?_)
 .refine go 2 ?_;refine dt (Qe [] J aA (λa w hs=>Yog))<|go 6 ?_;exact Nd d () results148 (Yef c) aA Za
 .refine go 3 ?_;cases s
  .refine Qa (λ_=>False) [(0,0),(1,0),(2,0),(3,2),(4,2),(5,2),(6,2),(7,0),(8,0),(9,0),(10,1),(11,0),(12,3),(13,3)]<|go 10<|Yq (Zo 3 [1] Zps) λ_ _=>?_;refine Yz J J (Xn (Qe [(0,_),(1,_)] J K4 (λa w hs=>Ztg ((Zk J) a w hs) ((Zk J) a w hs))))<|go 5 ?_;exact Nd d () results148 (by first|exact Ztp hs c|exact Zto hs c) aA Za
  .refine Qa (λ_=>False) [(0,0),(1,0),(2,0),(3,0),(4,0),(5,0),(6,0),(7,0),(8,0),(9,0),(10,1),(11,0),(12,3),(13,3)]<|go 10<|Yq (Zo 3 [1] Zps) λ_ _=>?_;refine Yz J J (Xn (Qe [(0,_),(1,_)] J K4 (λa w hs=>Ztg ((Zk J) a w hs) ((Zk J) a w hs))))<|go 5 ?_;exact Nd d () results148 (by first|exact Ztp hs c|exact Zto hs c) aA Za
theorem Zg4(x y:Int)(hs:sg s x)(m:sg t y)(M:bl y.natAbs<=3000000000)(i:y≠0)(I:bl x.natAbs<=3000000000:=by omega):Cal prog 225 #[.agg #[.bool s,v],.agg #[.bool t,w]] [Dj v x.natAbs,Dj w y.natAbs] true (G:=Bool×Value×Value) (λr=>sg r.1 (x/y)) (λr=> .tuple #[.agg #[.bool r.1,r.2.1],.agg #[.bool false,r.2.2]]) (λr=>[Dj r.2.1 (x/y).natAbs,Dj r.2.2 (x%y).natAbs]):=by
 refine Zg func225 ntmps225 λP N z f=>?_;have F:=Mo x.natAbs;have H:=Mo y.natAbs;have j:0<y.natAbs:=O;have l:x.natAbs%y.natAbs<y.natAbs:=bG _ j;have u:=Oh (dC l);have q:=Oh (dL x.natAbs y.natAbs);refine go 2<|Yj (Yg 3) λb _=>Yj (Yg 4) λn _=>Yj (Yd 5) λo _=>Yj (Yd 6) λp _=>go 8 ?_;refine cl 7 [1,2] (Ybu O O j) λg _=>go 13<|Ly 18 J (λe=>?_) (λe=>?_)
 .refine go 6<|Ze J (λc=>?_) (λc=>?_)
  .subst e;have k:0<x.natAbs%y.natAbs:=by rcases bD (x.natAbs%y.natAbs)with h|h;(rw [h]at c;simp [Gv]at c);exact h
   have d:=divA hs m i k;refine Qa (λ_=>False) [(0,0),(3,0),(4,0),(5,0),(1,1),(2,1),(6,1),(7,0),(8,3)]<|go 4 ?_;refine Kd J (Xc [(0,_)] 9 (enc:=My) (dg U 1) J J K2 Oi ti222 J J J J J pU.cells J J z.h) λv _=>Yq (Zo 10 [7,9] (Ybv O (show bl 1<=4294967296 by decide))) λB _=>Yq (Zo 11 [2,8] (Zg6 O)) λD _=>go 12 ?_;refine dt (Qe [(0,_),(1,_)] J K4 (λa w hs=>Kz ((Zk J) a w hs) ((Pj 10 J Zl) a w hs)))<|go 1 ?_;refine dt (Qe [(0,_),(1,_)] J K4 (λa w hs=>Kz ((Zk J) a w hs) ((Pj 11 J Zl) a w hs)))<|go 5 ?_;exact Nd f (_,_,_) results225 J d.1 (Pb 10 (Pb 11 Za (by rw [d.2.2]<;>rfl)) (by rw [d.2.1]<;>rfl))
  .have d:=divB hs m i (.inr ((Ok Qc _).1 O));refine go 10 ?_;refine dt (Qe [(0,_),(1,_)] J K4 (λa w hs=>Kz ((Zk J) a w hs) ((Pj 7 J Zl) a w hs)))<|go 1 ?_;refine dt (Qe [(0,_),(1,_)] J K4 (λa w hs=>Kz ((Zk J) a w hs) ((Pj 8 J Zl) a w hs)))<|go 5 ?_;exact Nd f (_,_,_) results225 J d.1 (Pb 7 (Pb 8 Za (by rw [d.2.2]<;>rfl)) (by rw [d.2.1]<;>rfl))
 .have d:=divB hs m i (.inl e);refine go 17 ?_;refine dt (Qe [(0,_),(1,_)] J K4 (λa w hs=>Kz ((Zk J) a w hs) ((Pj 7 J Zl) a w hs)))<|go 1 ?_;refine dt (Qe [(0,_),(1,_)] J K4 (λa w hs=>Kz ((Zk J) a w hs) ((Pj 8 J Zl) a w hs)))<|go 5 ?_;exact Nd f (_,_,_) results225 J d.1 (Pb 7 (Pb 8 Za (by rw [d.2.2]<;>rfl)) (by rw [d.2.1]<;>rfl))
variable {P:Program} {N:Nat} {sc:Nat->Prop} {M:Nat->Prop} {env:Px} {H:Hp} {Q:Exit->Act->World->Prop}
structure BAct (i:Nat) (A:Prop):Prop where h:A
def bq(i:Nat){A:Prop}(h:A):BAct i A:=⟨h⟩
theorem Yed {l:List Oper}  {n:Nat}  (i k:Nat) (a:(Region.noSelect l.toArray && Ew l.toArray ts [(i,k)] listed)=true)
  (h:LD P N sc M l.toArray (A P N sc M l.toArray ts Q n (Cu [(i,k)] listed)) [(i,k)] env H):A P N sc M l.toArray ts Q (n+1) listed env H:=
 Zi _ [(i,k)] h (by rw [a,lT];show Nat.beq (1+n) (n+1)=true;rw [fY];exact Nat.beq_refl _)
theorem Ygq    {n:Nat} (i:Nat) (c:((Region.ready .any ops listed == [i]) && !(Dr ops ts listed) && !([i]:List Nat).isEmpty)=true)
  (a:BAct i (Zf6 P N sc M ops ts Q n listed env H i)):A P N sc M ops ts Q (n+1) listed env H:=Yos [i] c λq b=>by
 rw [cF.1 b];exact a.h
theorem Zz2    {n:Nat} (i j:Nat) (d:((Region.ready .any ops listed == [i,j]) && !(Dr ops ts listed) && !([i,j]:List Nat).isEmpty)=true)
  (b:BAct i (Zf6 P N sc M ops ts Q n listed env H i)) (c:BAct j (Zf6 P N sc M ops ts Q n listed env H j)):A P N sc M ops ts Q (n+1) listed env H:=Yos [i,j] d λq a=>by
 simp only [bI,dA,fL]at a;rcases a with rfl|rfl
 .exact b.h
 .exact c.h
theorem a_b3    {n:Nat} (i j k:Nat) (e:((Region.ready .any ops listed == [i,j,k]) && !(Dr ops ts listed) && !([i,j,k]:List Nat).isEmpty)=true)
  (b:BAct i (Zf6 P N sc M ops ts Q n listed env H i)) (c:BAct j (Zf6 P N sc M ops ts Q n listed env H j)) (d:BAct k (Zf6 P N sc M ops ts Q n listed env H k)):A P N sc M ops ts Q (n+1) listed env H:=Yos [i,j,k] e λq a=>by
 simp only [bI,dA,fL]at a;rcases a with rfl|rfl|rfl
 .exact b.h
 .exact c.h
 .exact d.h
end Go.Sky
namespace Go.Sky
open Go.Proofs.Tryz
open Go.Proofs
set_option synthInstance.maxHeartbeats 0
set_option synthInstance.maxSize 100000
set_option maxRecDepth 20000
set_option linter.unusedSimpArgs false
variable{b:Bool}{x y:Int}{t:TypeId}{v u:Value}{xs ys:List Int}{bd:Nat}
theorem Zby{s:ByteArray}:Xp prog 152 #[.agg #[.bool b,.string s]] [] (.bool (okW b s)):=by
 refine Zg func152 ntmps152 λg f e c=>go 2 ?_;refine Yj (Yg 1) λb _=>go 8 ?_;refine dt (Zzf J J J J)<|go 2 ?_;refine Ze J (λa=>?_) (λa=>?_)
 .refine go 10 ?_;exact Yp c () results152 (by unfold okW;rw [aP a]) aA Za
 .refine go 6 ?_;refine dt (Yc5 (i:=0) J J J uT9 J O)<|go 2 ?_;refine Zy 13 J (λd=>?_) (λd=>?_)
  .refine go 9 ?_;exact Yp c () results152 (by unfold okW;rw [aJ a];simp_all<;>omega) aA Za
  .refine go 9 ?_;exact Yp c () results152 (by unfold okW;rw [aJ a];simp_all<;>omega) aA Za
def Kn(a:bl x.natAbs<=65536):Cal prog 152 #[wv x] [] false (G:=Unit) (λ_=>True) (λ_=> .bool true) (λ_=>[]):=Zft a▸Zby
theorem Zor(b:Bool)(s:ByteArray)(c:Bool)(t:ByteArray):Xp prog 210 #[.agg #[.bool b,.string s],.agg #[.bool c,.string t]] [] (.bool (okW b s && okW c t)):=by
 refine Zg func210 ntmps210 λh g f a=>go 2 ?_;refine Yj (Yg 1) λb _=>Yj (Yg 2) λe _=>go 6 ?_;refine cl 2 [] Zby λ_ _=>go 1<|Ly 7 J (λd=>?_) (λd=>?_)
 .refine go 1 ?_;refine Gi 2 [] Zby λ_ _=>go 5 ?_;exact Yp a () results210 O10 aA Za
 .refine go 7 ?_;exact Yp a () results210 O10 aA Za
theorem Ir(a:bl x.natAbs<=65536)(c:bl y.natAbs<=65536):Xp prog 210 #[wv x,wv y] [] (.bool true):=by have h:=Zor (decide (x<0)) (Qy x.natAbs) (decide (y<0)) (Qy y.natAbs);rw [Zft a,Zft c]at h;exact h
theorem Hj(e:bl x.natAbs<=65536):Xp prog 216 #[wv x] [] (.int .i64 x.sign):=by refine Zg func216 ntmps216 λh f d a=>go 2 ?_;refine Yj (Yg 1) λb _=>go 7 ?_;refine cl 1 [] (Kn ‹_›) λ_ _=>go 9 ?_;refine cl 2 [] (Nl (Qs _)) λg c=>cl 2 [2] (Zmq ‹_›) λ_ _=>go 4 ?_;exact Yp a () results216 J aA Za
theorem Zle(d:bl x.natAbs<=65536):Xp prog 281 #[wv x] [] (.int .i64 (bl x.natAbs:Int)):=by refine Zg func281 ntmps281 λf e c a=>go 2 ?_;refine Yj (Yg 1) λb _=>go 7 ?_;refine cl 1 [] (Kn ‹_›) λ_ _=>go 10 ?_;refine cl 2 [] Zd2 λv _=>cl 2 [2] Zmt λ_ _=>go 4 ?_;exact Yp a () results281 J aA Za
theorem Ztt(m:bl x.natAbs<=65536)(n:bl y.natAbs<=65536):Xp prog 155 #[wv x,wv y] [] (Zex (x+y)):=by refine Zg func155 ntmps155 λp o l a=>?_;have j:=He x y;refine go 2<|Yj (Yg 1) λb _=>Yj (Yg 2) λe _=>Yj (Yd 3) λf _=>go 8 ?_;refine cl 3 [] (Ir ‹_› ‹_›) λ_ _=>go 7<|Qa (λ_=>False) [(0,0),(2,0),(1,1),(3,1),(4,1),(5,1),(6,0),(7,0),(8,3),(9,3)]<|go 2<|Yq (Zo 4 [] (Nl (Qs _))) λg k=>Yq (Zo 5 [] (Nl (Qs _))) λh c=>Yq (Zo 6 [4,5] (Zg5 ‹_› ‹_›)) λi d=>Yq (Zo 6 [6] (Ge ‹_›)) λ_ _=>go 7 ?_;exact Nd a () results155 J aA Za
theorem Ygv(p:bl x.natAbs<=65536)(q:bl y.natAbs<=65536):Xp prog 396 #[wv x,wv y] [] (Zex (x-y)):=by refine Zg func396 ntmps396 λs r o a=>?_;have m:=Ad x y;have l:=Zn6 y;refine go 2<|Yj (Yg 1) λb _=>Yj (Yg 2) λf _=>Yj (Yd 3) λh _=>go 8 ?_;refine cl 3 [] (Ir ‹_› ‹_›) λ_ _=>go 7<|Qa (λ_=>False) [(0,0),(2,0),(1,1),(3,1),(4,1),(5,1),(6,1),(7,0),(8,0),(9,3),(10,3)]<|go 2<|Yq (Zo 4 [] (Nl (Qs _))) λg n=>Yq (Zo 5 [] (Nl (Qs _))) λi c=>Yq (Zo 6 [5] (Zrn ‹_›)) λj d=>Yq (Zo 7 [4,6] (Zg5 ‹_› ‹_›)) λk e=>Yq (Zo 7 [7] (Ge ‹_› (by rw [<-eO];omega))) λ_ _=>go 7 ?_;exact Nd a () results396 (by rw [eO]<;>rfl) aA Za
theorem Ztq(m:bl x.natAbs<=65536)(n:bl y.natAbs<=65536):Xp prog 283 #[wv x,wv y] [] (Zex (x*y)):=by refine Zg func283 ntmps283 λp o l a=>?_;have j:=Yu x y;refine go 2<|Yj (Yg 1) λb _=>Yj (Yg 2) λe _=>Yj (Yd 3) λf _=>go 8 ?_;refine cl 3 [] (Ir ‹_› ‹_›) λ_ _=>go 7<|Qa (λ_=>False) [(0,0),(2,0),(1,1),(3,1),(4,1),(5,1),(6,0),(7,0),(8,3),(9,3)]<|go 2<|Yq (Zo 4 [] (Nl (Qs _))) λg k=>Yq (Zo 5 [] (Nl (Qs _))) λh c=>Yq (Zo 6 [4,5] (Zeg ‹_› ‹_›)) λi d=>Yq (Zo 6 [6] (Ge ‹_›)) λ_ _=>go 7 ?_;exact Nd a () results283 J aA Za
theorem Zts(x y:Int)(j:bl x.natAbs<=65536)(k:bl y.natAbs<=65536):Xp prog 209 #[wv x,wv y] [] (Zex (Int.gcd x y:Int)):=by refine Zg func209 ntmps209 λm l i c=>?_;have h:=Ztc x.natAbs y.natAbs;refine go 2<|Yj (Yg 1) λb _=>Yj (Yg 2) λd _=>Yj (Yd 3) λe _=>go 8 ?_;refine cl 3 [] (Ir ‹_› ‹_›) λ_ _=>go 7<|Qa (λ_=>False) [(0,0),(1,0),(3,0),(4,0),(2,1),(5,1),(6,1),(7,0),(8,1),(9,0),(10,0),(11,3),(12,3)]<|go 4<|Yq (Zo 4 [] Zd2) λv _=>Yq (Zo 5 [] Zd2) λf _=>Yq (Zo 6 [4,5] Zrr) λg _=>?_;refine Yz J J (Xn (Qe [(0,_),(1,_)] J K4 (λa w hs=>Kz ((Zk J) a w hs) ((Pj 6 J Zl) a w hs))))<|Yq (Zo 6 [6] (Ge (s:=false) (x:=(Int.gcd x y:Int)) (by simp [sg]) (by show bl (Nat.gcd x.natAbs y.natAbs)<=_;omega))) λ_ _=>go 7 ?_;exact Nd c () results209 J aA Za
theorem Ak(H:bl x.natAbs<=65536)(I:bl y.natAbs<=65536)(c:y≠0):Xp prog 154 #[wv x,wv y] [] (.tuple #[wv (Zbr (x/y)),wv (Zbr (x%y)),.int .i64 0]):=by
 refine Zg func154 ntmps154 λQ P w d=>?_;have D:=Zld x y;have o:=Ztb x y c;refine go 2<|Yj (Yg 1) λb _=>Yj (Yg 2) λh _=>Yj (Yd 3) λi _=>Yj (Yd 4) λj _=>go 8 ?_;refine cl 4 [] (Ir ‹_› ‹_›) λ_ _=>go 11 ?_;refine dt (Zzf J J J J)<|go 2 ?_;refine Ze J (λa=>?_) (λa=>?_)
 .rw [Ei]at a;exfalso;exact c (by have:=(Ok (by omega:2<=256) y.natAbs).1 a;omega)
 .refine go 2 ?_;refine jn (G:=Bool×Value×Value×Nat×Nat) [4,5] [0,1,2,3,4] (λq=>[(7,.pointer (some ⟨q.2.2.2.1,0,none⟩)),(8,.pointer (some ⟨q.2.2.2.2,0,none⟩))]) (λq=>[(84,Dj q.2.1 (x/y).natAbs),(85,Dj q.2.2.1 (x%y).natAbs),(86,box q.2.2.2.1 228 #[.bool q.1,q.2.1]),(87,box q.2.2.2.2 228 #[.bool false,q.2.2.1])]) (λq=>sg q.1 (x/y)) ?_ ?_
  .refine Qw [1,2] [11]<|Zi 10 [(0,0),(2,0)]<|go 3 ?_
   repeat' first|refine bq 1 ?_;refine Na (Zo 81 [] (Nl (Qs _))) λg F=>?_|refine bq 3 ?_;refine Na (Zo 82 [] (Nl (Qs _))) λm e=>?_|refine bq 4 ?_;refine Na (Zo 84 [81,82] (Zg4 _ _ ‹_› ‹_› O c)) λn f=>?_|refine bq 8 ?_;refine Na (Qf 86) λk p=>?_|refine bq 9 ?_;refine Na (Qf 87) λl r=>?_|refine bq 10 ?_;refine Kh rfl rfl (Zo1 86 rfl rfl rfl rfl rfl rfl sizeOf228 rfl rfl ⟨Zk rfl,Pj 84 rfl Zl,aA⟩ rfl w.h p.h) (λ_ _=>?_)|refine a_b3 1 8 9 O7 ?_ ?_ ?_|refine Zz2 1 8 O7 ?_ ?_|refine Ygq 1 O7 ?_|refine Ygq 3 O7 ?_|refine Ygq 4 O7 ?_|refine Ygq 10 O7 ?_|refine Zz2 3 8 O7 ?_ ?_|refine Zz2 4 8 O7 ?_ ?_|refine Ygq 8 O7 ?_|refine Zz2 1 9 O7 ?_ ?_|refine Zz2 3 9 O7 ?_ ?_|refine Zz2 4 9 O7 ?_ ?_|refine Ygq 9 O7 ?_|refine a_b3 3 8 9 O7 ?_ ?_ ?_|refine a_b3 4 8 9 O7 ?_ ?_ ?_|refine Zz2 8 9 O7 ?_ ?_|refine Yed 5 0 O7 ?_;refine go 2 ?_|refine Yed 6 0 O7 ?_;refine go 2 ?_|refine Yed 7 0 O7 ?_;refine go 2 ?_|refine Yed 11 3 O7 ?_;refine go 2 ?_|refine Zu ?_ O7;exact Od (_,_,_,_,_) ‹_› ⟨rfl,rfl,aA⟩ ⟨rfl,rfl,rfl,rfl,aA⟩
  .rintro⟨M,qv,N,z,B⟩ s;dsimp only at s;dsimp only;refine go 3 ?_;refine cl 4 [84] (Ge ‹_›) λ_ _=>go 9 ?_;refine cl 4 [85] (Ge (Yp1 x c)) λ_ _=>go 7<|Qw [4] [3,4] ?_;refine Zi 0 [(1,0),(0,1),(2,1),(3,3),(4,3)]<|go 6 ?_;exact Zu<|go 2<|xe3 d () results154 J aA Za
theorem Zcy{s t:Bool}{w:Value}(hs:sg s x)(m:sg t y)(k:y≠0)(Y:bl x.natAbs<=1000000000:=by omega)(Z:bl y.natAbs<=1000000000:=by omega):Xp prog 365 #[.agg #[.bool s,v],.agg #[.bool t,w]] [Dj v x.natAbs,Dj w y.natAbs] (Zb5 x y):=by
 refine Zg func365 ntmps365 λw0 sc W c=>?_;have S:=Ztc x.natAbs y.natAbs;have e:Kl x y≠0:=Yro k;have h:sg t (Kl x y):=Ypz m k;have f:=Zhb x y;have P:=Zld x (Kl x y);have Q:=Zld y (Kl x y);refine go 2<|Yj (Yg 3) λb _=>Yj (Yg 4) λq _=>Yj (Yd 5) λr _=>go 4<|Lk (λ_=>False) [9] ?_;refine Zi 4 [(0,0),(1,0),(2,0),(3,0),(4,0),(5,0)]<|go 7 ?_;refine Pa 3 6 8 ?_ ?_
 .refine Na (Zo 81 [1,2] Zrr) λv _=>?_;refine Zi 0 [(7,0),(8,1),(9,3)]<|Yz J J (Xn (Qe [(0,_),(1,_)] J K4 (λa w hs=>Kz ((Zk J) a w hs) ((Pj 81 J Zl) a w hs))))<|Yq (Yd 82) λz _=>go 2 ?_;refine Zu<|go 2<|Zf (Oy 81 (Yb3 x y) J J)<|go 3 ?_;refine cl 6 [1,81] (Zg4 x (Kl x y) hs h (by rw [f];omega) e) λg V=>go 10 ?_;refine cl 8 [2,81] (Zg4 y (Kl x y) m h (by rw [f];omega) e) λI n=>go 9 ?_;refine cl 9 [6] (Ge ‹_›) λ_ _=>go 3<|Yj (Yd 10) λB _=>go 7 ?_;refine cl 10 [8] (Ge ‹_›) λ_ _=>go 3<|Yj (Yd 11) λD _=>go 10<|Zy 43 J (λl=>?_) (λl=>?_)
  .refine go 8 ?_;refine dt (Qe [] J aA (λa w hs=>Zxh))<|go 6 ?_;exact Nd c () results365 (Zb4 (by unfold Hh;first|exact .inl (Zas ‹_›)|exact .inr (Zas ‹_›))) aA Za
  .refine go 5<|Ze J (λj=>?_) (λj=>?_)
   .refine go 2 ?_;refine dt (Qe [] J aA (λa w hs=>Zxh))<|go 6 ?_;exact Nd c () results365 (Zb4 (by unfold Hh;first|exact .inl (Zas ‹_›)|exact .inr (Zas ‹_›))) aA Za
   .refine go 6 ?_;refine dt (Qe [(0,_),(1,_)] J K4 (λa w hs=>Zh4))<|go 5 ?_;exact Nd c () results365 (Zuy (bM ‹_›) (bM ‹_›)) aA Za
 .refine Na (Yd 82) λF _=>?_;refine Zi 0 [(6,1),(7,0),(9,3)]<|Yq (Zo 81 [1,2] Zrr) λR _=>?_;refine Yz J J (Xn (Qe [(0,_),(1,_)] J K4 (λa w hs=>Kz ((Zk J) a w hs) ((Pj 81 J Zl) a w hs))))<|go 2 ?_;refine Zu<|go 2<|Zf (Oy 81 (Yb3 x y) J J)<|go 3 ?_;refine cl 12 [1,81] (Zg4 x (Kl x y) hs h (by rw [f];omega) e) λM o=>go 10 ?_;refine cl 14 [2,81] (Zg4 y (Kl x y) m h (by rw [f];omega) e) λN p=>go 9 ?_;refine cl 15 [12] (Ge ‹_›) λ_ _=>go 3<|Yj (Yd 16) λG _=>go 7 ?_;refine cl 16 [14] (Ge ‹_›) λ_ _=>go 3<|Yj (Yd 17) λH _=>go 10<|Zy 43 J (λi=>?_) (λi=>?_)
  .refine go 8 ?_;refine dt (Qe [] J aA (λa w hs=>Zxh))<|go 6 ?_;exact Nd c () results365 (Zb4 (by unfold Hh;first|exact .inl (Zas ‹_›)|exact .inr (Zas ‹_›))) aA Za
  .refine go 5<|Ze J (λd=>?_) (λd=>?_)
   .refine go 2 ?_;refine dt (Qe [] J aA (λa w hs=>Zxh))<|go 6 ?_;exact Nd c () results365 (Zb4 (by unfold Hh;first|exact .inl (Zas ‹_›)|exact .inr (Zas ‹_›))) aA Za
   .refine go 6 ?_;refine dt (Qe [(0,_),(1,_)] J K4 (λa w hs=>Zh4))<|go 5 ?_;exact Nd c () results365 (Zuy (bM ‹_›) (bM ‹_›)) aA Za
theorem Zfg(l:bl x.natAbs<=65536)(m:bl y.natAbs<=65536)(c:y≠0:=by omega):Xp prog 312 #[wv x,wv y] [] (Zb5 x y):=by
 refine Zg func312 ntmps312 λo n k d=>go 2 ?_;refine Yj (Yg 1) λb _=>Yj (Yg 2) λf _=>Yj (Yd 3) λh _=>go 8 ?_;refine cl 3 [] (Ir ‹_› ‹_›) λ_ _=>go 11 ?_;refine dt (Zzf J J J J)<|go 2 ?_;refine Ze J (λa=>?_) (λa=>?_)
 .rw [Ei]at a;exfalso;exact c (by have:=(Ok (by omega:2<=256) y.natAbs).1 a;omega)
 .refine go 3<|Qa (λ_=>False) [(0,0),(2,0),(1,1),(3,1),(4,1),(5,0),(6,0),(7,3),(8,3)]<|go 2<|Yq (Zo 4 [] (Nl (Qs _))) λg j=>Yq (Zo 5 [] (Nl (Qs _))) λi e=>Yq (Zo 5 [4,5] (Zcy ‹_› ‹_› c)) λ_ _=>go 7 ?_;exact Nd d () results312 J aA Za
theorem Zj1{s:ByteArray}{c:Bool}{t:ByteArray}:Xp prog 305 #[.agg #[.bool b,.string s,.bool c,.string t]] [] (.bool (okR b s c t)):=by
 refine Zg func305 ntmps305 λl k j g=>go 2 ?_;refine Yj (Yg 1) λb _=>go 9 ?_;refine cl 1 [] (Zor _ _ _ _) λ_ _=>go 1<|Ly 8 J (λh=>?_) (λh=>?_)
 .have i:okW c t=true:=O10;have d:=Zrk i;obtain⟨a,e,f⟩:=Classical.choose_spec d;generalize Classical.choose d=z at a e f ⊢;subst e;subst f
  try clear d
  refine go 2 ?_;refine Gi 1 [] (Hj (x:=z) a) λ_ _=>go 6 ?_;exact Yp g () results305 (by first|rw [Zvj O10 a]|(unfold okR;simp_all)) aA Za
 .refine go 9 ?_;exact Yp g () results305 (by first|rw [Zvj O10 a]|(unfold okR;simp_all)) aA Za
def Lt(c:bl x.natAbs<=65536)(d:bl y.natAbs<=65536)(a:0<y):Cal prog 305 #[rX x y] [] false (G:=Unit) (λ_=>True) (λ_=> .bool true) (λ_=>[]):=okR_wv c d a▸Zj1
theorem Ya(x:Int)(f:Lo x:=by exact⟨O,O⟩):Xp prog 80 #[.int .i64 x] [] (wv x):=by
 refine Zg func80 ntmps80 λm l h e=>?_;have i:=f.1;have j:=f.2;have d:x.natAbs<U:=by simp only [U];omega
 have k:bl x.natAbs<=64:=(Qo 64 _).2 (by rw [<-Yot];exact d);refine go 2<|Yj (Yd 1) λb _=>go 5 ?_;refine dt (Ysz (r:=x%18446744073709551616) J J uT3 Za8 J)<|go 3 ?_;refine jn (G:=Unit) [0,2] [0,1] (λ_=>[(3,.int .u64 ((x.natAbs:Nat):Int))]) (λ_=>[]) (λ_=>True) ?_ ?_
 .refine go 6<|Ze J (λc=>?_) (λc=>?_)
  .refine go 2 ?_;refine dt (Yg3 x.natAbs J J O)<|go 2 ?_;exact Od () aA ⟨by first|rfl|(rw [show x%18446744073709551616=((x.natAbs:Nat):Int) by omega];rfl),aA⟩ aA
  .refine go 1 ?_;exact Od () aA ⟨by first|rfl|(rw [show x%18446744073709551616=((x.natAbs:Nat):Int) by omega];rfl),aA⟩ aA
 .rintro _ -;refine go 5 ?_;refine tt (Xc [(0,_)] 2 (enc:=My) [x.natAbs] J J K2 Oi ti222 J J J J J pU.cells J J h.h) J λv _=>cl 2 [2] Oo λ_ _=>?_;refine Yk (Zbc 2 J J pU)<|Yk (Ze1 2 (Zid d) J J)<|dt (Qe [(0,_),(1,_)] J K4 (λa w hs=>Kz ((Zk J) a w hs) ((Pj 2 J (Yb pU)) a w hs)))<|cl 2 [2] (Ge (x:=x) (Qs _)) λ_ _=>go 3 ?_;refine Yj (Yd 3) λg _=>go 11 ?_;exact Yp e () results80 (by rw [Ht O]<;>rfl) aA Za
theorem Zee(hs:Sz 65536 xs):Cal prog 214 #[v] [Yl 2 wv v xs] true (G:=Unit) (λ_=>True) (λ_=>Kp v (tzl xs).length) (λ_=>[Yl 2 wv (Kp v (tzl xs).length) (tzl xs)]):=by
 refine Zg func214 ntmps214 λp o n d=>?_;refine Xz (Zy6 (i:=1) J Zl) (λa=>?_);refine Xz (Oa (i:=1) J Zl) λm=>go 7 ?_;refine lp (G:=Nat) [] [0] (λk=>[(0,Kp v k)]) (λk=>[(1,Yl 2 wv (Kp v k) (xs.take k))]) (λk=>(k<=xs.length)/\(tzl (xs.take k)=tzl xs)) (λk=>k) xs.length ⟨aF _,by rw [bS]⟩ ⟨by rw [a];rfl,aA⟩ ⟨by rw [a,bS];rfl,aA⟩ ?_;rintro k ⟨h,j⟩;have f:(xs.take k).length=k:=by rw [cQ];omega
 refine go 7<|Zy 6 J (λl=>?_) (λl=>?_)
 .refine go 4 ⟨O,?_⟩;refine Di (Zs 1 (k-1) J J J J Zl Pw Ov) J J<|go 1 ⟨O,?_⟩;refine Gi 1 [] (Hj ((hs.take _).getD _)) λ_ _=>go 4<|Ze J (λg=>?_) (λg=>?_)
  .have c:=Zty h O (Zlq k O (dO.1 ‹_›):cf xs (k-1)=0);refine go 8 ⟨O,?_⟩;refine dt (Zwy 1 (k-1) J J J J Zl Pw Ov)<|go 3 ?_;exact Zn (Yio 1 1 (k-1) J J)<|Ye (k-1) ⟨O1,by rw [<-j,<-c]⟩ O1 ⟨by rw [<-Ea v k (k-1)];rfl,aA⟩ ⟨by rw [Ea,gX,dK O];rfl,aA⟩
  .refine go 12 ?_;have e:tzl xs=xs.take k:=by rw [<-j];exact Zgd h (by first|(left;omega)|(right;exact Zgh k O ‹_›))
   exact Yp d () results214 (by rw [e,f]) aA (Pb 1 Za (by rw [e,f]))
 .refine go 24 ?_;have e:tzl xs=xs.take k:=by rw [<-j];exact Zgd h (by first|(left;omega)|(right;exact Zgh k O ‹_›))
  exact Yp d () results214 (by rw [e,f]) aA (Pb 1 Za (by rw [e,f]))
theorem Zyj(v:Value)(r:List (Bool×ByteArray)):Xp prog 215 #[v] [Yl 2 Ysh v r] (.bool (okP r)):=by
 refine Zg func215 ntmps215 λz s p a=>?_;refine Xz (Oa (i:=1) J Zl) λg=>go 14 ?_;refine lp (G:=Nat) [0,5,6] [0,1] (λk=>[(7,.int .i64 (k:Int))]) (λk=>[]) (λk=>(k<=r.length)/\((r.take k).all (λw=>okW w.1 w.2)=true)) (λk=>r.length-k) 0 ⟨O1,O5⟩ K1 aA ?_;rintro k ⟨o,l⟩;refine go 6<|Ze J (λj=>?_) (λj=>?_)
 .refine go 7 ⟨O2,?_⟩;refine dt (Yr 1 (false,⟨#[]⟩) J J J Zl pW O2)<|Yj (Yd 2) λb _=>go 6 ?_;refine cl 2 [] Zby λ_ _=>go 3<|Pe J (λf=>?_) (λf=>?_)
  .refine go 11 ?_;exact Yp a () results215 (by rw [Yq8 (Zd (i:=k) (d:=(false,⟨#[]⟩)) O) O10]) aA Za
  .refine go 7 ⟨O,?_⟩;exact Ye (k+1) ⟨O1,by rw [Qz (false,⟨#[]⟩) _ _ O,kU,l];simpa using f⟩ O1 K1 aA
 .refine go 6 ?_;obtain rfl:k=r.length:=O;rw [bS]at l;obtain⟨xs,c,rfl⟩:=Ykn (bK.1 l);have m:=Sz.of_mem c;rw [aW]at g;refine Zf (Zqs 1 (q:=Yl 2 wv v xs) J J (Ypv v xs) (λ_ h=>fpn h) J)<|go 5<|Zy 18 J (λn=>?_) (λn=>?_)
  .refine go 4<|Zy 22 J (λe=>?_) (λe=>?_)
   .refine go 14 ?_;exact Yp a () results215 (by rw [Zrl c];first|(simp_all;done)|(simp_all;omega)) aA Za
   .refine go 4 ⟨O,?_⟩;refine Di (Zs 1 (xs.length-1) J J J J Zl Pw Ov) J J<|go 1 ⟨O,?_⟩;refine Gi 2 [] (Hj (m.getD _)) λ_ _=>go 7 ?_;exact Yp a () results215 (by rw [Zrl c];first|(simp_all;done)|(simp_all;omega)) aA Za
  .refine go 18 ?_;exact Yp a () results215 (by rw [Zrl c];first|(simp_all;done)|(simp_all;omega)) aA Za
def Xt(h:Vp xs):Cal prog 215 #[v] [Yl 2 wv v xs] false (G:=Unit) (λ_=>True) (λ_=> .bool true) (λ_=>[]):=okP_wr h▸(Zyj v (xs.map wr)).imp (slp_wr v xs) (λ_ h=>fpm h)
theorem Mj(hs:Sz 65536 xs):Xp prog 217 #[v] [Yl 2 wv v xs] (.int .i64 (Xx xs:Int)):=by
 refine Zg func217 ntmps217 λh g f c=>?_;refine Xz (Oa (i:=1) J Zl) λd=>go 19 ?_;refine lp (G:=Nat) [6,7] [0,1] (λk=>[(8,.int .i64 (k:Int)),(3,.int .i64 (Xx (xs.take k):Int))]) (λk=>[]) (λk=>k<=xs.length) (λk=>xs.length-k) 0 O1 K2 aA ?_;rintro k e;refine go 6<|Ze J (λa=>?_) (λa=>?_)
 .refine go 8 ⟨O2,O2,?_⟩;refine Yj (Yd 2) λb _=>go 6 ?_;refine cl 2 [] (Zle (hs.getD _)) λ_ _=>?_;refine dt (Zcr J J J)<|go 8 ⟨O,?_⟩;exact Ye (k+1) O1 O1 ⟨J,by rw [Qz 0 _ _ O,Yk6];exact aD some (Zcg O),aA⟩ aA
 .refine go 12 ?_;exact Yp c () results217 (by rw [bR O]) aA Za
theorem Zsk{e f:Int}{n:Bool}{s:ByteArray}:Zd0 prog 282 #[.pointer (some ⟨bd,0,none⟩),.agg #[.bool n,.string s],.int .i64 f] [] false bd t #[.int .i64 e] (G:=Unit) (λ_=>True) (λ_=> .agg #[.bool n,.string s]) (λ_=>#[.int .i64 (if e=0 then f else e)]) (λ_=>[]):=by
 refine De func282 J ntmps282 J aA ?_;intro j i g c;have g:=Hw.mk g;simp only [Pv,Xk];refine go 2<|Yj (Yg 2) λb _=>Yj (Yd 3) λh _=>go 12<|Ze J (λd=>?_) (λd=>?_)
 .refine go 15 ?_;exact Dq (.inl J) c () (λa w hs=>Zeu hs results282 (Er 3 J J isAgg144 Ov J)) J aA 1 J (by simp_all [Fj]) J J Za
 .refine go 9 ?_;exact Dq (.inl J) c () (λa w hs=>Zeu hs results282 (Er 3 J J isAgg144 Ov J)) J aA 1 J (by simp_all [Fj]) J J Za
theorem d_mul_(bd:Nat)(e x y:Int)(h:bl x.natAbs<=65536)(i:bl y.natAbs<=65536):Zd0 prog 218 #[.pointer (some ⟨bd,0,none⟩),wv x,wv y] [] false bd 303 #[.int .i64 e] (G:=Unit) (λ_=>True) (λ_=>wv (Zbr (x*y))) (λ_=>#[.int .i64 (err e (x*y))]) (λ_=>[]):=by refine De func218 J ntmps218 J aA ?_;intro k j d c;have d:=Hw.mk d;simp only [Pv,Xk];refine go 2<|Yj (Yg 2) λb _=>Yj (Yg 3) λf _=>Yj (Yd 4) λg _=>go 3<|Qa (λx=>x=bd) [(0,0),(1,0),(2,0),(3,0),(4,0),(5,1),(6,0),(7,0),(8,1),(9,3)]<|go 5<|Yq (Zo 4 [] (Ztq ‹_› ‹_›)) λ_ _=>go 2 ?_;refine Kd J (Pd 4 1 Zsk J J J K3 call282 J O3 Zq J d.h J) λ_ _=>go 4 ?_;exact Dq (.inl J) c () (λa w hs=>Zeu hs results218 (Er 4 J J isAgg144 Ov J)) J aA 1 J J J J Za
theorem Ca(c:bl x.natAbs<=65536)(d:bl y.natAbs<=65536)(a:bl (x*y).natAbs<=65536):Zd0 prog 218 #[.pointer (some ⟨bd,0,none⟩),wv x,wv y] [] false bd 303 #[.int .i64 0] (G:=Unit) (λ_=>True) (λ_=>wv (x*y)) (λ_=>#[.int .i64 0]) (λ_=>[]):=by have h:=d_mul_ bd 0 x y c d;rw [Ht a,Zy9 a]at h;exact h
theorem d_add_(bd:Nat)(e x y:Int)(h:bl x.natAbs<=65536)(i:bl y.natAbs<=65536):Zd0 prog 219 #[.pointer (some ⟨bd,0,none⟩),wv x,wv y] [] false bd 303 #[.int .i64 e] (G:=Unit) (λ_=>True) (λ_=>wv (Zbr (x+y))) (λ_=>#[.int .i64 (err e (x+y))]) (λ_=>[]):=by refine De func219 J ntmps219 J aA ?_;intro k j d c;have d:=Hw.mk d;simp only [Pv,Xk];refine go 2<|Yj (Yg 2) λb _=>Yj (Yg 3) λf _=>Yj (Yd 4) λg _=>go 3<|Qa (λx=>x=bd) [(0,0),(1,0),(2,0),(3,0),(4,0),(5,1),(6,0),(7,0),(8,1),(9,3)]<|go 5<|Yq (Zo 4 [] (Ztt ‹_› ‹_›)) λ_ _=>go 2 ?_;refine Kd J (Pd 4 1 Zsk J J J K3 call282 J O3 Zq J d.h J) λ_ _=>go 4 ?_;exact Dq (.inl J) c () (λa w hs=>Zeu hs results219 (Er 4 J J isAgg144 Ov J)) J aA 1 J J J J Za
theorem Zno(c:bl x.natAbs<=65536)(d:bl y.natAbs<=65536)(a:bl (x+y).natAbs<=65536):Zd0 prog 219 #[.pointer (some ⟨bd,0,none⟩),wv x,wv y] [] false bd 303 #[.int .i64 0] (G:=Unit) (λ_=>True) (λ_=>wv (x+y)) (λ_=>#[.int .i64 0]) (λ_=>[]):=by have h:=d_add_ bd 0 x y c d;rw [Ht a,Zy9 a]at h;exact h
theorem d_sub_(bd:Nat)(e x y:Int)(h:bl x.natAbs<=65536)(i:bl y.natAbs<=65536):Zd0 prog 370 #[.pointer (some ⟨bd,0,none⟩),wv x,wv y] [] false bd 303 #[.int .i64 e] (G:=Unit) (λ_=>True) (λ_=>wv (Zbr (x-y))) (λ_=>#[.int .i64 (err e (x-y))]) (λ_=>[]):=by refine De func370 J ntmps370 J aA ?_;intro k j d c;have d:=Hw.mk d;simp only [Pv,Xk];refine go 2<|Yj (Yg 2) λb _=>Yj (Yg 3) λf _=>Yj (Yd 4) λg _=>go 3<|Qa (λx=>x=bd) [(0,0),(1,0),(2,0),(3,0),(4,0),(5,1),(6,0),(7,0),(8,1),(9,3)]<|go 5<|Yq (Zo 4 [] (Ygv ‹_› ‹_›)) λ_ _=>go 2 ?_;refine Kd J (Pd 4 1 Zsk J J J K3 call282 J O3 Zq J d.h J) λ_ _=>go 4 ?_;exact Dq (.inl J) c () (λa w hs=>Zeu hs results370 (Er 4 J J isAgg144 Ov J)) J aA 1 J J J J Za
theorem Zzc(c:bl x.natAbs<=65536)(d:bl y.natAbs<=65536)(a:bl (x-y).natAbs<=65536):Zd0 prog 370 #[.pointer (some ⟨bd,0,none⟩),wv x,wv y] [] false bd 303 #[.int .i64 0] (G:=Unit) (λ_=>True) (λ_=>wv (x-y)) (λ_=>#[.int .i64 0]) (λ_=>[]):=by have h:=d_sub_ bd 0 x y c d;rw [Ht a,Zy9 a]at h;exact h
theorem Yna(hs:Sz 65536 xs):Cal prog 220 #[.pointer (some ⟨bd,0,none⟩),v] [Hm bd 303 #[.int .i64 0],Yl 2 wv v xs] true (G:=Unit) (λ_=>True) (λ_=> .tuple #[Kp v (tzl xs).length,.int .i64 0]) (λ_=>[Yl 2 wv (Kp v (tzl xs).length) (tzl xs)]):=by
 refine Zg func220 ntmps220 λf e d c=>go 17 ?_;refine Ze J (λa=>?_) (λa=>?_)
 .exfalso;simp_all
 .refine go 5 ?_;refine cl 3 [2] (Zee ‹_›) λ_ _=>go 5 ?_;exact Nd c () results220 J aA (Pb 3 Za)
theorem Nf(xs:List Int)(c:Int)(g:Vp xs)(m:bl c.natAbs<=65536)(h:∀i,bl (cf xs i*c).natAbs<=65536):Cal prog 145 #[v,wv c] [Yl 2 wv v xs] true (G:=Value) (λr=>True) (λr=> .tuple #[r,.int .i64 0]) (λr=>[Yl 2 wv r (Zw xs c)]):=by
 refine Zg func145 ntmps145 λp o e d=>?_;have f:=g.len;refine go 2<|Yj (Yg 2) λb _=>go 8 ?_;refine cl 2 [1] (Xt ‹_›) λ_ _=>go 3 ?_;refine Gi 2 [] (Kn ‹_›) λ_ _=>go 9<|Yj (Yd 3) λj _=>go 6 ?_;refine tt (Il 4 _ 24 (enc:=wv) 0 J J J J Pw ti144 J pV.cells pV.pos J J J e.h J J) J λv _=>go 12 ?_;refine lp (G:=Nat) [3,6,7,21,22] [0,1,2,3] (λk=>[(23,.int .i64 (k:Int))]) (λk=>[(4,Oe 2 144 wv v (fill xs.length k (λi=>cf xs i*c)))]) (λk=>k<=xs.length) (λk=>xs.length-k) 0 O1 K1 ⟨by rw [Ai xs.length (λi=>cf xs i*c)];rfl,aA⟩ ?_;rintro k n;refine go 6<|Ze J (λa=>?_) (λa=>?_)
 .refine go 9 ⟨O2,O2,?_⟩;refine Yj (Yd 5) λl _=>go 9 ?_;refine tt (Pd 5 3 (Ca (g.sz.getD _) m (h _)) J J J K3 call218 J O3 Zq J e.h aA) J (λ_ _=>?_);refine dt (Zs 4 k J J J J (Yb pV) Pw Ov J (by rw [Oc];omega))<|tt (Ln 4 (enc:=wv) J J J J J J pV J e.h O3 (by rw [Oc];omega)) J (λ_ _=>?_);refine go 7 ⟨O,?_⟩;exact Ye (k+1) O1 O1 K1 ⟨by rw [<-Zdh O];rfl,aA⟩
 .refine go 6 ?_;obtain rfl:k=xs.length:=O;refine Zf (Xa 4 J J pV)<|Zf (Zij 3 J J)<|go 2 ?_;refine cl 6 [3,4] (Yna (by rw [Ez];exact Bn λi _=>h i)) λ_ _=>go 7 ?_;exact Nd d _ results145 J aA (Pb 6 Za (by rw [Yfa]<;>rfl))
theorem Zal(e:Vp xs)(h:∀i,bl (cf xs (i+1)*((i:Int)+1)).natAbs<=65536):Cal prog 309 #[v] [Yl 2 wv v xs] true (G:=Value) (λr=>True) (λr=> .tuple #[r,.int .i64 0]) (λr=>[Yl 2 wv r (Xh xs)]):=by
 refine Zg func309 ntmps309 λo m f d=>?_;have g:=e.len;refine go 10 ?_;refine cl 1 [1] (Xt ‹_›) λ_ _=>go 14<|Ze J (λa=>?_) (λa=>?_)
 .refine go 8 ?_;exact Nd d _ results309 J aA (Nb (Ykf O) Za)
 .refine go 4<|Yj (Yd 2) λb _=>?_;refine go 7 ⟨O,?_⟩;refine tt (Il 3 (xs.length-1) 24 (enc:=wv) 0 J J J J Pw ti144 J pV.cells pV.pos J J J f.h) J λv _=>go 12 ?_;refine lp (G:=Nat) [0,4,5,18] [0,1,2] (λk=>[(19,.int .i64 (k:Int))]) (λk=>[(3,Oe 2 144 wv v (fill (xs.length-1) k (λi=>cf xs (i+1)*((i:Int)+1))))]) (λk=>k<=xs.length-1) (λk=>xs.length-1-k) 0 O1 K1 ⟨by rw [Ai (xs.length-1) (λi=>cf xs (i+1)*((i:Int)+1))];rfl,aA⟩ ?_;rintro k l;have j:(fill (xs.length-1) k (λi=>cf xs (i+1)*((i:Int)+1))).length=xs.length-1:=Oc _ _ _;refine go 6<|Ze J (λc=>?_) (λc=>?_)
  .try rw [aU]at *
   refine go 10<|Qa (λx=>x=b) [(0,0),(1,0),(2,0),(3,0),(4,0),(5,0),(6,0),(7,0),(8,0),(9,1),(10,1),(11,0),(12,3)]<|go 5 ⟨O,?_⟩;refine Yz J J (st1 2 J (Zs 1 (k+1) J J J J Zl Pw Ov))<|go 3 ⟨O,O,?_⟩;refine Yq (Zo 3 [] (Ya _ (by first|assumption|exact⟨O,O⟩))) λ_ _=>?_;refine Kd J (Pd 3 2 (Ca (x:=cf xs (k+1)) (y:=((k:Int)+1)) (e.sz _) (aB (Oh (n:=32) O) O3) (h k)) J J J K3 call218 J O3 Zq J f.h J) (λ_ _=>?_);refine Yz J J (st1 2 J (Zs 3 k J J J J (Yb pV) Pw Ov J (by rw [Oc];omega)))<|r3' J (Ln 3 (enc:=wv) J J J J J J pV J f.h O3 (by rw [Oc];omega)) (λ_ _=>?_);refine go 7 ⟨O,?_⟩;exact Ye (k+1) O1 O1 K1 ⟨by rw [<-Zdh O];rfl,aA⟩
  .try rw [aU]at *
   refine go 6 ?_;obtain rfl:k=xs.length-1:=O;refine Zf (Xa 3 J J pV)<|Zf (Zij 2 J J)<|go 2 ?_;refine cl 4 [2,3] (Yna (by rw [Ez];exact Bn λi _=>h i)) λ_ _=>go 7 ?_;exact Nd d _ results309 J aA (Pb 4 Za (by rw [Yq2 e.tr]<;>rfl))
theorem Zrd(j:Vp xs):Xp prog 356 #[v] [Yl 2 wv v xs] (.tuple #[wv (Yx xs),.int .i64 0]):=by
 refine Zg func356 ntmps356 λr q n i=>?_;have l:=j.len;have d:∀k,bl (Yx (xs.take k)).natAbs<=65536:=λk=>Zbj _ (j.sz.take k);refine go 2<|Yj (Yd 2) λb _=>go 7 ?_;refine cl 2 [1] (Xt ‹_›) λ_ _=>go 8<|Yj (Yd 3) λf _=>go 4<|Yj (Yd 4) λg _=>go 11 ?_;refine lp (G:=Nat) [2,4,5,12,13] [0,1,2] (λk=>[(14,.int .i64 (k:Int))]) (λk=>[(4,box g 144 #[.bool (decide (Yx (xs.take k)<0)),.string (Qy (Yx (xs.take k)).natAbs)]),(3,box f 303 #[.int .i64 0])]) (λk=>k<=xs.length) (λk=>xs.length-k) 0 O1 K1 K2 ?_;rintro k o;have e:=λh=>Lf (p:=xs) (k:=k) h;refine go 6<|Ze J (λc=>?_) (λc=>?_)
 .refine go 8 ⟨O2,O2,?_⟩;refine Yj (Yd 5) λm _=>go 7 ?_;refine cl 5 [] (Zts (Yx (xs.take k)) (xs.getD k 0) (d _) (j.sz.getD _)) λ_ _=>go 2 ?_;refine tt (Pd 5 3 Zsk J J J K3 call282 J O3 Zq J n.h aA) J (λ_ _=>?_);refine go 8 ⟨O,?_⟩;have a:=d (k+1);rw [e O]at a;exact Ye (k+1) O1 O1 K1 ⟨by rw [e O];simp only [Ht a];rfl,by simp only [Zr9 a];rfl,aA⟩
 .refine go 6<|Qw [3,4] [5] ?_;refine Zi 0 [(0,0),(1,0),(2,0),(3,0),(4,1),(5,3)]<|go 7 ?_;refine Zu<|go 2 ?_;exact Nd i () results356 (by rw [show k=xs.length by omega,bS]<;>rfl) aA Za
theorem Zop{c:Int}(l:Sz 65536 xs)(j:xs.length<=1000)(q:bl c.natAbs<=65536)(s:∀i,c∣cf xs i)(f:xs≠[]->c≠0):Cal prog 357 #[v,wv c] [Yl 2 wv v xs] true (G:=Value) (λr=>True) (λr=> .tuple #[r,.int .i64 0]) (λr=>[Yl 2 wv r (xs.map (· / c))]):=by
 refine Zg func357 ntmps357 λB z m h=>go 2 ?_;refine Yj (Yg 2) λb _=>go 8 ?_;refine tt (Il 3 _ 24 (enc:=wv) 0 J J J J Pw ti144 J pV.cells pV.pos J J J m.h J J) J λv _=>go 12 ?_;refine lp (G:=Nat) [3,6,15,16] [0,1,2] (λk=>[(17,.int .i64 (k:Int))]) (λk=>[(3,Oe 2 144 wv v (fill xs.length k (λi=>cf xs i/c)))]) (λk=>k<=xs.length) (λk=>xs.length-k) 0 O1 K1 ⟨by rw [Ai xs.length (λi=>cf xs i/c)];rfl,aA⟩ ?_;rintro k w;have g:Zbr (xs.getD k 0/c)=cf xs k/c:=Ht (Hb (s k) (l k));refine go 6<|Ze J (λa=>?_) (λa=>?_)
 .refine go 9 ⟨O2,O2,?_⟩;refine Yj (Yd 4) λn _=>go 8 ?_;refine cl 4 [] (Ak (l.getD _) q (f (by intro e;rw [e]at a;simp at a;omega))) λ_ _=>go 4<|Yj (Yd 5) λo _=>Yj (Yd 6) λp _=>go 12<|Ze J (λd=>?_) (λd=>?_)
  .exfalso;simp_all
  .refine go 6 ?_;refine dt (Zs 3 k J J J J (Yb pV) Pw Ov J (by rw [Oc];omega))<|tt (Ln 3 (enc:=wv) J J J J J J pV J m.h O3 (by rw [Oc];omega)) J (λ_ _=>?_);refine go 7 ⟨O,?_⟩;exact Ye (k+1) O1 O1 K1 ⟨by rw [<-Zdh O];simp only [g];rfl,aA⟩
 .refine go 13 ?_;obtain rfl:k=xs.length:=O;exact Nd h _ results357 J aA (gow 3 Za (by rw [Ez,Zrs xs (· / c)]<;>rfl))
theorem Nr(c:Vp xs):Cal prog 304 #[v] [Yl 2 wv v xs] true (G:=Value) (λr=>True) (λr=> .tuple #[r,.int .i64 0]) (λr=>[Yl 2 wv r (Yf xs)]):=by
 refine Zg func304 ntmps304 λh g f d=>?_;have e:=c.len;refine go 9 ?_;refine cl 1 [1] (Zrd ‹_›) λ_ _=>go 3<|Yj (Yd 2) λb _=>go 11<|Ze J (λa=>?_) (λa=>?_)
 .exfalso;simp_all
 .refine go 6 ?_;refine cl 3 [1] (Zop c.sz O (Zbj _ c.sz) (Ki _) c.ne) λ_ _=>go 7 ?_;exact Nd d _ results304 J aA (Pb 3 Za J)
theorem Yfe(n:Vp xs)(S:bl x.natAbs<=65536)(hy:bl y.natAbs<=65536)(a8:0<y):Xp prog 395 #[v,rX x y] [Yl 2 wv v xs] (.tuple #[wv (evv xs x y),.int .i64 (eve xs x y)]):=by
 refine Zg func395 ntmps395 λw0 sc p o=>?_;have c:=n.len;refine go 2<|Yj (Yg 2) λb _=>Yj (Yd 3) λZ _=>go 7 ?_;refine cl 3 [1] (Xt ‹_›) λ_ _=>go 3 ?_;refine Gi 3 [] (Lt ‹_› ‹_› ‹_›) λ_ _=>go 15<|Ze J (λj=>?_) (λj=>?_)
 .refine go 2 ?_;refine dt (Qe [] J aA (λa w hs=>Yog))<|go 6 ?_;exact Nd o () results395 (by rw [aC (l:=xs) O];rfl) aA Za
 .have M:xs≠[]:=λe=>by rw [e]at j;simp at j
  have a6:=Qu n.sz;have g:Sz 65536 [x,y]:=Sz.of_mem (by intro z V;simp at V;rcases V with rfl|rfl<;>assumption);have I:=Qu g;have a7:(xs.length-1)*Xx [x,y]<=24*65536:=aQ O I;have f:((xs.length:Int)-1)*(Xx [x,y]:Int)=(((xs.length-1)*Xx [x,y]:Nat):Int):=by rw [gJ];congr 1;omega
  refine go 3 ?_;refine jn (G:=Unit) [0,3,4] [0,1,2,3] (λ_=>[(37,.bool (decide ((65536:Int)<(Xx xs:Int)+((xs.length:Int)-1)*(Xx [x,y]:Int)+8)))]) (λ_=>[]) (λ_=>True) ?_ ?_
  .refine Lk (λ_=>False) []<|Zi 7 [(0,0),(2,0),(3,0),(4,0),(5,0),(6,0),(7,0),(8,0)]<|go 9 ⟨O,?_⟩;refine Pa 6 1 9 ?_ ?_
   .refine Na (Zo 3 [1] (Mj (by first|exact n.sz|exact g))) λ_ _=>?_;refine Zi 0 [(9,1),(10,1),(11,0),(12,0),(13,0),(14,0)]<|Kd J (Xc [(0,_),(1,_)] 90 (enc:=wv) [x,y] J J K4 Yab ti144 J J J J J pV.cells J J p.h) λv _=>Yq (Zo 3 [90] (Mj (by first|exact n.sz|exact g))) λ_ _=>?_;refine go 5 ⟨by rw [f];exact⟨O,O⟩,by rw [f];exact⟨O,O⟩,by rw [f];exact⟨O,O⟩,?_⟩;exact Zu<|Od () aA K1 aA
   .refine Kh J J (Xc [(0,_),(1,_)] 90 (enc:=wv) [x,y] J J K4 Yab ti144 J J J J J pV.cells J J p.h) (λa9 _=>?_);refine Zi 0 [(1,1),(10,1),(11,0),(12,0),(13,0),(14,0)]<|Yq (Zo 3 [1] (Mj (by first|exact n.sz|exact g))) λ_ _=>Yq (Zo 3 [90] (Mj (by first|exact n.sz|exact g))) λ_ _=>?_;refine go 5 ⟨by rw [f];exact⟨O,O⟩,by rw [f];exact⟨O,O⟩,by rw [f];exact⟨O,O⟩,?_⟩;exact Zu<|Od () aA K1 aA
  .rintro _ -;refine Ze J (λm=>?_) (λm=>?_)
   .have B:Ha xs x y:=⟨M,by rw [f]at m;omega⟩;refine go 2 ?_;refine dt (Qe [] J aA (λa w hs=>Yog))<|go 6 ?_;exact Nd o () results395 (by unfold evv eve;rw [aP B,aP B]<;>rfl) aA Za
   .have i:Xx xs+(xs.length-1)*Xx [x,y]+8<=65536:=by rw [f]at m;omega
    refine go 4<|Yj (Yd 4) λH _=>go 2 ?_;refine jn (G:=Nat×Nat) [0,3,4,6] [0,1,2,3,4] (λq=>[(7,.pointer (some ⟨q.1,0,none⟩)),(8,.pointer (some ⟨q.2,0,none⟩))]) (λq=>[(97,box q.1 144 (wc (xs.getD (xs.length-1) 0))),(98,box q.2 144 (wc 1))]) (λq=>True) ?_ ?_
    .refine Lk (λ_=>False) [9,10]<|Zi 5 [(0,0),(1,0),(2,0),(3,0),(4,0),(5,0)]<|go 4 ⟨O,?_⟩;refine Yz J J (Xn (Zs 1 (xs.length-1) J J J J Zl Pw Ov))<|go 2 ⟨O,?_⟩;refine Zdy 4 6 7 8 ?_ ?_ ?_
     .refine Na (Zo 4 [] (Ya _ (by first|assumption|exact⟨O,O⟩))) λ_ _=>?_;refine Pa 3 7 8 ?_ ?_
      .refine Na (Yd 97) λa0 _=>?_;refine Zi 0 [(8,1),(9,3),(10,3)]<|Yq (Yd 98) λa1 _=>go 3 ?_;exact Zu<|Od (_,_) aA K2 K2
      .refine Na (Yd 98) λa2 _=>?_;refine Zi 0 [(7,1),(9,3),(10,3)]<|Yq (Yd 97) λa3 _=>go 3 ?_;exact Zu<|Od (_,_) aA K2 K2
     .refine Na (Yd 97) λa4 _=>?_;refine Pa 3 6 8 ?_ ?_
      .refine Na (Zo 4 [] (Ya _ (by first|assumption|exact⟨O,O⟩))) λ_ _=>?_;refine Zi 0 [(8,1),(9,3),(10,3)]<|Yq (Yd 98) λa5 _=>go 3 ?_;exact Zu<|Od (_,_) aA K2 K2
      .refine Na (Yd 98) λN _=>?_;refine Zi 0 [(6,1),(9,3),(10,3)]<|Yq (Zo 4 [] (Ya _ (by first|assumption|exact⟨O,O⟩))) λ_ _=>go 3 ?_;exact Zu<|Od (_,_) aA K2 K2
     .refine Na (Yd 98) λP _=>?_;refine Pa 3 6 7 ?_ ?_
      .refine Na (Zo 4 [] (Ya _ (by first|assumption|exact⟨O,O⟩))) λ_ _=>?_;refine Zi 0 [(7,1),(9,3),(10,3)]<|Yq (Yd 97) λQ _=>go 3 ?_;exact Zu<|Od (_,_) aA K2 K2
      .refine Na (Yd 97) λR _=>?_;refine Zi 0 [(6,1),(9,3),(10,3)]<|Yq (Zo 4 [] (Ya _ (by first|assumption|exact⟨O,O⟩))) λ_ _=>go 3 ?_;exact Zu<|Od (_,_) aA K2 K2
    .rintro⟨W,Y⟩ -;dsimp only;refine go 10 ⟨O,?_⟩;refine lp (G:=Nat) [0,3,4,6,7,8] [0,1,2,3,4] (λk=>[(9,.int .i64 ((k:Int)-1))]) (λk=>[(97,box W 144 (wc (Ej xs x y k))),(98,box Y 144 (wc (y^(xs.length-1-k))))]) (λk=>k<=xs.length-1) (λk=>k) (xs.length-1) O1 ⟨by rw [show((xs.length-1:Nat):Int)-1=(xs.length:Int)-2 by omega];rfl,aA⟩ ⟨by rw [Yr3 x y O];rfl,by rw [fZ,dD];rfl,aA⟩ ?_;rintro k D;refine go 7<|Ze J (λr=>?_) (λr=>?_)
     .have d:y^(xs.length-1-k)*y=y^(xs.length-1-(k-1)):=Yj7 y O D;have F:Ej xs x y k*x+xs.getD (k-1) 0*y^(xs.length-1-(k-1))=Ej xs x y (k-1):=Yf3 x y O D;refine go 9 ?_;refine tt (Pd 4 4 (Ca (Zsm i) hy (by rw [d];exact Zsm i)) J J J K3 call218 J O3 Zq J p.h aA) J λ_ _=>go 3 ?_;refine Qa (λx=>x=H) [(0,0),(1,0),(2,0),(4,0),(5,0),(6,0),(7,0),(8,0),(3,1),(9,1),(10,1),(11,3)]<|go 5 ?_;refine Yz J J (st1 4 J (Zs 1 (k-1) J J J J Zl Pw Ov))<|go 2 ⟨O,?_⟩;refine Kd J (Pd 4 4 (Ca (by first|exact Zsn i c _|exact n.sz.getD _) (by first|exact S|(rw [d];exact Zsm i)) (by first|exact Zy7 i c O D|(rw [d];exact Zsl i))) J J J K3 call218 J O3 Zq J p.h J) (λ_ _=>?_);refine Kd J (Pd 4 4 (Ca (by first|exact Zsn i c _|exact n.sz.getD _) (by first|exact S|(rw [d];exact Zsm i)) (by first|exact Zy7 i c O D|(rw [d];exact Zsl i))) J J J K3 call218 J O3 Zq J p.h J) (λ_ _=>?_);refine Kd J (Pd 4 4 (Zno (Zy7 i c O D) (by rw [d];exact Zsl i) (by rw [d,F];exact Zsn i c _)) J J J K3 call219 J O3 Zq J p.h J) (λ_ _=>?_);refine go 9 ⟨O,?_⟩;exact Ye (k-1) O1 O1 ⟨by rw [show((k-1:Nat):Int)-1=(k:Int)-1-1 by omega];rfl,aA⟩ ⟨by rw [d,F];rfl,by rw [d];rfl,aA⟩
     .refine go 14<|Ze J (λs=>?_) (λs=>?_)
      .exfalso;simp_all
      .refine go 10 ?_;obtain rfl:k=0:=O;have B:¬Ha xs x y:=λh=>by have:=h.2;omega
       exact Nd o () results395 (by unfold evv eve;rw [aJ B,aJ B,<-Zv8]<;>rfl) aA Za
theorem Zvb(e:Vp xs)(g:bl x.natAbs<=65536)(h:bl y.natAbs<=65536)(d:0<y):Xp prog 367 #[v,rX x y] [Yl 2 wv v xs] (.tuple #[.int .i64 (evv xs x y).sign,.int .i64 (eve xs x y)]):=by refine Zg func367 ntmps367 λk j i c=>?_;have a:=e.len;refine go 2<|Yj (Yg 2) λb _=>go 8 ?_;refine cl 2 [1] (Yfe e g h d) λ_ _=>go 3<|Yj (Yd 3) λf _=>go 7 ?_;refine cl 3 [] (Hj (evv_bl a)) λ_ _=>go 6 ?_;exact Nd c () results367 J aA Za
theorem Zbq(hs:Sz 65536 xs):Zd0 prog 220 #[.pointer (some ⟨bd,0,none⟩),v] [Yl 2 wv v xs] true bd 303 #[.int .i64 0] (G:=Unit) (λ_=>True) (λ_=> .tuple #[Kp v (tzl xs).length,.int .i64 0]) (λ_=>#[.int .i64 0]) (λ_=>[Yl 2 wv (Kp v (tzl xs).length) (tzl xs)]):=by
 refine De func220 J ntmps220 J K1 ?_;intro g f e d;have e:=Hw.mk e;simp only [Pv,Xk];refine go 17<|Ze J (λc=>?_) (λc=>?_)
 .exfalso;simp_all
 .refine go 5 ?_;refine cl 3 [2] (Zee ‹_›) λ_ _=>go 5 ?_;exact Dq (.inl J) d () (λa w hs=>Zl9 hs results220 J J) J aA 1 J J J J (Gt 3 J J J Za)
theorem Ydj(h:xs.length*24<=140737488355328:=by omega):Yub prog 392 #[v] [Yl 2 wv v xs] (G:=Value) (λr=>True) (λr=>r) (λr=>Oe 2 144 wv r xs):=by
 refine Yds func392 J ntmps392 J K1 ?_;intro k j e f;have e:=Hw.mk e;simp only [Pv,Xk];refine Xz (f_nil (i:=1) J Zl) λd=>go 9 ?_;refine dt (Yc6 J J J (i:=1) J Zl Pw)<|go 2 ?_;refine Pe J (λc=>?_) (λc=>?_)
 .refine go 7 ?_;obtain rfl:xs=[]:=d (by simpa using c);exact Zn (Qp 9 2 144 wv)<|Zqf (.inl J) (.slice none 0 0) (λa w hs=>Zeu hs results392 J) J aA J 9 J J J
 .refine go 4 ?_;refine tt (Yhe 2 (enc:=wv) J J J Pw pV J e.h) J λv _=>go 1 ?_;refine tt (Pk 2 1 24 J J J J J J O3 J Zl Pw ti144 J pV J J J O8 O3 J e.h) J λg _=>go 4 ?_;exact Zqf (.inl J) _ (λa w hs=>Zeu hs results392 J) J aA J 2 J (by rfl) J
theorem Zjr(d:Vp xs):Xp prog 386 #[v] [Yl 2 wv v xs] (.tuple #[.int .i64 ((xs.length:Int)-1),.int .i64 0]):=by refine Zg func386 ntmps386 λg f e a=>?_;have c:=d.len;refine go 10 ?_;refine cl 1 [1] (Xt ‹_›) λ_ _=>?_;refine go 16 ⟨O,?_⟩;exact Nd a () results386 J aA Za
theorem Zpn(c:Vp xs):Xp prog 387 #[v] [Yl 2 wv v xs] (.tuple #[.int .i64 (Xx xs:Int),.int .i64 0]):=by refine Zg func387 ntmps387 λf e d a=>go 10 ?_;refine cl 1 [1] (Xt ‹_›) λ_ _=>go 9 ?_;refine cl 1 [1] (Mj c.sz) λ_ _=>go 5 ?_;exact Nd a () results387 J aA Za
theorem Zw6(n:Vp xs)(m:Vp ys)(o:∀i,bl (cf xs i+cf ys i).natAbs<=65536):Zd0 prog 355 #[v,u,.pointer (some ⟨bd,0,none⟩),.func (.func 219) #[.pointer (some ⟨bd,0,none⟩)] #[]] [Yl 2 wv v xs,Yl 2 wv u ys] true bd 303 #[.int .i64 0] (G:=Value) (λr=>True) (λr=> .tuple #[r,.int .i64 0]) (λr=>#[.int .i64 0]) (λr=>[Yl 2 wv r (Gy xs ys)]):=by
 refine De func355 J ntmps355 J K2 ?_;intro B z c j;have c:=Hw.mk c;simp only [Pv,Xk];have l:=n.len;have h:=m.len;refine go 10 ?_;refine cl 3 [2] (Xt ‹_›) λ_ _=>go 3 ?_;refine Gi 3 [3] (Xt ‹_›) λ_ _=>go 13 ?_;refine dt (Zcr J J J)<|tt (Il 4 (max xs.length ys.length) 24 (enc:=wv) 0 J J J J Pw ti144 J pV.cells pV.pos J J J c.h) J λv _=>go 12 ?_;refine lp (G:=Nat) [0,1,2,3,10,29] [0,1,2,3] (λk=>[(30,.int .i64 (k:Int))]) (λk=>[(4,Oe 2 144 wv v (fill (max xs.length ys.length) k (λi=>cf xs i+cf ys i)))]) (λk=>k<=max xs.length ys.length) (λk=>max xs.length ys.length-k) 0 O1 K1 ⟨by rw [Ai (max xs.length ys.length) (λi=>cf xs i+cf ys i)];rfl,aA⟩ ?_;rintro k s;have q:(fill (max xs.length ys.length) k (λi=>cf xs i+cf ys i)).length=max xs.length ys.length:=Oc _ _ _;refine go 6<|Ze J (λd=>?_) (λd=>?_)
 .try rw [aU]at *
  refine go 12<|Yj (Yd 5) λb _=>Yj (Yd 6) λg _=>go 2 ?_;refine jn (G:=Unit) [0,1,2,3,10,11,12,13,29,30] [0,4,1,2,3,6] (λ_=>[]) (λ_=>[(5,box b 144 (wc (cf xs k)))]) (λ_=>True) ?_ ?_
  .refine go 8<|Ze J (λe=>?_) (λe=>?_)
   .refine go 7 ⟨O2,O2,?_⟩;exact Od () aA aA ⟨by first|rfl|(rw [Yt (p:=xs) O];rfl),aA⟩
   .refine go 1 ?_;exact Od () aA aA ⟨by first|rfl|(rw [Yt (p:=xs) O];rfl),aA⟩
  .rintro _ -;refine jn (G:=Unit) [0,1,2,3,10,11,12,13,29,30] [0,5,4,1,2,3] (λ_=>[]) (λ_=>[(6,box g 144 (wc (cf ys k)))]) (λ_=>True) ?_ ?_
   .refine go 8<|Ze J (λf=>?_) (λf=>?_)
    .refine go 7 ⟨O2,O2,?_⟩;exact Od () aA aA ⟨by first|rfl|(rw [Yt (p:=ys) O];rfl),aA⟩
    .refine go 1 ?_;exact Od () aA aA ⟨by first|rfl|(rw [Yt (p:=ys) O];rfl),aA⟩
   .rintro _ -;refine go 6 ?_;refine tt (Zt2 6 1 [_] [_,_] (Zno (n.sz _) (m.sz _) (o _)) J J J J K2 call219 J O3 Zq J c.h aA) J (λ_ _=>?_);refine dt (Zs 4 k J J J J (Yb pV) Pw Ov J (by rw [Oc];omega))<|tt (Ln 4 (enc:=wv) J J J J J J pV J c.h O3 (by rw [Oc];omega)) J (λ_ _=>?_);refine go 7 ⟨O,?_⟩;exact Ye (k+1) O1 O1 K1 ⟨by rw [<-Zdh O];rfl,aA⟩
 .try rw [aU]at *
  refine go 6 ?_;obtain rfl:k=max xs.length ys.length:=O;refine Zf (Xa 4 J J pV)<|go 3 ?_;refine tt (Pd 7 1 (Zbq (by rw [Ez];exact Bn λi _=>o i)) J J J K2 call220 J O3 (Zp 4 J J J Zq) J c.h aA) J λ_ _=>go 7 ?_;exact Dq (.inl J) j _ (λa w hs=>Zl9 hs results355 J J) J aA 1 J J J J (Znf 7 J J J (by rw [Ez]<;>rfl) Za)
theorem Zw5(n:Vp xs)(m:Vp ys)(o:∀i,bl (cf xs i-cf ys i).natAbs<=65536):Zd0 prog 355 #[v,u,.pointer (some ⟨bd,0,none⟩),.func (.func 370) #[.pointer (some ⟨bd,0,none⟩)] #[]] [Yl 2 wv v xs,Yl 2 wv u ys] true bd 303 #[.int .i64 0] (G:=Value) (λr=>True) (λr=> .tuple #[r,.int .i64 0]) (λr=>#[.int .i64 0]) (λr=>[Yl 2 wv r (Bf xs ys)]):=by
 refine De func355 J ntmps355 J K2 ?_;intro B z c j;have c:=Hw.mk c;simp only [Pv,Xk];have l:=n.len;have h:=m.len;refine go 10 ?_;refine cl 3 [2] (Xt ‹_›) λ_ _=>go 3 ?_;refine Gi 3 [3] (Xt ‹_›) λ_ _=>go 13 ?_;refine dt (Zcr J J J)<|tt (Il 4 (max xs.length ys.length) 24 (enc:=wv) 0 J J J J Pw ti144 J pV.cells pV.pos J J J c.h) J λv _=>go 12 ?_;refine lp (G:=Nat) [0,1,2,3,10,29] [0,1,2,3] (λk=>[(30,.int .i64 (k:Int))]) (λk=>[(4,Oe 2 144 wv v (fill (max xs.length ys.length) k (λi=>cf xs i-cf ys i)))]) (λk=>k<=max xs.length ys.length) (λk=>max xs.length ys.length-k) 0 O1 K1 ⟨by rw [Ai (max xs.length ys.length) (λi=>cf xs i-cf ys i)];rfl,aA⟩ ?_;rintro k s;have q:(fill (max xs.length ys.length) k (λi=>cf xs i-cf ys i)).length=max xs.length ys.length:=Oc _ _ _;refine go 6<|Ze J (λd=>?_) (λd=>?_)
 .try rw [aU]at *
  refine go 12<|Yj (Yd 5) λb _=>Yj (Yd 6) λg _=>go 2 ?_;refine jn (G:=Unit) [0,1,2,3,10,11,12,13,29,30] [0,4,1,2,3,6] (λ_=>[]) (λ_=>[(5,box b 144 (wc (cf xs k)))]) (λ_=>True) ?_ ?_
  .refine go 8<|Ze J (λe=>?_) (λe=>?_)
   .refine go 7 ⟨O2,O2,?_⟩;exact Od () aA aA ⟨by first|rfl|(rw [Yt (p:=xs) O];rfl),aA⟩
   .refine go 1 ?_;exact Od () aA aA ⟨by first|rfl|(rw [Yt (p:=xs) O];rfl),aA⟩
  .rintro _ -;refine jn (G:=Unit) [0,1,2,3,10,11,12,13,29,30] [0,5,4,1,2,3] (λ_=>[]) (λ_=>[(6,box g 144 (wc (cf ys k)))]) (λ_=>True) ?_ ?_
   .refine go 8<|Ze J (λf=>?_) (λf=>?_)
    .refine go 7 ⟨O2,O2,?_⟩;exact Od () aA aA ⟨by first|rfl|(rw [Yt (p:=ys) O];rfl),aA⟩
    .refine go 1 ?_;exact Od () aA aA ⟨by first|rfl|(rw [Yt (p:=ys) O];rfl),aA⟩
   .rintro _ -;refine go 6 ?_;refine tt (Zt2 6 1 [_] [_,_] (Zzc (n.sz _) (m.sz _) (o _)) J J J J K2 call370 J O3 Zq J c.h aA) J (λ_ _=>?_);refine dt (Zs 4 k J J J J (Yb pV) Pw Ov J (by rw [Oc];omega))<|tt (Ln 4 (enc:=wv) J J J J J J pV J c.h O3 (by rw [Oc];omega)) J (λ_ _=>?_);refine go 7 ⟨O,?_⟩;exact Ye (k+1) O1 O1 K1 ⟨by rw [<-Zdh O];rfl,aA⟩
 .try rw [aU]at *
  refine go 6 ?_;obtain rfl:k=max xs.length ys.length:=O;refine Zf (Xa 4 J J pV)<|go 3 ?_;refine tt (Pd 7 1 (Zbq (by rw [Ez];exact Bn λi _=>o i)) J J J K2 call220 J O3 (Zp 4 J J J Zq) J c.h aA) J λ_ _=>go 7 ?_;exact Dq (.inl J) j _ (λa w hs=>Zl9 hs results355 J J) J aA 1 J J J J (Znf 7 J J J (by rw [Ez]<;>rfl) Za)
theorem Zvd(xs ys:List Int)(e:Vp xs)(d:Vp ys)(f:∀i,bl (cf xs i+cf ys i).natAbs<=65536):Cal prog 303 #[v,u] [Yl 2 wv v xs,Yl 2 wv u ys] true (G:=Value) (λr=>True) (λr=> .tuple #[r,.int .i64 0]) (λr=>[Yl 2 wv r (Gy xs ys)]):=by refine Zg func303 ntmps303 λh g c a=>go 8 ?_;refine Yj (Yd 3) λb _=>go 6 ?_;refine dt (d_mkf [_] J K1)<|tt (Pd 4 3 (Zw6 ‹_› ‹_› ‹_›) J J J K4 call355 J O3 (Zp 1 J J J (Zp 2 J J J Zq)) J c.h aA) J λ_ _=>go 7 ?_;exact Nd a _ results303 J aA (Pb 4 Za)
theorem Zva(xs ys:List Int)(e:Vp xs)(d:Vp ys)(f:∀i,bl (cf xs i-cf ys i).natAbs<=65536):Cal prog 317 #[v,u] [Yl 2 wv v xs,Yl 2 wv u ys] true (G:=Value) (λr=>True) (λr=> .tuple #[r,.int .i64 0]) (λr=>[Yl 2 wv r (Bf xs ys)]):=by refine Zg func317 ntmps317 λh g c a=>go 8 ?_;refine Yj (Yd 3) λb _=>go 6 ?_;refine dt (d_mkf [_] J K1)<|tt (Pd 4 3 (Zw5 ‹_› ‹_› ‹_›) J J J K4 call355 J O3 (Zp 1 J J J (Zp 2 J J J Zq)) J c.h aA) J λ_ _=>go 7 ?_;exact Nd a _ results317 J aA (Pb 4 Za)
theorem Zmk(xs ys:List Int)(B:Vp xs)(z:Vp ys)(M:¬Zam xs ys):Cal prog 302 #[v,u] [Yl 2 wv v xs,Yl 2 wv u ys] true (G:=Value) (λr=>True) (λr=> .tuple #[r,.int .i64 0]) (λr=>[Yl 2 wv r (Pf xs ys)]):=by
 refine Zg func302 ntmps302 λw0 sc D f=>?_;have N:=B.len;have I:=z.len;have V:=Qu B.sz;have W:=Qu z.sz;refine go 10 ?_;refine cl 2 [1] (Xt ‹_›) λ_ _=>go 3 ?_;refine Gi 2 [2] (Xt ‹_›) λ_ _=>go 14<|Zy 23 J (λF=>?_) (λF=>?_)
 .refine go 15 ?_;exact Nd f _ results302 J aA (Nb (Zbh (p:=xs) (q:=ys) (by first|(left;omega)|(right;omega))) Za)
 .refine go 6<|Ze J (λg=>?_) (λg=>?_)
  .refine go 8 ?_;exact Nd f _ results302 J aA (Nb (Zbh (p:=xs) (q:=ys) (by first|(left;omega)|(right;omega))) Za)
  .have c:xs≠[]:=by intro e;subst e;simp_all
   have d:ys≠[]:=by intro e;subst e;simp_all
   have R:0<xs.length:=aI.2 c;have S:0<ys.length:=aI.2 d;refine go 13 ⟨O,O,?_⟩;refine Zy 35 J (λH=>?_) (λH=>?_)
   .exfalso;exact M ⟨c,d,.inl O⟩
   .refine go 1 ?_;refine Gi 2 [1] (Mj (by first|exact B.sz|exact z.sz)) λ_ _=>go 1 ?_;refine Gi 2 [2] (Mj (by first|exact B.sz|exact z.sz)) λ_ _=>?_;refine go 6 ⟨O,O,?_⟩;refine Ze J (λk=>?_) (λk=>?_)
    .exfalso;exact M ⟨c,d,by first|(left;omega)|(right;omega)⟩
    .have Y:Xx xs+Xx ys+5<=65536:=O;have s:∀i j,bl (cf xs i*cf ys j).natAbs<=65536:=λi j=>by have:=Yu (cf xs i) (cf ys j);have:=Pg xs i;have:=Pg ys j;omega
     have n:∀i j t,i<25->bl (Zbu xs ys i j t).natAbs<=65536:=λi j t hi=>by have:=Yt1 (i:=i) (j:=j) (t:=t) (Pg xs) (Pg ys) O;omega
     have o:∀t,bl (acc xs ys xs.length t).natAbs<=65536:=λt=>by have:=bl_acc (i:=xs.length) (t:=t) (Pg xs) (Pg ys) O;omega
     have w:∀i j,i<25->bl (Zbu xs ys i j (i+j)+cf xs i*cf ys j).natAbs<=65536:=λi j hi=>by rw [<-Ygp];exact n i (j+1) _ hi
     refine go 4<|Yj (Yd 3) λb _=>?_;refine go 10 ⟨O,O,?_⟩;refine tt (Il 4 (xs.length+ys.length-1) 24 (enc:=wv) 0 J J J J Pw ti144 J pV.cells pV.pos J J J D.h) J λv _=>go 12 ?_;refine lp (G:=Nat) [1,6,7,51,52] [0,1,2,3] (λi=>[(53,.int .i64 (i:Int))]) (λi=>[(4,Oe 2 144 wv v (mk (xs.length+ys.length-1) (acc xs ys i)))]) (λi=>i<=xs.length) (λi=>xs.length-i) 0 O1 K1 ⟨by rw [Zq2];rfl,aA⟩ ?_;rintro i hi;refine go 6<|Ze J (λl=>?_) (λl=>?_)
     .refine go 9 ⟨O2,O2,?_⟩;refine Yj (Yd 5) λP _=>go 12 ?_;refine lp (G:=Nat) [1,6,7,8,9,51,52,53,58,59] [0,1,2,3,5] (λj=>[(60,.int .i64 (j:Int))]) (λj=>[(4,Oe 2 144 wv v (mk (xs.length+ys.length-1) (Zbu xs ys i j)))]) (λj=>j<=ys.length) (λj=>ys.length-j) 0 O1 K1 ⟨by rw [Ygo];rfl,aA⟩ ?_;rintro j Z;have a:i+j<xs.length+ys.length-1->(mk (xs.length+ys.length-1) (Zbu xs ys i j)).getD (i+j) 0=Zbu xs ys i j (i+j):=λh=>Zen h;refine go 6<|Ze J (λm=>?_) (λm=>?_)
      .refine go 9 ⟨O2,O2,?_⟩;refine Yj (Yd 6) λQ _=>go 4<|Qa (λx=>x=b) [(0,0),(1,0),(2,0),(3,0),(4,0),(5,0),(6,0),(7,0),(8,0),(9,0),(10,0),(11,0),(12,1),(13,1),(14,0),(15,3)]<|go 8 ⟨O,O,?_⟩;refine Yz J J (st1 3 J (Zs 4 (i+j) J J J J (Yb pV) Pw Ov O (by rw [Yy];omega)))<|go 3 ⟨by rw [Yy];omega,?_⟩;refine Kd J (Pd 6 3 (Ca (B.sz _) (z.sz _) (s i j)) J J J K3 call218 J O3 Zq J D.h J) (λ_ _=>?_);refine Kd J (Pd 6 3 (Zno (by rw [a O];exact n i j _ O) (s i j) (by rw [a O];exact w i j O)) J J J K3 call219 J O3 Zq J D.h J) (λ_ _=>?_);refine Yz J J (st1 3 J (Zs 4 (i+j) J J J J (Yb pV) Pw Ov O (by rw [Yy];omega)))<|r3' J (Ln 4 (enc:=wv) J J J J J J pV J D.h O3 (by rw [Yy];omega)) (λ_ _=>?_);refine go 7 ⟨O,?_⟩;exact Ye (j+1) O1 O1 K1 ⟨by rw [<-Yoo O,<-a O];rfl,aA⟩
      .refine go 10 ⟨O,?_⟩;obtain rfl:j=ys.length:=O;exact Ye (i+1) O1 O1 K1 ⟨by rw [<-Yop];rfl,aA⟩
     .refine go 6 ?_;obtain rfl:i=xs.length:=O;refine Zf (Xa 4 J J pV)<|go 2 ?_;refine tt (Pd 7 3 (Zbq (Bn λt _=>o t)) J J J K2 call220 J O3 (Zp 4 J J J Zq) J D.h aA) J λ_ _=>go 7 ?_;exact Nd f _ results302 J aA (Pb 7 Za (by rw [Yka]<;>rfl))
end Go.Sky

