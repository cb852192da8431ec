/- Rules, arithmetic and contracts: part 10. No conditions but those that each theorem names. -/
import Derived.Test.YtpmihempjefadaaGreatAw08
set_option linter.all false
set_option maxHeartbeats 4000000
namespace Go.Sky
open Go.Proofs.Tryz
open Go.Proofs
set_option synthInstance.maxHeartbeats 0
set_option synthInstance.maxSize 100000
set_option maxRecDepth 20000
set_option linter.unusedSimpArgs false
variable{s t:Bool}{v w:Value}{x:Int}{listed:Array Bool}{ts:List Nat}{ops:Array Oper}
theorem Zox(hs:sg s x):Cal prog 203 #[.agg #[.bool s,v]] [Er v x.natAbs] true (G:=Bool×Value) (λr=>sg r.1 (-x)) (λr=> .agg #[.bool r.1,r.2]) (λr=>[Er r.2 (-x).natAbs]):=by refine Zd func203 ntmps203 λg f e c=>go 2 ?_;refine Zz (Zu 2) λb _=>Zz (Zx 3) λd _=>go 9 ?_;refine dt (Xp [(0,_),(1,_)] J K4 (λa w hs=>Kp ((Zl J) a w hs) ((Ok 1 J Zk) a w hs)))<|go 4 ?_;exact Yx c (!s,v) results203 J (sg_neg hs) (Kd 1 Za (by rw [iH]))
theorem Zdl{y:Int}(hs:sg s x)(f:sg t y)(g:bl x.natAbs<=4294967296:=by omega)(h:bl y.natAbs<=4294967296:=by omega):Cal prog 270 #[.agg #[.bool s,v],.agg #[.bool t,w]] [Er v x.natAbs,Er w y.natAbs] true (G:=Bool×Value) (λr=>sg r.1 (x*y)) (λr=> .agg #[.bool r.1,r.2]) (λr=>[Er r.2 (x*y).natAbs]):=by refine Zd func270 ntmps270 λk j i c=>go 2 ?_;refine Zz (Zu 3) λb _=>Zz (Zu 4) λd _=>Zz (Zx 5) λe _=>go 3<|Pd (λ_=>False) [(0,0),(1,0),(2,0),(3,0),(4,0),(5,0),(6,0),(7,0),(8,0),(9,1),(10,0),(11,3)]<|go 9<|Qk (Zv 6 [1,2] (Zyb g h)) λv _=>?_;refine Qb J J (Pq (Xp [(0,_),(1,_)] J K4 (λa w hs=>Kp ((Zl J) a w hs) ((Ok 6 J Zk) a w hs))))<|go 4 ?_;exact Yx c (_,_) results270 J (sg_mul hs f) (Kd 6 Za (by rw [cH]))
theorem Zkj(hs:sg s x)(g:bl x.natAbs<=4294967296:=by omega):Cal prog 204 #[.agg #[.bool s,v]] [Er v x.natAbs] true (G:=Unit) (λ_=>True) (λ_=> .int .i64 x.sign) (λ_=>[]):=by
 refine Zd func204 ntmps204 λi h f d=>?_;have e:=Nu x.natAbs;refine go 2<|Zz (Zu 2) λb _=>go 14<|Zc J (λa=>?_) (λa=>?_)
 .refine go 8 ?_;exact Yx d () results204 (Yap a) aA Za
 .refine go 7<|Yp J (λc=>?_) (λc=>?_)
  .refine go 8 ?_;exact Yx d () results204 (Ydm hs c a) aA Za
  .refine go 9 ?_;exact Yx d () results204 (Ydl hs c a) aA Za
theorem Zfx{y:Int}(hs:sg s x)(g:sg t y)(i:bl x.natAbs<=4294967296:=by omega)(j:bl y.natAbs<=4294967296:=by omega):Cal prog 202 #[.agg #[.bool s,v],.agg #[.bool t,w]] [Er v x.natAbs,Er w y.natAbs] true (G:=Bool×Value) (λr=>sg r.1 (x+y)) (λr=> .agg #[.bool r.1,r.2]) (λr=>[Er r.2 (x+y).natAbs]):=by
 refine Zd func202 ntmps202 λu q p f=>go 2 ?_;refine Zz (Zu 3) λb _=>Zz (Zu 4) λl _=>Zz (Zx 5) λm _=>go 14<|Yp J (λd=>?_) (λd=>?_)
 .have c:s=t:=by simpa using d
  refine go 1<|Pd (λ_=>False) [(0,0),(1,0),(2,0),(3,0),(4,0),(5,0),(6,1),(7,0),(8,3)]<|go 6<|Qk (Zv 6 [1,2] (Zyd i j)) λv _=>?_;refine Qb J J (Pq (Xp [(0,_),(1,_)] J K4 (λa w hs=>Kp ((Zl J) a w hs) ((Ok 6 J Zk) a w hs))))<|go 6 ?_;exact Yx f (_,_) results202 J (Ykd hs (c▸g)) (Kd 6 Za (by rw [Yiy hs (c▸g)]))
 .have c:s≠t:=by simpa using d
  refine go 6 ?_;refine cl 6 [1,2] (Zcl i j) λr k=>go 4<|Zc J (λh=>?_) (λh=>?_)
  .have e:y.natAbs<=x.natAbs:=by have:=k.1;omega
   refine go 1<|Pd (λ_=>False) [(0,0),(1,0),(2,0),(3,0),(4,0),(5,0),(6,1),(7,0),(8,3)]<|go 6<|Qk (Zv 7 [1,2] (Zfy i)) λn _=>?_;refine Qb J J (Pq (Xp [(0,_),(1,_)] J K4 (λa w hs=>Kp ((Zl J) a w hs) ((Ok 7 J Zk) a w hs))))<|go 6 ?_;exact Yx f (_,_) results202 J (Zxj hs g c e) (Kd 7 Za (by rw [Zui hs g c e]))
  .have e:x.natAbs<=y.natAbs:=by have:=k.1;omega
   refine go 4<|Pd (λ_=>False) [(0,0),(1,0),(2,0),(3,0),(4,0),(5,0),(6,1),(7,0),(8,3)]<|go 6<|Qk (Zv 8 [2,1] (Zfy j)) λo _=>?_;refine Qb J J (Pq (Xp [(0,_),(1,_)] J K4 (λa w hs=>Kp ((Zl J) a w hs) ((Ok 8 J Zk) a w hs))))<|go 4 ?_;exact Yx f (_,_) results202 J (by rw [mE];exact Zxj g hs (jH c) e) (Kd 8 Za (by rw [mE,Zui g hs (jH c) e]))
theorem Oi(hs:sg s x)(e:bl x.natAbs<=4294967296:=by omega):Cal prog 177 #[.agg #[.bool s,.string (Xn x.natAbs)]] [] true (G:=Bool×Value) (λr=>sg r.1 x) (λr=> .agg #[.bool r.1,r.2]) (λr=>[Er r.2 x.natAbs]):=by refine Zd func177 ntmps177 λh g f c=>go 2 ?_;refine Zz (Zu 1) λb _=>Zz (Zx 2) λd _=>go 3<|Pd (λ_=>False) [(0,0),(1,0),(2,0),(3,0),(4,1),(5,0),(6,3)]<|go 4<|Qk (Zv 3 [] (Zdc e)) λv _=>?_;refine Qb J J (Pq (Xp [(0,_),(1,_)] J K4 (λa w hs=>Kp ((Zl J) a w hs) ((Ok 3 J Zk) a w hs))))<|go 4 ?_;exact Yx c (_,_) results177 J hs (Kd 3 Za J)
theorem Ht(hs:sg s x)(g:bl x.natAbs<=4294967296:=by omega):Xj prog 173 #[.agg #[.bool s,v]] [Er v x.natAbs] (Zb7 x):=by
 refine Zd func173 ntmps173 λi h f d=>go 2 ?_;refine Zz (Zu 2) λb _=>Zz (Zx 3) λe _=>go 8 ?_;refine cl 3 [1] Zko λ_ _=>go 3<|Zc J (λc=>?_) (λc=>?_)
 .refine go 2 ?_;refine dt (Xp [] J aA (λa w hs=>Yin))<|go 6 ?_;exact Nn d () results173 (Yad c) aA Za
 .refine go 3 ?_;cases s
  .refine Pd (λ_=>False) [(0,0),(1,0),(2,0),(3,2),(4,2),(5,2),(6,2),(7,0),(8,0),(9,0),(10,1),(11,0),(12,3),(13,3)]<|go 10<|Qk (Zv 3 [1] Zm8) λ_ _=>?_;refine Qb J J (Pq (Xp [(0,_),(1,_)] J K4 (λa w hs=>Zz7 ((Zl J) a w hs) ((Zl J) a w hs))))<|go 5 ?_;exact Nn d () results173 (by first|exact Zqw hs c|exact Zqv hs c) aA Za
  .refine Pd (λ_=>False) [(0,0),(1,0),(2,0),(3,0),(4,0),(5,0),(6,0),(7,0),(8,0),(9,0),(10,1),(11,0),(12,3),(13,3)]<|go 10<|Qk (Zv 3 [1] Zm8) λ_ _=>?_;refine Qb J J (Pq (Xp [(0,_),(1,_)] J K4 (λa w hs=>Zz7 ((Zl J) a w hs) ((Zl J) a w hs))))<|go 5 ?_;exact Nn d () results173 (by first|exact Zqw hs c|exact Zqv hs c) aA Za
theorem Zfw(x y:Int)(hs:sg s x)(m:sg t y)(M:bl y.natAbs<=3000000000)(i:y≠0)(I:bl x.natAbs<=3000000000:=by omega):Cal prog 244 #[.agg #[.bool s,v],.agg #[.bool t,w]] [Er v x.natAbs,Er w y.natAbs] true (G:=Bool×Value×Value) (λr=>sg r.1 (x/y)) (λr=> .tuple #[.agg #[.bool r.1,r.2.1],.agg #[.bool false,r.2.2]]) (λr=>[Er r.2.1 (x/y).natAbs,Er r.2.2 (x%y).natAbs]):=by
 refine Zd func244 ntmps244 λP N z f=>?_;have F:=Nu x.natAbs;have H:=Nu y.natAbs;have j:0<y.natAbs:=O;have l:x.natAbs%y.natAbs<y.natAbs:=bO _ j;have u:=Lk (eU l);have q:=Lk (fU x.natAbs y.natAbs);refine go 2<|Zz (Zu 3) λb _=>Zz (Zu 4) λn _=>Zz (Zx 5) λo _=>Zz (Zx 6) λp _=>go 8 ?_;refine cl 7 [1,2] (Zyc O O j) λg _=>go 13<|Qc 18 J (λe=>?_) (λe=>?_)
 .refine go 6<|Zc J (λc=>?_) (λc=>?_)
  .subst e;have k:0<x.natAbs%y.natAbs:=by rcases aV (x.natAbs%y.natAbs)with h|h;(rw [h]at c;simp [Eh]at c);exact h
   have d:=divA hs m i k;refine Pd (λ_=>False) [(0,0),(3,0),(4,0),(5,0),(1,1),(2,1),(6,1),(7,0),(8,3)]<|go 4 ?_;refine Bm J (Oe [(0,_)] 9 (enc:=Md) (dg U 1) J J K2 Pn ti125 J J J J J pU.cells J J z.h) λv _=>Qk (Zv 10 [7,9] (Zyd O (show bl 1<=4294967296 by decide))) λB _=>Qk (Zv 11 [2,8] (Zfy O)) λD _=>go 12 ?_;refine dt (Xp [(0,_),(1,_)] J K4 (λa w hs=>Kp ((Zl J) a w hs) ((Ok 10 J Zk) a w hs)))<|go 1 ?_;refine dt (Xp [(0,_),(1,_)] J K4 (λa w hs=>Kp ((Zl J) a w hs) ((Ok 11 J Zk) a w hs)))<|go 5 ?_;exact Nn f (_,_,_) results244 J d.1 (Kd 10 (Kd 11 Za (by rw [d.2.2]<;>rfl)) (by rw [d.2.1]<;>rfl))
  .have d:=divB hs m i (.inr ((Nt Xm _).1 O));refine go 10 ?_;refine dt (Xp [(0,_),(1,_)] J K4 (λa w hs=>Kp ((Zl J) a w hs) ((Ok 7 J Zk) a w hs)))<|go 1 ?_;refine dt (Xp [(0,_),(1,_)] J K4 (λa w hs=>Kp ((Zl J) a w hs) ((Ok 8 J Zk) a w hs)))<|go 5 ?_;exact Nn f (_,_,_) results244 J d.1 (Kd 7 (Kd 8 Za (by rw [d.2.2]<;>rfl)) (by rw [d.2.1]<;>rfl))
 .have d:=divB hs m i (.inl e);refine go 17 ?_;refine dt (Xp [(0,_),(1,_)] J K4 (λa w hs=>Kp ((Zl J) a w hs) ((Ok 7 J Zk) a w hs)))<|go 1 ?_;refine dt (Xp [(0,_),(1,_)] J K4 (λa w hs=>Kp ((Zl J) a w hs) ((Ok 8 J Zk) a w hs)))<|go 5 ?_;exact Nn f (_,_,_) results244 J d.1 (Kd 7 (Kd 8 Za (by rw [d.2.2]<;>rfl)) (by rw [d.2.1]<;>rfl))
variable {P:Program} {N:Nat} {sc:Nat->Prop} {M:Nat->Prop} {env:Qj} {H:Hp} {Q:Exit->Act->World->Prop}
structure BAct (i:Nat) (A:Prop):Prop where h:A
def bq(i:Nat){A:Prop}(h:A):BAct i A:=⟨h⟩
theorem Yab {l:List Oper}  {n:Nat}  (i k:Nat) (a:(Region.noSelect l.toArray && Fe l.toArray ts [(i,k)] listed)=true)
  (h:LD P N sc M l.toArray (A P N sc M l.toArray ts Q n (Fx [(i,k)] listed)) [(i,k)] env H):A P N sc M l.toArray ts Q (n+1) listed env H:=
 Zw _ [(i,k)] h (by rw [a,fJ];show Nat.beq (1+n) (n+1)=true;rw [iA];exact Nat.beq_refl _)
theorem Yb9    {n:Nat} (i:Nat) (c:((Region.ready .any ops listed == [i]) && !(Fb ops ts listed) && !([i]:List Nat).isEmpty)=true)
  (a:BAct i (Ze6 P N sc M ops ts Q n listed env H i)):A P N sc M ops ts Q (n+1) listed env H:=Yi2 [i] c λq b=>by
 rw [bZ.1 b];exact a.h
theorem Zw0    {n:Nat} (i j:Nat) (d:((Region.ready .any ops listed == [i,j]) && !(Fb ops ts listed) && !([i,j]:List Nat).isEmpty)=true)
  (b:BAct i (Ze6 P N sc M ops ts Q n listed env H i)) (c:BAct j (Ze6 P N sc M ops ts Q n listed env H j)):A P N sc M ops ts Q (n+1) listed env H:=Yi2 [i,j] d λq a=>by
 simp only [aZ,dJ,gF]at a;rcases a with rfl|rfl
 .exact b.h
 .exact c.h
theorem a_b3    {n:Nat} (i j k:Nat) (e:((Region.ready .any ops listed == [i,j,k]) && !(Fb ops ts listed) && !([i,j,k]:List Nat).isEmpty)=true)
  (b:BAct i (Ze6 P N sc M ops ts Q n listed env H i)) (c:BAct j (Ze6 P N sc M ops ts Q n listed env H j)) (d:BAct k (Ze6 P N sc M ops ts Q n listed env H k)):A P N sc M ops ts Q (n+1) listed env H:=Yi2 [i,j,k] e λq a=>by
 simp only [aZ,dJ,gF]at a;rcases a with rfl|rfl|rfl
 .exact b.h
 .exact c.h
 .exact d.h
end Go.Sky
namespace Go.Sky
open Go.Proofs.Tryz
open Go.Proofs
set_option synthInstance.maxHeartbeats 0
set_option synthInstance.maxSize 100000
set_option maxRecDepth 20000
set_option linter.unusedSimpArgs false
variable{b:Bool}{x y:Int}{t:TypeId}{v u:Value}{xs ys:List Int}{bd:Nat}
theorem Zbc{s:ByteArray}:Xj prog 176 #[.agg #[.bool b,.string s]] [] (.bool (okW b s)):=by
 refine Zd func176 ntmps176 λg f e c=>go 2 ?_;refine Zz (Zu 1) λb _=>go 8 ?_;refine dt (Zv6 J J J J)<|go 2 ?_;refine Zc J (λa=>?_) (λa=>?_)
 .refine go 10 ?_;exact Yx c () results176 (by unfold okW;rw [aF a]) aA Za
 .refine go 6 ?_;refine dt (Yhl (i:=0) J J J uT9 J)<|go 2 ?_;refine Zj 13 J (λd=>?_) (λd=>?_)
  .refine go 9 ?_;exact Yx c () results176 (by unfold okW;rw [aD a];simp_all<;>omega) aA Za
  .refine go 9 ?_;exact Yx c () results176 (by unfold okW;rw [aD a];simp_all<;>omega) aA Za
def Lx(a:bl x.natAbs<=65536):Cal prog 176 #[wv x] [] false (G:=Unit) (λ_=>True) (λ_=> .bool true) (λ_=>[]):=Zck a▸Zbc
theorem Zmf(b:Bool)(s:ByteArray)(c:Bool)(t:ByteArray):Xj prog 232 #[.agg #[.bool b,.string s],.agg #[.bool c,.string t]] [] (.bool (okW b s && okW c t)):=by
 refine Zd func232 ntmps232 λh g f a=>go 2 ?_;refine Zz (Zu 1) λb _=>Zz (Zu 2) λe _=>go 6 ?_;refine cl 2 [] Zbc λ_ _=>go 1<|Qc 7 J (λd=>?_) (λd=>?_)
 .refine go 1 ?_;refine Kj 2 [] Zbc λ_ _=>go 5 ?_;exact Yx a () results232 (by simp_all) aA Za
 .refine go 7 ?_;exact Yx a () results232 (by simp_all) aA Za
theorem Ic(a:bl x.natAbs<=65536)(c:bl y.natAbs<=65536):Xj prog 232 #[wv x,wv y] [] (.bool true):=by have h:=Zmf (decide (x<0)) (Xn x.natAbs) (decide (y<0)) (Xn y.natAbs);rw [Zck a,Zck c]at h;exact h
theorem Iv(e:bl x.natAbs<=65536):Xj prog 235 #[wv x] [] (.int .i64 x.sign):=by refine Zd func235 ntmps235 λh f d a=>go 2 ?_;refine Zz (Zu 1) λb _=>go 7 ?_;refine cl 1 [] (Lx ‹_›) λ_ _=>go 9 ?_;refine cl 2 [] (Oi Mm) λg c=>cl 2 [2] (Zkj ‹_›) λ_ _=>go 4 ?_;exact Yx a () results235 J aA Za
theorem Zjh(d:bl x.natAbs<=65536):Xj prog 298 #[wv x] [] (.int .i64 (bl x.natAbs:Int)):=by refine Zd func298 ntmps298 λf e c a=>go 2 ?_;refine Zz (Zu 1) λb _=>go 7 ?_;refine cl 1 [] (Lx ‹_›) λ_ _=>go 10 ?_;refine cl 2 [] Zdc λv _=>cl 2 [2] Zko λ_ _=>go 4 ?_;exact Yx a () results298 J aA Za
theorem Zqz(m:bl x.natAbs<=65536)(n:bl y.natAbs<=65536):Xj prog 179 #[wv x,wv y] [] (Zb7 (x+y)):=by refine Zd func179 ntmps179 λp o l a=>?_;have j:=Dw x y;refine go 2<|Zz (Zu 1) λb _=>Zz (Zu 2) λe _=>Zz (Zx 3) λf _=>go 8 ?_;refine cl 3 [] (Ic ‹_› ‹_›) λ_ _=>go 7<|Pd (λ_=>False) [(0,0),(2,0),(1,1),(3,1),(4,1),(5,1),(6,0),(7,0),(8,3),(9,3)]<|go 2<|Qk (Zv 4 [] (Oi Mm)) λg k=>Qk (Zv 5 [] (Oi Mm)) λh c=>Qk (Zv 6 [4,5] (Zfx ‹_› ‹_›)) λi d=>Qk (Zv 6 [6] (Ht ‹_›)) λ_ _=>go 7 ?_;exact Nn a () results179 J aA Za
theorem Ycf(p:bl x.natAbs<=65536)(q:bl y.natAbs<=65536):Xj prog 359 #[wv x,wv y] [] (Zb7 (x-y)):=by refine Zd func359 ntmps359 λs r o a=>?_;have m:=Zjd x y;have l:=Zwm y;refine go 2<|Zz (Zu 1) λb _=>Zz (Zu 2) λf _=>Zz (Zx 3) λh _=>go 8 ?_;refine cl 3 [] (Ic ‹_› ‹_›) λ_ _=>go 7<|Pd (λ_=>False) [(0,0),(2,0),(1,1),(3,1),(4,1),(5,1),(6,1),(7,0),(8,0),(9,3),(10,3)]<|go 2<|Qk (Zv 4 [] (Oi Mm)) λg n=>Qk (Zv 5 [] (Oi Mm)) λi c=>Qk (Zv 6 [5] (Zox ‹_›)) λj d=>Qk (Zv 7 [4,6] (Zfx ‹_› ‹_›)) λk e=>Qk (Zv 7 [7] (Ht ‹_› (by rw [<-dE];omega))) λ_ _=>go 7 ?_;exact Nn a () results359 (by rw [dE]<;>rfl) aA Za
theorem Zjg(x y:Int)(m:bl x.natAbs<=65536)(n:bl y.natAbs<=65536):Xj prog 268 #[wv x,wv y] [] (Zb7 (x*y)):=by refine Zd func268 ntmps268 λp o l a=>?_;have j:=Xq x y;refine go 2<|Zz (Zu 1) λb _=>Zz (Zu 2) λe _=>Zz (Zx 3) λf _=>go 8 ?_;refine cl 3 [] (Ic ‹_› ‹_›) λ_ _=>go 7<|Pd (λ_=>False) [(0,0),(2,0),(1,1),(3,1),(4,1),(5,1),(6,0),(7,0),(8,3),(9,3)]<|go 2<|Qk (Zv 4 [] (Oi Mm)) λg k=>Qk (Zv 5 [] (Oi Mm)) λh c=>Qk (Zv 6 [4,5] (Zdl ‹_› ‹_›)) λi d=>Qk (Zv 6 [6] (Ht ‹_›)) λ_ _=>go 7 ?_;exact Nn a () results268 J aA Za
theorem Zqy(x y:Int)(j:bl x.natAbs<=65536)(k:bl y.natAbs<=65536):Xj prog 231 #[wv x,wv y] [] (Zb7 (Int.gcd x y:Int)):=by refine Zd func231 ntmps231 λm l i c=>?_;have h:=Zqk x.natAbs y.natAbs;refine go 2<|Zz (Zu 1) λb _=>Zz (Zu 2) λd _=>Zz (Zx 3) λe _=>go 8 ?_;refine cl 3 [] (Ic ‹_› ‹_›) λ_ _=>go 7<|Pd (λ_=>False) [(0,0),(1,0),(3,0),(4,0),(2,1),(5,1),(6,1),(7,0),(8,1),(9,0),(10,0),(11,3),(12,3)]<|go 4<|Qk (Zv 4 [] Zdc) λv _=>Qk (Zv 5 [] Zdc) λf _=>Qk (Zv 6 [4,5] Zo3) λg _=>?_;refine Qb J J (Pq (Xp [(0,_),(1,_)] J K4 (λa w hs=>Kp ((Zl J) a w hs) ((Ok 6 J Zk) a w hs))))<|Qk (Zv 6 [6] (Ht (s:=false) (x:=(Int.gcd x y:Int)) (by simp [sg]) (by show bl (Nat.gcd x.natAbs y.natAbs)<=_;omega))) λ_ _=>go 7 ?_;exact Nn c () results231 J aA Za
theorem Bf(I:bl x.natAbs<=65536)(M:bl y.natAbs<=65536)(c:y≠0):Xj prog 178 #[wv x,wv y] [] (.tuple #[wv (Bt (x/y)),wv (Bt (x%y)),.int .i64 0]):=by
 refine Zd func178 ntmps178 λR Q z d=>?_;have F:=Zje x y;have p:=Zz2 x y c;refine go 2<|Zz (Zu 1) λb _=>Zz (Zu 2) λh _=>Zz (Zx 3) λj _=>Zz (Zx 4) λk _=>go 8 ?_;refine cl 4 [] (Ic ‹_› ‹_›) λ_ _=>go 11 ?_;refine dt (Zv6 J J J J)<|go 2 ?_;refine Zc J (λa=>?_) (λa=>?_)
 .rw [Fi]at a;exfalso;exact c (by have:=(Nt (by omega:2<=256) y.natAbs).1 a;omega)
 .refine go 2 ?_;refine jn (G:=Bool×Value×Value×Nat×Nat) [4,5] [0,1,2,3,4] (λq=>[(7,.pointer (some ⟨q.2.2.2.1,0,none⟩)),(8,.pointer (some ⟨q.2.2.2.2,0,none⟩))]) (λq=>[(84,Er q.2.1 (x/y).natAbs),(85,Er q.2.2.1 (x%y).natAbs),(86,box q.2.2.2.1 272 #[.bool q.1,q.2.1]),(87,box q.2.2.2.2 272 #[.bool false,q.2.2.1])]) (λq=>sg q.1 (x/y)) ?_ ?_
  .refine Ng [1,2] [11]<|Zw 10 [(0,0),(2,0)]<|go 3 ?_
   repeat' first|refine bq 1 ?_;refine Iy (Zv 81 [] (Oi Mm)) λg H=>?_|refine bq 3 ?_;refine Iy (Zv 82 [] (Oi Mm)) λn e=>?_|refine bq 4 ?_;refine Iy (Zv 84 [81,82] (Zfw _ _ ‹_› ‹_› O c)) λo f=>?_|refine bq 8 ?_;refine Iy (Nx 86) λl r=>?_|refine bq 9 ?_;refine Iy (Nx 87) λm s=>?_|refine bq 10 ?_;refine Zaf rfl rfl (t_stw (i:=86) rfl rfl rfl rfl rfl rfl sizeOf272 rfl rfl ⟨Zl rfl,Ok 84 rfl Zk,aA⟩ rfl z.h r.h) (λ_ _=>?_)|refine a_b3 1 8 9 O7 ?_ ?_ ?_|refine Zw0 1 8 O7 ?_ ?_|refine Yb9 1 O7 ?_|refine Yb9 3 O7 ?_|refine Yb9 4 O7 ?_|refine Yb9 10 O7 ?_|refine Zw0 3 8 O7 ?_ ?_|refine Zw0 4 8 O7 ?_ ?_|refine Yb9 8 O7 ?_|refine Zw0 1 9 O7 ?_ ?_|refine Zw0 3 9 O7 ?_ ?_|refine Zw0 4 9 O7 ?_ ?_|refine Yb9 9 O7 ?_|refine a_b3 3 8 9 O7 ?_ ?_ ?_|refine a_b3 4 8 9 O7 ?_ ?_ ?_|refine Zw0 8 9 O7 ?_ ?_|refine Yab 5 0 O7 ?_;refine go 2 ?_|refine Yab 6 0 O7 ?_;refine go 2 ?_|refine Yab 7 0 O7 ?_;refine go 2 ?_|refine Yab 11 3 O7 ?_;refine go 2 ?_|refine Yq ?_ O7;exact Gd (_,_,_,_,_) ‹_› ⟨rfl,rfl,aA⟩ ⟨rfl,rfl,rfl,rfl,aA⟩
  .rintro⟨N,qv,P,B,D⟩ w;dsimp only at w;dsimp only;refine go 3 ?_;refine cl 4 [84] (Ht ‹_›) λ_ _=>go 9 ?_;refine cl 4 [85] (Ht (Ykc x c)) λ_ _=>go 7<|Ng [4] [3,4] ?_;refine Zw 0 [(1,0),(0,1),(2,1),(3,3),(4,3)]<|go 6 ?_;exact Yq<|go 2<|xe3 d () results178 J aA Za
theorem Zb6{s t:Bool}{w:Value}(hs:sg s x)(m:sg t y)(k:y≠0)(Y:bl x.natAbs<=1000000000:=by omega)(Z:bl y.natAbs<=1000000000:=by omega):Xj prog 269 #[.agg #[.bool s,v],.agg #[.bool t,w]] [Er v x.natAbs,Er w y.natAbs] (Zbj x y):=by
 refine Zd func269 ntmps269 λw0 sc W c=>?_;have S:=Zqk x.natAbs y.natAbs;have e:Mp x y≠0:=Zyk k;have h:sg t (Mp x y):=Yka m k;have f:=Zcm x y;have P:=Zje x (Mp x y);have Q:=Zje y (Mp x y);refine go 2<|Zz (Zu 3) λb _=>Zz (Zu 4) λq _=>Zz (Zx 5) λr _=>go 4<|Zac (λ_=>False) [9] ?_;refine Zw 4 [(0,0),(1,0),(2,0),(3,0),(4,0),(5,0)]<|go 7 ?_;refine Nm 3 6 8 ?_ ?_
 .refine Iy (Zv 81 [1,2] Zo3) λv _=>?_;refine Zw 0 [(7,0),(8,1),(9,3)]<|Qb J J (Pq (Xp [(0,_),(1,_)] J K4 (λa w hs=>Kp ((Zl J) a w hs) ((Ok 81 J Zk) a w hs))))<|Qk (Zx 82) λz _=>go 2 ?_;refine Yq<|go 2<|Zr (Qa 81 (Zyj x y) J J)<|go 3 ?_;refine cl 6 [1,81] (Zfw x (Mp x y) hs h (by rw [f];omega) e) λg V=>go 10 ?_;refine cl 8 [2,81] (Zfw y (Mp x y) m h (by rw [f];omega) e) λI n=>go 9 ?_;refine cl 9 [6] (Ht ‹_›) λ_ _=>go 3<|Zz (Zx 10) λB _=>go 7 ?_;refine cl 10 [8] (Ht ‹_›) λ_ _=>go 3<|Zz (Zx 11) λD _=>go 10<|Zj 43 J (λl=>?_) (λl=>?_)
  .refine go 8 ?_;refine dt (Xp [] J aA (λa w hs=>Zua))<|go 6 ?_;exact Nn c () results269 (Zbi (by unfold La;first|exact .inl (Zaa ‹_›)|exact .inr (Zaa ‹_›))) aA Za
  .refine go 5<|Zc J (λj=>?_) (λj=>?_)
   .refine go 2 ?_;refine dt (Xp [] J aA (λa w hs=>Zua))<|go 6 ?_;exact Nn c () results269 (Zbi (by unfold La;first|exact .inl (Zaa ‹_›)|exact .inr (Zaa ‹_›))) aA Za
   .refine go 6 ?_;refine dt (Xp [(0,_),(1,_)] J K4 (λa w hs=>Zgo))<|go 5 ?_;exact Nn c () results269 (Zry (cM ‹_›) (cM ‹_›)) aA Za
 .refine Iy (Zx 82) λF _=>?_;refine Zw 0 [(6,1),(7,0),(9,3)]<|Qk (Zv 81 [1,2] Zo3) λR _=>?_;refine Qb J J (Pq (Xp [(0,_),(1,_)] J K4 (λa w hs=>Kp ((Zl J) a w hs) ((Ok 81 J Zk) a w hs))))<|go 2 ?_;refine Yq<|go 2<|Zr (Qa 81 (Zyj x y) J J)<|go 3 ?_;refine cl 12 [1,81] (Zfw x (Mp x y) hs h (by rw [f];omega) e) λM o=>go 10 ?_;refine cl 14 [2,81] (Zfw y (Mp x y) m h (by rw [f];omega) e) λN p=>go 9 ?_;refine cl 15 [12] (Ht ‹_›) λ_ _=>go 3<|Zz (Zx 16) λG _=>go 7 ?_;refine cl 16 [14] (Ht ‹_›) λ_ _=>go 3<|Zz (Zx 17) λH _=>go 10<|Zj 43 J (λi=>?_) (λi=>?_)
  .refine go 8 ?_;refine dt (Xp [] J aA (λa w hs=>Zua))<|go 6 ?_;exact Nn c () results269 (Zbi (by unfold La;first|exact .inl (Zaa ‹_›)|exact .inr (Zaa ‹_›))) aA Za
  .refine go 5<|Zc J (λd=>?_) (λd=>?_)
   .refine go 2 ?_;refine dt (Xp [] J aA (λa w hs=>Zua))<|go 6 ?_;exact Nn c () results269 (Zbi (by unfold La;first|exact .inl (Zaa ‹_›)|exact .inr (Zaa ‹_›))) aA Za
   .refine go 6 ?_;refine dt (Xp [(0,_),(1,_)] J K4 (λa w hs=>Zgo))<|go 5 ?_;exact Nn c () results269 (Zry (cM ‹_›) (cM ‹_›)) aA Za
theorem Da(x y:Int)(l:bl x.natAbs<=65536)(m:bl y.natAbs<=65536)(c:y≠0):Xj prog 199 #[wv x,wv y] [] (Zbj x y):=by
 refine Zd func199 ntmps199 λo n k d=>go 2 ?_;refine Zz (Zu 1) λb _=>Zz (Zu 2) λf _=>Zz (Zx 3) λh _=>go 8 ?_;refine cl 3 [] (Ic ‹_› ‹_›) λ_ _=>go 11 ?_;refine dt (Zv6 J J J J)<|go 2 ?_;refine Zc J (λa=>?_) (λa=>?_)
 .rw [Fi]at a;exfalso;exact c (by have:=(Nt (by omega:2<=256) y.natAbs).1 a;omega)
 .refine go 3<|Pd (λ_=>False) [(0,0),(2,0),(1,1),(3,1),(4,1),(5,0),(6,0),(7,3),(8,3)]<|go 2<|Qk (Zv 4 [] (Oi Mm)) λg j=>Qk (Zv 5 [] (Oi Mm)) λi e=>Qk (Zv 5 [4,5] (Zb6 ‹_› ‹_› c)) λ_ _=>go 7 ?_;exact Nn d () results199 J aA Za
theorem Cg{s:ByteArray}{c:Bool}{t:ByteArray}:Xj prog 198 #[.agg #[.bool b,.string s,.bool c,.string t]] [] (.bool (okR b s c t)):=by
 refine Zd func198 ntmps198 λl k j g=>go 2 ?_;refine Zz (Zu 1) λb _=>go 9 ?_;refine cl 1 [] (Zmf _ _ _ _) λ_ _=>go 1<|Qc 8 J (λh=>?_) (λh=>?_)
 .have i:okW c t=true:=by simp_all
  have d:=Zov i;obtain⟨a,e,f⟩:=Classical.choose_spec d;generalize Classical.choose d=z at a e f ⊢;subst e;subst f
  try clear d
  refine go 2 ?_;refine Kj 1 [] (Iv (x:=z) a) λ_ _=>go 6 ?_;exact Yx g () results198 (by first|rw [Zsa (by simp_all) a]|(unfold okR;simp_all)) aA Za
 .refine go 9 ?_;exact Yx g () results198 (by first|rw [Zsa (by simp_all) a]|(unfold okR;simp_all)) aA Za
def Og(x y:Int)(c:bl x.natAbs<=65536)(d:bl y.natAbs<=65536)(a:0<y):Cal prog 198 #[rX x y] [] false (G:=Unit) (λ_=>True) (λ_=> .bool true) (λ_=>[]):=okR_wv c d a▸Cg
theorem Zn(x:Int)(f:Mr x:=by exact⟨O,O⟩):Xj prog 99 #[.int .i64 x] [] (wv x):=by
 refine Zd func99 ntmps99 λm l h e=>?_;have i:=f.1;have j:=f.2;have d:x.natAbs<U:=by simp only [U];omega
 have k:bl x.natAbs<=64:=(Qt 64 _).2 (by rw [<-Yi3];exact d);refine go 2<|Zz (Zx 1) λb _=>go 5 ?_;refine dt (Ymx (r:=x%18446744073709551616) J J uT3 Zap J)<|go 3 ?_;refine jn (G:=Unit) [0,2] [0,1] (λ_=>[(3,.int .u64 ((x.natAbs:Nat):Int))]) (λ_=>[]) (λ_=>True) ?_ ?_
 .refine go 6<|Zc J (λc=>?_) (λc=>?_)
  .refine go 2 ?_;refine dt (Ycq x.natAbs J J O)<|go 2 ?_;exact Gd () aA ⟨by first|rfl|(rw [show x%18446744073709551616=((x.natAbs:Nat):Int) by omega];rfl),aA⟩ aA
  .refine go 1 ?_;exact Gd () aA ⟨by first|rfl|(rw [show x%18446744073709551616=((x.natAbs:Nat):Int) by omega];rfl),aA⟩ aA
 .rintro _ -;refine go 5 ?_;refine tt (Oe [(0,_)] 2 (enc:=Md) [x.natAbs] J J K2 Pn ti125 J J J J J pU.cells J J h.h) λv _=>cl 2 [2] Pt λ_ _=>?_;refine Nk (Zj4 2 J J pU)<|Nk (Ydx 2 (Zgu d) J J)<|dt (Xp [(0,_),(1,_)] J K4 (λa w hs=>Kp ((Zl J) a w hs) ((Ok 2 J (Yo pU)) a w hs)))<|cl 2 [2] (Ht (x:=x) Mm) λ_ _=>go 3 ?_;refine Zz (Zx 3) λg _=>go 11 ?_;exact Yx e () results99 (by rw [Nh O]<;>rfl) aA Za
theorem Zdh(hs:Sz 65536 xs):Cal prog 233 #[v] [Ys 2 wv v xs] true (G:=Unit) (λ_=>True) (λ_=>Gi v (tzl xs).length) (λ_=>[Ys 2 wv (Gi v (tzl xs).length) (tzl xs)]):=by
 refine Zd func233 ntmps233 λp o n d=>?_;refine Lh (Ygy (i:=1) J Zk) (λa=>?_);refine Lh (Ev (i:=1) J Zk) λm=>go 7 ?_;refine lp (G:=Nat) [] [0] (λk=>[(0,Gi v k)]) (λk=>[(1,Ys 2 wv (Gi v k) (xs.take k))]) (λk=>(k<=xs.length)/\(tzl (xs.take k)=tzl xs)) (λk=>k) xs.length ⟨aJ _,by rw [bT]⟩ ⟨by rw [a];rfl,aA⟩ ⟨by rw [a,bT];rfl,aA⟩ ?_;rintro k ⟨h,j⟩;have f:(xs.take k).length=k:=by rw [aS];omega
 refine go 7<|Zj 6 J (λl=>?_) (λl=>?_)
 .refine go 4 ⟨O,?_⟩;refine Fj (Ym 1 (k-1) J J J J Zk Pe Oa) J J<|go 1 ⟨O,?_⟩;refine Kj 1 [] (Iv ((hs.take _).getD _)) λ_ _=>go 4<|Zc J (λg=>?_) (λg=>?_)
  .have c:=Ycr h O (Zus (k:=k) O (gR.1 ‹_›):cf xs (k-1)=0);refine go 8 ⟨O,?_⟩;refine dt (d_pre 1 (i:=k-1) J J J J Zk Pe Oa)<|go 3 ?_;exact Xg (s_pre 1 1 (k-1) J J)<|Yl (k-1) ⟨O1,by rw [<-j,<-c]⟩ O1 ⟨by rw [<-Zdg v k (k-1)];rfl,aA⟩ ⟨by rw [Zdg,kB,dY O];rfl,aA⟩
  .refine go 12 ?_;have e:tzl xs=xs.take k:=by rw [<-j];exact Zq4 h (by first|(left;omega)|(right;exact Zq5 k O ‹_›))
   exact Yx d () results233 (by rw [e,f]) aA (Kd 1 Za (by rw [e,f]))
 .refine go 24 ?_;have e:tzl xs=xs.take k:=by rw [<-j];exact Zq4 h (by first|(left;omega)|(right;exact Zq5 k O ‹_›))
  exact Yx d () results233 (by rw [e,f]) aA (Kd 1 Za (by rw [e,f]))
theorem Zvb(v:Value)(r:List (Bool×ByteArray)):Xj prog 234 #[v] [Ys 2 Yg5 v r] (.bool (okP r)):=by
 refine Zd func234 ntmps234 λz s p a=>?_;refine Lh (Ev (i:=1) J Zk) λg=>go 14 ?_;refine lp (G:=Nat) [0,5,6] [0,1] (λk=>[(7,.int .i64 (k:Int))]) (λk=>[]) (λk=>(k<=r.length)/\((r.take k).all (λw=>okW w.1 w.2)=true)) (λk=>r.length-k) 0 ⟨O1,O8⟩ K1 aA ?_;rintro k ⟨o,l⟩;refine go 6<|Zc J (λj=>?_) (λj=>?_)
 .refine go 7 ⟨O2,?_⟩;refine dt (Of 1 (false,⟨#[]⟩) J J J Zk pW O2)<|Zz (Zx 2) λb _=>go 6 ?_;refine cl 2 [] Zbc λ_ _=>go 3<|Yp J (λf=>?_) (λf=>?_)
  .refine go 11 ?_;exact Yx a () results234 (by rw [Yk8 (Zi (i:=k) (d:=(false,⟨#[]⟩))) (by simp_all)]) aA Za
  .refine go 7 ⟨O,?_⟩;exact Yl (k+1) ⟨O1,by rw [Ps (false,⟨#[]⟩) _ _ O,List.all_append,l];simpa using f⟩ O1 K1 aA
 .refine go 6 ?_;obtain rfl:k=r.length:=O;rw [bT]at l;obtain⟨xs,c,rfl⟩:=Zr9 (bF.1 l);have m:=Sz.of_mem c;rw [aW]at g;refine Zr (Zod 1 (q:=Ys 2 wv v xs) J J (Yj7 v xs) (λ_ h=>fpn h) J)<|go 5<|Zj 18 J (λn=>?_) (λn=>?_)
  .refine go 4<|Zj 22 J (λe=>?_) (λe=>?_)
   .refine go 14 ?_;exact Yx a () results234 (by rw [Zow c];first|(simp_all;done)|(simp_all;omega)) aA Za
   .refine go 4 ⟨O,?_⟩;refine Fj (Ym 1 (xs.length-1) J J J J Zk Pe Oa) J J<|go 1 ⟨O,?_⟩;refine Kj 2 [] (Iv (m.getD _)) λ_ _=>go 7 ?_;exact Yx a () results234 (by rw [Zow c];first|(simp_all;done)|(simp_all;omega)) aA Za
  .refine go 18 ?_;exact Yx a () results234 (by rw [Zow c];first|(simp_all;done)|(simp_all;omega)) aA Za
def Xi(h:Vp xs):Cal prog 234 #[v] [Ys 2 wv v xs] false (G:=Unit) (λ_=>True) (λ_=> .bool true) (λ_=>[]):=okP_wr h▸(Zvb v (xs.map wr)).imp (slp_wr v xs) (λ_ h=>fpm h)
theorem Nr(hs:Sz 65536 xs):Xj prog 236 #[v] [Ys 2 wv v xs] (.int .i64 (Qz xs:Int)):=by
 refine Zd func236 ntmps236 λh g f c=>?_;refine Lh (Ev (i:=1) J Zk) λd=>go 19 ?_;refine lp (G:=Nat) [6,7] [0,1] (λk=>[(8,.int .i64 (k:Int)),(3,.int .i64 (Qz (xs.take k):Int))]) (λk=>[]) (λk=>k<=xs.length) (λk=>xs.length-k) 0 O1 K2 aA ?_;rintro k e;refine go 6<|Zc J (λa=>?_) (λa=>?_)
 .refine go 8 ⟨O2,O2,?_⟩;refine Zz (Zx 2) λb _=>go 6 ?_;refine cl 2 [] (Zjh (hs.getD _)) λ_ _=>?_;refine dt (Zb1 J J J)<|go 8 ⟨O,?_⟩;exact Yl (k+1) O1 O1 ⟨J,by rw [Ps 0 _ _ O,Ye8];exact aN some (Yfv O),aA⟩ aA
 .refine go 12 ?_;exact Yx c () results236 (by rw [cC O]) aA Za
theorem Zpq{e f:Int}{n:Bool}{s:ByteArray}:Zda prog 299 #[.pointer (some ⟨bd,0,none⟩),.agg #[.bool n,.string s],.int .i64 f] [] false bd t #[.int .i64 e] (G:=Unit) (λ_=>True) (λ_=> .agg #[.bool n,.string s]) (λ_=>#[.int .i64 (if e=0 then f else e)]) (λ_=>[]):=by
 refine El func299 J ntmps299 J aA ?_;intro j i g c;have g:=Hw.mk g;simp only [Qf,Yg];refine go 2<|Zz (Zu 2) λb _=>Zz (Zx 3) λh _=>go 12<|Zc J (λd=>?_) (λd=>?_)
 .refine go 15 ?_;exact Ez (.inl J) c () (λa w hs=>Fc hs results299 (Gw 3 J J isAgg176 Oa J)) J aA 1 J (by simp_all [Gq]) J J Za
 .refine go 9 ?_;exact Ez (.inl J) c () (λa w hs=>Fc hs results299 (Gw 3 J J isAgg176 Oa J)) J aA 1 J (by simp_all [Gq]) J J Za
theorem d_mul_(bd:Nat)(e x y:Int)(h:bl x.natAbs<=65536)(i:bl y.natAbs<=65536):Zda prog 237 #[.pointer (some ⟨bd,0,none⟩),wv x,wv y] [] false bd 347 #[.int .i64 e] (G:=Unit) (λ_=>True) (λ_=>wv (Bt (x*y))) (λ_=>#[.int .i64 (err e (x*y))]) (λ_=>[]):=by refine El func237 J ntmps237 J aA ?_;intro k j d c;have d:=Hw.mk d;simp only [Qf,Yg];refine go 2<|Zz (Zu 2) λb _=>Zz (Zu 3) λf _=>Zz (Zx 4) λg _=>go 3<|Pd (λx=>x=bd) [(0,0),(1,0),(2,0),(3,0),(4,0),(5,1),(6,0),(7,0),(8,1),(9,3)]<|go 5<|Qk (Zv 4 [] (Zjg _ _ ‹_› ‹_›)) λ_ _=>go 2 ?_;refine Bm J (Qn 4 1 Zpq J J J K3 call299 J O3 Zs J d.h J) λ_ _=>go 4 ?_;exact Ez (.inl J) c () (λa w hs=>Fc hs results237 (Gw 4 J J isAgg176 Oa J)) J aA 1 J J J J Za
theorem Dh(c:bl x.natAbs<=65536)(d:bl y.natAbs<=65536)(a:bl (x*y).natAbs<=65536):Zda prog 237 #[.pointer (some ⟨bd,0,none⟩),wv x,wv y] [] false bd 347 #[.int .i64 0] (G:=Unit) (λ_=>True) (λ_=>wv (x*y)) (λ_=>#[.int .i64 0]) (λ_=>[]):=by have h:=d_mul_ bd 0 x y c d;rw [Nh a,Zvw a]at h;exact h
theorem d_add_(bd:Nat)(e x y:Int)(h:bl x.natAbs<=65536)(i:bl y.natAbs<=65536):Zda prog 238 #[.pointer (some ⟨bd,0,none⟩),wv x,wv y] [] false bd 347 #[.int .i64 e] (G:=Unit) (λ_=>True) (λ_=>wv (Bt (x+y))) (λ_=>#[.int .i64 (err e (x+y))]) (λ_=>[]):=by refine El func238 J ntmps238 J aA ?_;intro k j d c;have d:=Hw.mk d;simp only [Qf,Yg];refine go 2<|Zz (Zu 2) λb _=>Zz (Zu 3) λf _=>Zz (Zx 4) λg _=>go 3<|Pd (λx=>x=bd) [(0,0),(1,0),(2,0),(3,0),(4,0),(5,1),(6,0),(7,0),(8,1),(9,3)]<|go 5<|Qk (Zv 4 [] (Zqz ‹_› ‹_›)) λ_ _=>go 2 ?_;refine Bm J (Qn 4 1 Zpq J J J K3 call299 J O3 Zs J d.h J) λ_ _=>go 4 ?_;exact Ez (.inl J) c () (λa w hs=>Fc hs results238 (Gw 4 J J isAgg176 Oa J)) J aA 1 J J J J Za
theorem Zlm(c:bl x.natAbs<=65536)(d:bl y.natAbs<=65536)(a:bl (x+y).natAbs<=65536):Zda prog 238 #[.pointer (some ⟨bd,0,none⟩),wv x,wv y] [] false bd 347 #[.int .i64 0] (G:=Unit) (λ_=>True) (λ_=>wv (x+y)) (λ_=>#[.int .i64 0]) (λ_=>[]):=by have h:=d_add_ bd 0 x y c d;rw [Nh a,Zvw a]at h;exact h
theorem d_sub_(bd:Nat)(e x y:Int)(h:bl x.natAbs<=65536)(i:bl y.natAbs<=65536):Zda prog 330 #[.pointer (some ⟨bd,0,none⟩),wv x,wv y] [] false bd 347 #[.int .i64 e] (G:=Unit) (λ_=>True) (λ_=>wv (Bt (x-y))) (λ_=>#[.int .i64 (err e (x-y))]) (λ_=>[]):=by refine El func330 J ntmps330 J aA ?_;intro k j d c;have d:=Hw.mk d;simp only [Qf,Yg];refine go 2<|Zz (Zu 2) λb _=>Zz (Zu 3) λf _=>Zz (Zx 4) λg _=>go 3<|Pd (λx=>x=bd) [(0,0),(1,0),(2,0),(3,0),(4,0),(5,1),(6,0),(7,0),(8,1),(9,3)]<|go 5<|Qk (Zv 4 [] (Ycf ‹_› ‹_›)) λ_ _=>go 2 ?_;refine Bm J (Qn 4 1 Zpq J J J K3 call299 J O3 Zs J d.h J) λ_ _=>go 4 ?_;exact Ez (.inl J) c () (λa w hs=>Fc hs results330 (Gw 4 J J isAgg176 Oa J)) J aA 1 J J J J Za
theorem Zv3(c:bl x.natAbs<=65536)(d:bl y.natAbs<=65536)(a:bl (x-y).natAbs<=65536):Zda prog 330 #[.pointer (some ⟨bd,0,none⟩),wv x,wv y] [] false bd 347 #[.int .i64 0] (G:=Unit) (λ_=>True) (λ_=>wv (x-y)) (λ_=>#[.int .i64 0]) (λ_=>[]):=by have h:=d_sub_ bd 0 x y c d;rw [Nh a,Zvw a]at h;exact h
theorem Yho(hs:Sz 65536 xs):Cal prog 239 #[.pointer (some ⟨bd,0,none⟩),v] [Oz bd 347 #[.int .i64 0],Ys 2 wv v xs] true (G:=Unit) (λ_=>True) (λ_=> .tuple #[Gi v (tzl xs).length,.int .i64 0]) (λ_=>[Ys 2 wv (Gi v (tzl xs).length) (tzl xs)]):=by
 refine Zd func239 ntmps239 λf e d c=>go 17 ?_;refine Zc J (λa=>?_) (λa=>?_)
 .exfalso;simp_all
 .refine go 5 ?_;refine cl 3 [2] (Zdh ‹_›) λ_ _=>go 5 ?_;exact Nn c () results239 J aA (Kd 3 Za)
theorem Ka(c:Int)(g:Vp xs)(m:bl c.natAbs<=65536)(h:∀i,bl (cf xs i*c).natAbs<=65536):Cal prog 170 #[v,wv c] [Ys 2 wv v xs] true (G:=Value) (λr=>True) (λr=> .tuple #[r,.int .i64 0]) (λr=>[Ys 2 wv r (Yi xs c)]):=by
 refine Zd func170 ntmps170 λp o e d=>?_;have f:=g.len;refine go 2<|Zz (Zu 2) λb _=>go 8 ?_;refine cl 2 [1] (Xi ‹_›) λ_ _=>go 3 ?_;refine Kj 2 [] (Lx ‹_›) λ_ _=>go 9<|Zz (Zx 3) λj _=>go 6 ?_;refine tt (Et 4 _ 24 (enc:=wv) 0 J J J J Pe ti176 J pV.cells pV.pos J J J e.h J J) λv _=>go 12 ?_;refine lp (G:=Nat) [3,6,7,21,22] [0,1,2,3] (λk=>[(23,.int .i64 (k:Int))]) (λk=>[(4,Ol 2 176 wv v (fill xs.length k (λi=>cf xs i*c)))]) (λk=>k<=xs.length) (λk=>xs.length-k) 0 O1 K1 ⟨by rw [Be xs.length (λi=>cf xs i*c)];rfl,aA⟩ ?_;rintro k n;refine go 6<|Zc J (λa=>?_) (λa=>?_)
 .refine go 9 ⟨O2,O2,?_⟩;refine Zz (Zx 5) λl _=>go 9 ?_;refine tt (Qn 5 3 (Dh (g.sz.getD _) m (h _)) J J J K3 call237 J O3 Zs J e.h aA) (λ_ _=>?_);refine dt (Ym 4 k J J J J (Yo pV) Pe Oa J (by rw [Pa];omega))<|tt (Lm 4 (enc:=wv) J J J J J J pV J e.h O3 (by rw [Pa];omega)) (λ_ _=>?_);refine go 7 ⟨O,?_⟩;exact Yl (k+1) O1 O1 K1 ⟨by rw [<-Zcs O];rfl,aA⟩
 .refine go 6 ?_;obtain rfl:k=xs.length:=O;refine Zr (Na 4 J J pV)<|Zr (Zce 3 J J)<|go 2 ?_;refine cl 6 [3,4] (Yho (by rw [Eg];exact Zf0 λi _=>h i)) λ_ _=>go 7 ?_;exact Nn d _ results170 J aA (Kd 6 Za (by rw [Yay]<;>rfl))
theorem Aq(e:Vp xs)(h:∀i,bl (cf xs (i+1)*((i:Int)+1)).natAbs<=65536):Cal prog 278 #[v] [Ys 2 wv v xs] true (G:=Value) (λr=>True) (λr=> .tuple #[r,.int .i64 0]) (λr=>[Ys 2 wv r (Xb xs)]):=by
 refine Zd func278 ntmps278 λo m f d=>?_;have g:=e.len;refine go 10 ?_;refine cl 1 [1] (Xi ‹_›) λ_ _=>go 14<|Zc J (λa=>?_) (λa=>?_)
 .refine go 8 ?_;exact Nn d _ results278 J aA (Lg (Yen O) Za)
 .refine go 4<|Zz (Zx 2) λb _=>?_;refine go 7 ⟨O,?_⟩;refine tt (Et 3 (xs.length-1) 24 (enc:=wv) 0 J J J J Pe ti176 J pV.cells pV.pos J J J f.h) λv _=>go 12 ?_;refine lp (G:=Nat) [0,4,5,18] [0,1,2] (λk=>[(19,.int .i64 (k:Int))]) (λk=>[(3,Ol 2 176 wv v (fill (xs.length-1) k (λi=>cf xs (i+1)*((i:Int)+1))))]) (λk=>k<=xs.length-1) (λk=>xs.length-1-k) 0 O1 K1 ⟨by rw [Be (xs.length-1) (λi=>cf xs (i+1)*((i:Int)+1))];rfl,aA⟩ ?_;rintro k l;have j:(fill (xs.length-1) k (λi=>cf xs (i+1)*((i:Int)+1))).length=xs.length-1:=Pa _ _ _;refine go 6<|Zc J (λc=>?_) (λc=>?_)
  .try rw [aT]at *
   refine go 10<|Pd (λx=>x=b) [(0,0),(1,0),(2,0),(3,0),(4,0),(5,0),(6,0),(7,0),(8,0),(9,1),(10,1),(11,0),(12,3)]<|go 5 ⟨O,?_⟩;refine Qb J J (st1 2 J (Ym 1 (k+1) J J J J Zk Pe Oa))<|go 3 ⟨O,O,?_⟩;refine Qk (Zv 3 [] (Zn _ (by first|assumption|exact⟨O,O⟩))) λ_ _=>?_;refine Bm J (Qn 3 2 (Dh (x:=cf xs (k+1)) (y:=((k:Int)+1)) (e.sz _) (aB (Lk (n:=32) O) O3) (h k)) J J J K3 call237 J O3 Zs J f.h J) (λ_ _=>?_);refine Qb J J (st1 2 J (Ym 3 k J J J J (Yo pV) Pe Oa J (by rw [Pa];omega)))<|r3' J (Lm 3 (enc:=wv) J J J J J J pV J f.h O3 (by rw [Pa];omega)) (λ_ _=>?_);refine go 7 ⟨O,?_⟩;exact Yl (k+1) O1 O1 K1 ⟨by rw [<-Zcs O];rfl,aA⟩
  .try rw [aT]at *
   refine go 6 ?_;obtain rfl:k=xs.length-1:=O;refine Zr (Na 3 J J pV)<|Zr (Zce 2 J J)<|go 2 ?_;refine cl 4 [2,3] (Yho (by rw [Eg];exact Zf0 λi _=>h i)) λ_ _=>go 7 ?_;exact Nn d _ results278 J aA (Kd 4 Za (by rw [Ykx e.tr]<;>rfl))
theorem Zop(j:Vp xs):Xj prog 331 #[v] [Ys 2 wv v xs] (.tuple #[wv (Xl xs),.int .i64 0]):=by
 refine Zd func331 ntmps331 λr q n i=>?_;have l:=j.len;have d:∀k,bl (Xl (xs.take k)).natAbs<=65536:=λk=>Zr6 _ (j.sz.take k);refine go 2<|Zz (Zx 2) λb _=>go 7 ?_;refine cl 2 [1] (Xi ‹_›) λ_ _=>go 8<|Zz (Zx 3) λf _=>go 4<|Zz (Zx 4) λg _=>go 11 ?_;refine lp (G:=Nat) [2,4,5,12,13] [0,1,2] (λk=>[(14,.int .i64 (k:Int))]) (λk=>[(4,box g 176 #[.bool (decide (Xl (xs.take k)<0)),.string (Xn (Xl (xs.take k)).natAbs)]),(3,box f 347 #[.int .i64 0])]) (λk=>k<=xs.length) (λk=>xs.length-k) 0 O1 K1 K2 ?_;rintro k o;have e:=λh=>Iq (p:=xs) (k:=k) h;refine go 6<|Zc J (λc=>?_) (λc=>?_)
 .refine go 8 ⟨O2,O2,?_⟩;refine Zz (Zx 5) λm _=>go 7 ?_;refine cl 5 [] (Zqy (Xl (xs.take k)) (xs.getD k 0) (d _) (j.sz.getD _)) λ_ _=>go 2 ?_;refine tt (Qn 5 3 Zpq J J J K3 call299 J O3 Zs J n.h aA) (λ_ _=>?_);refine go 8 ⟨O,?_⟩;have a:=d (k+1);rw [e O]at a;exact Yl (k+1) O1 O1 K1 ⟨by rw [e O];simp only [Nh a];rfl,by simp only [Zpj a];rfl,aA⟩
 .refine go 6<|Ng [3,4] [5] ?_;refine Zw 0 [(0,0),(1,0),(2,0),(3,0),(4,1),(5,3)]<|go 7 ?_;refine Yq<|go 2 ?_;exact Nn i () results331 (by rw [show k=xs.length by omega,bT]<;>rfl) aA Za
theorem Zmc{c:Int}(l:Sz 65536 xs)(j:xs.length<=1000)(q:bl c.natAbs<=65536)(s:∀i,c∣cf xs i)(f:xs≠[]->c≠0):Cal prog 332 #[v,wv c] [Ys 2 wv v xs] true (G:=Value) (λr=>True) (λr=> .tuple #[r,.int .i64 0]) (λr=>[Ys 2 wv r (xs.map (· / c))]):=by
 refine Zd func332 ntmps332 λB z m h=>go 2 ?_;refine Zz (Zu 2) λb _=>go 8 ?_;refine tt (Et 3 _ 24 (enc:=wv) 0 J J J J Pe ti176 J pV.cells pV.pos J J J m.h J J) λv _=>go 12 ?_;refine lp (G:=Nat) [3,6,15,16] [0,1,2] (λk=>[(17,.int .i64 (k:Int))]) (λk=>[(3,Ol 2 176 wv v (fill xs.length k (λi=>cf xs i/c)))]) (λk=>k<=xs.length) (λk=>xs.length-k) 0 O1 K1 ⟨by rw [Be xs.length (λi=>cf xs i/c)];rfl,aA⟩ ?_;rintro k w;have g:Bt (xs.getD k 0/c)=cf xs k/c:=Nh (Zbu (s k) (l k));refine go 6<|Zc J (λa=>?_) (λa=>?_)
 .refine go 9 ⟨O2,O2,?_⟩;refine Zz (Zx 4) λn _=>go 8 ?_;refine cl 4 [] (Bf (l.getD _) q (f (by intro e;rw [e]at a;simp at a;omega))) λ_ _=>go 4<|Zz (Zx 5) λo _=>Zz (Zx 6) λp _=>go 12<|Zc J (λd=>?_) (λd=>?_)
  .exfalso;simp_all
  .refine go 6 ?_;refine dt (Ym 3 k J J J J (Yo pV) Pe Oa J (by rw [Pa];omega))<|tt (Lm 3 (enc:=wv) J J J J J J pV J m.h O3 (by rw [Pa];omega)) (λ_ _=>?_);refine go 7 ⟨O,?_⟩;exact Yl (k+1) O1 O1 K1 ⟨by rw [<-Zcs O];simp only [g];rfl,aA⟩
 .refine go 13 ?_;obtain rfl:k=xs.length:=O;exact Nn h _ results332 J aA (gow 3 Za (by rw [Eg,Ye9 xs (· / c)]<;>rfl))
theorem Ny(c:Vp xs):Cal prog 282 #[v] [Ys 2 wv v xs] true (G:=Value) (λr=>True) (λr=> .tuple #[r,.int .i64 0]) (λr=>[Ys 2 wv r (Yh xs)]):=by
 refine Zd func282 ntmps282 λh g f d=>?_;have e:=c.len;refine go 9 ?_;refine cl 1 [1] (Zop ‹_›) λ_ _=>go 3<|Zz (Zx 2) λb _=>go 11<|Zc J (λa=>?_) (λa=>?_)
 .exfalso;simp_all
 .refine go 6 ?_;refine cl 3 [1] (Zmc c.sz O (Zr6 _ c.sz) (Lp _) c.ne) λ_ _=>go 7 ?_;exact Nn d _ results282 J aA (Kd 3 Za J)
theorem Ya1(n:Vp xs)(S:bl x.natAbs<=65536)(hy:bl y.natAbs<=65536)(a8:0<y):Xj prog 403 #[v,rX x y] [Ys 2 wv v xs] (.tuple #[wv (evv xs x y),.int .i64 (eve xs x y)]):=by
 refine Zd func403 ntmps403 λw0 sc p o=>?_;have c:=n.len;refine go 2<|Zz (Zu 2) λb _=>Zz (Zx 3) λZ _=>go 7 ?_;refine cl 3 [1] (Xi ‹_›) λ_ _=>go 3 ?_;refine Kj 3 [] (Og _ _ ‹_› ‹_› ‹_›) λ_ _=>go 15<|Zc J (λj=>?_) (λj=>?_)
 .refine go 2 ?_;refine dt (Xp [] J aA (λa w hs=>Yin))<|go 6 ?_;exact Nn o () results403 (by rw [aG (l:=xs) O];rfl) aA Za
 .have M:xs≠[]:=λe=>by rw [e]at j;simp at j
  have a6:=Py n.sz;have g:Sz 65536 [x,y]:=Sz.of_mem (by intro z V;simp at V;rcases V with rfl|rfl<;>assumption);have I:=Py g;have a7:(xs.length-1)*Qz [x,y]<=24*65536:=aY O I;have f:((xs.length:Int)-1)*(Qz [x,y]:Int)=(((xs.length-1)*Qz [x,y]:Nat):Int):=by rw [fT];congr 1;omega
  refine go 3 ?_;refine jn (G:=Unit) [0,3,4] [0,1,2,3] (λ_=>[(37,.bool (decide ((65536:Int)<(Qz xs:Int)+((xs.length:Int)-1)*(Qz [x,y]:Int)+8)))]) (λ_=>[]) (λ_=>True) ?_ ?_
  .refine Zac (λ_=>False) []<|Zw 7 [(0,0),(2,0),(3,0),(4,0),(5,0),(6,0),(7,0),(8,0)]<|go 9 ⟨O,?_⟩;refine Nm 6 1 9 ?_ ?_
   .refine Iy (Zv 3 [1] (Nr (by first|exact n.sz|exact g))) λ_ _=>?_;refine Zw 0 [(9,1),(10,1),(11,0),(12,0),(13,0),(14,0)]<|Bm J (Oe [(0,_),(1,_)] 90 (enc:=wv) [x,y] J J K4 Zw5 ti176 J J J J J pV.cells J J p.h) λv _=>Qk (Zv 3 [90] (Nr (by first|exact n.sz|exact g))) λ_ _=>?_;refine go 5 ⟨by rw [f];exact⟨O,O⟩,by rw [f];exact⟨O,O⟩,by rw [f];exact⟨O,O⟩,?_⟩;exact Yq<|Gd () aA K1 aA
   .refine Zaf J J (Oe [(0,_),(1,_)] 90 (enc:=wv) [x,y] J J K4 Zw5 ti176 J J J J J pV.cells J J p.h) (λa9 _=>?_);refine Zw 0 [(1,1),(10,1),(11,0),(12,0),(13,0),(14,0)]<|Qk (Zv 3 [1] (Nr (by first|exact n.sz|exact g))) λ_ _=>Qk (Zv 3 [90] (Nr (by first|exact n.sz|exact g))) λ_ _=>?_;refine go 5 ⟨by rw [f];exact⟨O,O⟩,by rw [f];exact⟨O,O⟩,by rw [f];exact⟨O,O⟩,?_⟩;exact Yq<|Gd () aA K1 aA
  .rintro _ -;refine Zc J (λm=>?_) (λm=>?_)
   .have B:Ke xs x y:=⟨M,by rw [f]at m;omega⟩;refine go 2 ?_;refine dt (Xp [] J aA (λa w hs=>Yin))<|go 6 ?_;exact Nn o () results403 (by unfold evv eve;rw [aF B,aF B]<;>rfl) aA Za
   .have i:Qz xs+(xs.length-1)*Qz [x,y]+8<=65536:=by rw [f]at m;omega
    refine go 4<|Zz (Zx 4) λH _=>go 2 ?_;refine jn (G:=Nat×Nat) [0,3,4,6] [0,1,2,3,4] (λq=>[(7,.pointer (some ⟨q.1,0,none⟩)),(8,.pointer (some ⟨q.2,0,none⟩))]) (λq=>[(97,box q.1 176 (wc (xs.getD (xs.length-1) 0))),(98,box q.2 176 (wc 1))]) (λq=>True) ?_ ?_
    .refine Zac (λ_=>False) [9,10]<|Zw 5 [(0,0),(1,0),(2,0),(3,0),(4,0),(5,0)]<|go 4 ⟨O,?_⟩;refine Qb J J (Pq (Ym 1 (xs.length-1) J J J J Zk Pe Oa))<|go 2 ⟨O,?_⟩;refine Yi1 4 6 7 8 ?_ ?_ ?_
     .refine Iy (Zv 4 [] (Zn _ (by first|assumption|exact⟨O,O⟩))) λ_ _=>?_;refine Nm 3 7 8 ?_ ?_
      .refine Iy (Zx 97) λa0 _=>?_;refine Zw 0 [(8,1),(9,3),(10,3)]<|Qk (Zx 98) λa1 _=>go 3 ?_;exact Yq<|Gd (_,_) aA K2 K2
      .refine Iy (Zx 98) λa2 _=>?_;refine Zw 0 [(7,1),(9,3),(10,3)]<|Qk (Zx 97) λa3 _=>go 3 ?_;exact Yq<|Gd (_,_) aA K2 K2
     .refine Iy (Zx 97) λa4 _=>?_;refine Nm 3 6 8 ?_ ?_
      .refine Iy (Zv 4 [] (Zn _ (by first|assumption|exact⟨O,O⟩))) λ_ _=>?_;refine Zw 0 [(8,1),(9,3),(10,3)]<|Qk (Zx 98) λa5 _=>go 3 ?_;exact Yq<|Gd (_,_) aA K2 K2
      .refine Iy (Zx 98) λN _=>?_;refine Zw 0 [(6,1),(9,3),(10,3)]<|Qk (Zv 4 [] (Zn _ (by first|assumption|exact⟨O,O⟩))) λ_ _=>go 3 ?_;exact Yq<|Gd (_,_) aA K2 K2
     .refine Iy (Zx 98) λP _=>?_;refine Nm 3 6 7 ?_ ?_
      .refine Iy (Zv 4 [] (Zn _ (by first|assumption|exact⟨O,O⟩))) λ_ _=>?_;refine Zw 0 [(7,1),(9,3),(10,3)]<|Qk (Zx 97) λQ _=>go 3 ?_;exact Yq<|Gd (_,_) aA K2 K2
      .refine Iy (Zx 97) λR _=>?_;refine Zw 0 [(6,1),(9,3),(10,3)]<|Qk (Zv 4 [] (Zn _ (by first|assumption|exact⟨O,O⟩))) λ_ _=>go 3 ?_;exact Yq<|Gd (_,_) aA K2 K2
    .rintro⟨W,Y⟩ -;dsimp only;refine go 10 ⟨O,?_⟩;refine lp (G:=Nat) [0,3,4,6,7,8] [0,1,2,3,4] (λk=>[(9,.int .i64 ((k:Int)-1))]) (λk=>[(97,box W 176 (wc (Lf xs x y k))),(98,box Y 176 (wc (y^(xs.length-1-k))))]) (λk=>k<=xs.length-1) (λk=>k) (xs.length-1) O1 ⟨by rw [show((xs.length-1:Nat):Int)-1=(xs.length:Int)-2 by omega];rfl,aA⟩ ⟨by rw [Yl0 x y O];rfl,by rw [lB,dD];rfl,aA⟩ ?_;rintro k D;refine go 7<|Zc J (λr=>?_) (λr=>?_)
     .have d:y^(xs.length-1-k)*y=y^(xs.length-1-(k-1)):=Yee y O D;have F:Lf xs x y k*x+xs.getD (k-1) 0*y^(xs.length-1-(k-1))=Lf xs x y (k-1):=Ybk x y O D;refine go 9 ?_;refine tt (Qn 4 4 (Dh (Zps i) hy (by rw [d];exact Zps i)) J J J K3 call237 J O3 Zs J p.h aA) λ_ _=>go 3 ?_;refine Pd (λx=>x=H) [(0,0),(1,0),(2,0),(4,0),(5,0),(6,0),(7,0),(8,0),(3,1),(9,1),(10,1),(11,3)]<|go 5 ?_;refine Qb J J (st1 4 J (Ym 1 (k-1) J J J J Zk Pe Oa))<|go 2 ⟨O,?_⟩;refine Bm J (Qn 4 4 (Dh (by first|exact Zpt i c _|exact n.sz.getD _) (by first|exact S|(rw [d];exact Zps i)) (by first|exact Zvv i c O D|(rw [d];exact Zpr i))) J J J K3 call237 J O3 Zs J p.h J) (λ_ _=>?_);refine Bm J (Qn 4 4 (Dh (by first|exact Zpt i c _|exact n.sz.getD _) (by first|exact S|(rw [d];exact Zps i)) (by first|exact Zvv i c O D|(rw [d];exact Zpr i))) J J J K3 call237 J O3 Zs J p.h J) (λ_ _=>?_);refine Bm J (Qn 4 4 (Zlm (Zvv i c O D) (by rw [d];exact Zpr i) (by rw [d,F];exact Zpt i c _)) J J J K3 call238 J O3 Zs J p.h J) (λ_ _=>?_);refine go 9 ⟨O,?_⟩;exact Yl (k-1) O1 O1 ⟨by rw [show((k-1:Nat):Int)-1=(k:Int)-1-1 by omega];rfl,aA⟩ ⟨by rw [d,F];rfl,by rw [d];rfl,aA⟩
     .refine go 14<|Zc J (λs=>?_) (λs=>?_)
      .exfalso;simp_all
      .refine go 10 ?_;obtain rfl:k=0:=O;have B:¬Ke xs x y:=λh=>by have:=h.2;omega
       exact Nn o () results403 (by unfold evv eve;rw [aD B,aD B,<-Zsv]<;>rfl) aA Za
theorem Zr2(e:Vp xs)(g:bl x.natAbs<=65536)(h:bl y.natAbs<=65536)(d:0<y):Xj prog 378 #[v,rX x y] [Ys 2 wv v xs] (.tuple #[.int .i64 (evv xs x y).sign,.int .i64 (eve xs x y)]):=by refine Zd func378 ntmps378 λk j i c=>?_;have a:=e.len;refine go 2<|Zz (Zu 2) λb _=>go 8 ?_;refine cl 2 [1] (Ya1 e g h d) λ_ _=>go 3<|Zz (Zx 3) λf _=>go 7 ?_;refine cl 3 [] (Iv (evv_bl a)) λ_ _=>go 6 ?_;exact Nn c () results378 J aA Za
theorem Za4(hs:Sz 65536 xs):Zda prog 239 #[.pointer (some ⟨bd,0,none⟩),v] [Ys 2 wv v xs] true bd 347 #[.int .i64 0] (G:=Unit) (λ_=>True) (λ_=> .tuple #[Gi v (tzl xs).length,.int .i64 0]) (λ_=>#[.int .i64 0]) (λ_=>[Ys 2 wv (Gi v (tzl xs).length) (tzl xs)]):=by
 refine El func239 J ntmps239 J K1 ?_;intro g f e d;have e:=Hw.mk e;simp only [Qf,Yg];refine go 17<|Zc J (λc=>?_) (λc=>?_)
 .exfalso;simp_all
 .refine go 5 ?_;refine cl 3 [2] (Zdh ‹_›) λ_ _=>go 5 ?_;exact Ez (.inl J) d () (λa w hs=>Zu8 hs results239 J J) J aA 1 J J J J (Gk 3 J J J Za)
theorem Zzr(h:xs.length*24<=140737488355328:=by omega):Yjd prog 400 #[v] [Ys 2 wv v xs] (G:=Value) (λr=>True) (λr=>r) (λr=>Ol 2 176 wv r xs):=by
 refine Zqe func400 J ntmps400 J K1 ?_;intro k j e f;have e:=Hw.mk e;simp only [Qf,Yg];refine Lh (Ygz (i:=1) J Zk) λd=>go 9 ?_;refine dt (Zp3 J J J (i:=1) J Zk Pe)<|go 2 ?_;refine Yp J (λc=>?_) (λc=>?_)
 .refine go 7 ?_;obtain rfl:xs=[]:=d (by simpa using c);exact Xg (Hb 9 2 176 wv)<|Zgr (.inl J) (.slice none 0 0) (λa w hs=>Fc hs results400 J) J aA J 9 J J J
 .refine go 4 ?_;refine tt (Ycw 2 (enc:=wv) J J J Pe pV J e.h) λv _=>go 1 ?_;refine tt (Fr 2 1 24 J J J J J J O3 J Zk Pe ti176 J pV J J J O9 O3 J e.h) λg _=>go 4 ?_;exact Zgr (.inl J) _ (λa w hs=>Fc hs results400 J) J aA J 2 J (by rfl) J
theorem Zh2(d:Vp xs):Xj prog 396 #[v] [Ys 2 wv v xs] (.tuple #[.int .i64 ((xs.length:Int)-1),.int .i64 0]):=by refine Zd func396 ntmps396 λg f e a=>?_;have c:=d.len;refine go 10 ?_;refine cl 1 [1] (Xi ‹_›) λ_ _=>?_;refine go 16 ⟨O,?_⟩;exact Nn a () results396 J aA Za
theorem Zm3(c:Vp xs):Xj prog 397 #[v] [Ys 2 wv v xs] (.tuple #[.int .i64 (Qz xs:Int),.int .i64 0]):=by refine Zd func397 ntmps397 λf e d a=>go 10 ?_;refine cl 1 [1] (Xi ‹_›) λ_ _=>go 9 ?_;refine cl 1 [1] (Nr c.sz) λ_ _=>go 5 ?_;exact Nn a () results397 J aA Za
theorem Zty(n:Vp xs)(m:Vp ys)(o:∀i,bl (cf xs i+cf ys i).natAbs<=65536):Zda prog 329 #[v,u,.pointer (some ⟨bd,0,none⟩),.func (.func 238) #[.pointer (some ⟨bd,0,none⟩)] #[]] [Ys 2 wv v xs,Ys 2 wv u ys] true bd 347 #[.int .i64 0] (G:=Value) (λr=>True) (λr=> .tuple #[r,.int .i64 0]) (λr=>#[.int .i64 0]) (λr=>[Ys 2 wv r (Zcj xs ys)]):=by
 refine El func329 J ntmps329 J K2 ?_;intro B z c j;have c:=Hw.mk c;simp only [Qf,Yg];have l:=n.len;have h:=m.len;refine go 10 ?_;refine cl 3 [2] (Xi ‹_›) λ_ _=>go 3 ?_;refine Kj 3 [3] (Xi ‹_›) λ_ _=>go 13 ?_;refine dt (Zb1 J J J)<|tt (Et 4 (max xs.length ys.length) 24 (enc:=wv) 0 J J J J Pe ti176 J pV.cells pV.pos J J J c.h) λv _=>go 12 ?_;refine lp (G:=Nat) [0,1,2,3,10,29] [0,1,2,3] (λk=>[(30,.int .i64 (k:Int))]) (λk=>[(4,Ol 2 176 wv v (fill (max xs.length ys.length) k (λi=>cf xs i+cf ys i)))]) (λk=>k<=max xs.length ys.length) (λk=>max xs.length ys.length-k) 0 O1 K1 ⟨by rw [Be (max xs.length ys.length) (λi=>cf xs i+cf ys i)];rfl,aA⟩ ?_;rintro k s;have q:(fill (max xs.length ys.length) k (λi=>cf xs i+cf ys i)).length=max xs.length ys.length:=Pa _ _ _;refine go 6<|Zc J (λd=>?_) (λd=>?_)
 .try rw [aT]at *
  refine go 12<|Zz (Zx 5) λb _=>Zz (Zx 6) λg _=>go 2 ?_;refine jn (G:=Unit) [0,1,2,3,10,11,12,13,29,30] [0,4,1,2,3,6] (λ_=>[]) (λ_=>[(5,box b 176 (wc (cf xs k)))]) (λ_=>True) ?_ ?_
  .refine go 8<|Zc J (λe=>?_) (λe=>?_)
   .refine go 7 ⟨O2,O2,?_⟩;exact Gd () aA aA ⟨by first|rfl|(rw [Yn (p:=xs) O];rfl),aA⟩
   .refine go 1 ?_;exact Gd () aA aA ⟨by first|rfl|(rw [Yn (p:=xs) O];rfl),aA⟩
  .rintro _ -;refine jn (G:=Unit) [0,1,2,3,10,11,12,13,29,30] [0,5,4,1,2,3] (λ_=>[]) (λ_=>[(6,box g 176 (wc (cf ys k)))]) (λ_=>True) ?_ ?_
   .refine go 8<|Zc J (λf=>?_) (λf=>?_)
    .refine go 7 ⟨O2,O2,?_⟩;exact Gd () aA aA ⟨by first|rfl|(rw [Yn (p:=ys) O];rfl),aA⟩
    .refine go 1 ?_;exact Gd () aA aA ⟨by first|rfl|(rw [Yn (p:=ys) O];rfl),aA⟩
   .rintro _ -;refine go 6 ?_;refine tt (Zq7 6 1 [_] [_,_] (Zlm (n.sz _) (m.sz _) (o _)) J J J J K2 call238 J O3 Zs J c.h aA) (λ_ _=>?_);refine dt (Ym 4 k J J J J (Yo pV) Pe Oa J (by rw [Pa];omega))<|tt (Lm 4 (enc:=wv) J J J J J J pV J c.h O3 (by rw [Pa];omega)) (λ_ _=>?_);refine go 7 ⟨O,?_⟩;exact Yl (k+1) O1 O1 K1 ⟨by rw [<-Zcs O];rfl,aA⟩
 .try rw [aT]at *
  refine go 6 ?_;obtain rfl:k=max xs.length ys.length:=O;refine Zr (Na 4 J J pV)<|go 3 ?_;refine tt (Qn 7 1 (Za4 (by rw [Eg];exact Zf0 λi _=>o i)) J J J K2 call239 J O3 (Yd 4 J J J Zs) J c.h aA) λ_ _=>go 7 ?_;exact Ez (.inl J) j _ (λa w hs=>Zu8 hs results329 J J) J aA 1 J J J J (Zk8 7 J J J (by rw [Eg]<;>rfl) Za)
theorem Ztx(n:Vp xs)(m:Vp ys)(o:∀i,bl (cf xs i-cf ys i).natAbs<=65536):Zda prog 329 #[v,u,.pointer (some ⟨bd,0,none⟩),.func (.func 330) #[.pointer (some ⟨bd,0,none⟩)] #[]] [Ys 2 wv v xs,Ys 2 wv u ys] true bd 347 #[.int .i64 0] (G:=Value) (λr=>True) (λr=> .tuple #[r,.int .i64 0]) (λr=>#[.int .i64 0]) (λr=>[Ys 2 wv r (Zbl xs ys)]):=by
 refine El func329 J ntmps329 J K2 ?_;intro B z c j;have c:=Hw.mk c;simp only [Qf,Yg];have l:=n.len;have h:=m.len;refine go 10 ?_;refine cl 3 [2] (Xi ‹_›) λ_ _=>go 3 ?_;refine Kj 3 [3] (Xi ‹_›) λ_ _=>go 13 ?_;refine dt (Zb1 J J J)<|tt (Et 4 (max xs.length ys.length) 24 (enc:=wv) 0 J J J J Pe ti176 J pV.cells pV.pos J J J c.h) λv _=>go 12 ?_;refine lp (G:=Nat) [0,1,2,3,10,29] [0,1,2,3] (λk=>[(30,.int .i64 (k:Int))]) (λk=>[(4,Ol 2 176 wv v (fill (max xs.length ys.length) k (λi=>cf xs i-cf ys i)))]) (λk=>k<=max xs.length ys.length) (λk=>max xs.length ys.length-k) 0 O1 K1 ⟨by rw [Be (max xs.length ys.length) (λi=>cf xs i-cf ys i)];rfl,aA⟩ ?_;rintro k s;have q:(fill (max xs.length ys.length) k (λi=>cf xs i-cf ys i)).length=max xs.length ys.length:=Pa _ _ _;refine go 6<|Zc J (λd=>?_) (λd=>?_)
 .try rw [aT]at *
  refine go 12<|Zz (Zx 5) λb _=>Zz (Zx 6) λg _=>go 2 ?_;refine jn (G:=Unit) [0,1,2,3,10,11,12,13,29,30] [0,4,1,2,3,6] (λ_=>[]) (λ_=>[(5,box b 176 (wc (cf xs k)))]) (λ_=>True) ?_ ?_
  .refine go 8<|Zc J (λe=>?_) (λe=>?_)
   .refine go 7 ⟨O2,O2,?_⟩;exact Gd () aA aA ⟨by first|rfl|(rw [Yn (p:=xs) O];rfl),aA⟩
   .refine go 1 ?_;exact Gd () aA aA ⟨by first|rfl|(rw [Yn (p:=xs) O];rfl),aA⟩
  .rintro _ -;refine jn (G:=Unit) [0,1,2,3,10,11,12,13,29,30] [0,5,4,1,2,3] (λ_=>[]) (λ_=>[(6,box g 176 (wc (cf ys k)))]) (λ_=>True) ?_ ?_
   .refine go 8<|Zc J (λf=>?_) (λf=>?_)
    .refine go 7 ⟨O2,O2,?_⟩;exact Gd () aA aA ⟨by first|rfl|(rw [Yn (p:=ys) O];rfl),aA⟩
    .refine go 1 ?_;exact Gd () aA aA ⟨by first|rfl|(rw [Yn (p:=ys) O];rfl),aA⟩
   .rintro _ -;refine go 6 ?_;refine tt (Zq7 6 1 [_] [_,_] (Zv3 (n.sz _) (m.sz _) (o _)) J J J J K2 call330 J O3 Zs J c.h aA) (λ_ _=>?_);refine dt (Ym 4 k J J J J (Yo pV) Pe Oa J (by rw [Pa];omega))<|tt (Lm 4 (enc:=wv) J J J J J J pV J c.h O3 (by rw [Pa];omega)) (λ_ _=>?_);refine go 7 ⟨O,?_⟩;exact Yl (k+1) O1 O1 K1 ⟨by rw [<-Zcs O];rfl,aA⟩
 .try rw [aT]at *
  refine go 6 ?_;obtain rfl:k=max xs.length ys.length:=O;refine Zr (Na 4 J J pV)<|go 3 ?_;refine tt (Qn 7 1 (Za4 (by rw [Eg];exact Zf0 λi _=>o i)) J J J K2 call239 J O3 (Yd 4 J J J Zs) J c.h aA) λ_ _=>go 7 ?_;exact Ez (.inl J) j _ (λa w hs=>Zu8 hs results329 J J) J aA 1 J J J J (Zk8 7 J J J (by rw [Eg]<;>rfl) Za)
theorem Yeg(xs ys:List Int)(e:Vp xs)(d:Vp ys)(f:∀i,bl (cf xs i+cf ys i).natAbs<=65536):Cal prog 280 #[v,u] [Ys 2 wv v xs,Ys 2 wv u ys] true (G:=Value) (λr=>True) (λr=> .tuple #[r,.int .i64 0]) (λr=>[Ys 2 wv r (Zcj xs ys)]):=by refine Zd func280 ntmps280 λh g c a=>go 8 ?_;refine Zz (Zx 3) λb _=>go 6 ?_;refine dt (d_mkf [_] J K1)<|tt (Qn 4 3 (Zty ‹_› ‹_› ‹_›) J J J K4 call329 J O3 (Yd 1 J J J (Yd 2 J J J Zs)) J c.h aA) λ_ _=>go 7 ?_;exact Nn a _ results280 J aA (Kd 4 Za)
theorem Yef(xs ys:List Int)(e:Vp xs)(d:Vp ys)(f:∀i,bl (cf xs i-cf ys i).natAbs<=65536):Cal prog 281 #[v,u] [Ys 2 wv v xs,Ys 2 wv u ys] true (G:=Value) (λr=>True) (λr=> .tuple #[r,.int .i64 0]) (λr=>[Ys 2 wv r (Zbl xs ys)]):=by refine Zd func281 ntmps281 λh g c a=>go 8 ?_;refine Zz (Zx 3) λb _=>go 6 ?_;refine dt (d_mkf [_] J K1)<|tt (Qn 4 3 (Ztx ‹_› ‹_› ‹_›) J J J K4 call329 J O3 (Yd 1 J J J (Yd 2 J J J Zs)) J c.h aA) λ_ _=>go 7 ?_;exact Nn a _ results281 J aA (Kd 4 Za)
theorem Zr3(xs ys:List Int)(B:Vp xs)(z:Vp ys)(M:¬Ar xs ys):Cal prog 279 #[v,u] [Ys 2 wv v xs,Ys 2 wv u ys] true (G:=Value) (λr=>True) (λr=> .tuple #[r,.int .i64 0]) (λr=>[Ys 2 wv r (Qr xs ys)]):=by
 refine Zd func279 ntmps279 λw0 sc D f=>?_;have N:=B.len;have I:=z.len;have V:=Py B.sz;have W:=Py z.sz;refine go 10 ?_;refine cl 2 [1] (Xi ‹_›) λ_ _=>go 3 ?_;refine Kj 2 [2] (Xi ‹_›) λ_ _=>go 14<|Zj 23 J (λF=>?_) (λF=>?_)
 .refine go 15 ?_;exact Nn f _ results279 J aA (Lg (Zfr (p:=xs) (q:=ys) (by first|(left;omega)|(right;omega))) Za)
 .refine go 6<|Zc J (λg=>?_) (λg=>?_)
  .refine go 8 ?_;exact Nn f _ results279 J aA (Lg (Zfr (p:=xs) (q:=ys) (by first|(left;omega)|(right;omega))) Za)
  .have c:xs≠[]:=by intro e;subst e;simp_all
   have d:ys≠[]:=by intro e;subst e;simp_all
   have R:0<xs.length:=aH.2 c;have S:0<ys.length:=aH.2 d;refine go 13 ⟨O,O,?_⟩;refine Zj 35 J (λH=>?_) (λH=>?_)
   .exfalso;exact M ⟨c,d,.inl O⟩
   .refine go 1 ?_;refine Kj 2 [1] (Nr (by first|exact B.sz|exact z.sz)) λ_ _=>go 1 ?_;refine Kj 2 [2] (Nr (by first|exact B.sz|exact z.sz)) λ_ _=>?_;refine go 6 ⟨O,O,?_⟩;refine Zc J (λk=>?_) (λk=>?_)
    .exfalso;exact M ⟨c,d,by first|(left;omega)|(right;omega)⟩
    .have Y:Qz xs+Qz ys+5<=65536:=O;have s:∀i j,bl (cf xs i*cf ys j).natAbs<=65536:=λi j=>by have:=Xq (cf xs i) (cf ys j);have:=Kt xs i;have:=Kt ys j;omega
     have n:∀i j t,i<25->bl (Za7 xs ys i j t).natAbs<=65536:=λi j t hi=>by have:=Ynp (i:=i) (j:=j) (t:=t) (Kt xs) (Kt ys) O;omega
     have o:∀t,bl (acc xs ys xs.length t).natAbs<=65536:=λt=>by have:=bl_acc (i:=xs.length) (t:=t) (Kt xs) (Kt ys) O;omega
     have w:∀i j,i<25->bl (Za7 xs ys i j (i+j)+cf xs i*cf ys j).natAbs<=65536:=λi j hi=>by rw [<-Yb8];exact n i (j+1) _ hi
     refine go 4<|Zz (Zx 3) λb _=>?_;refine go 10 ⟨O,O,?_⟩;refine tt (Et 4 (xs.length+ys.length-1) 24 (enc:=wv) 0 J J J J Pe ti176 J pV.cells pV.pos J J J D.h) λv _=>go 12 ?_;refine lp (G:=Nat) [1,6,7,51,52] [0,1,2,3] (λi=>[(53,.int .i64 (i:Int))]) (λi=>[(4,Ol 2 176 wv v (mk (xs.length+ys.length-1) (acc xs ys i)))]) (λi=>i<=xs.length) (λi=>xs.length-i) 0 O1 K1 ⟨by rw [Zu9];rfl,aA⟩ ?_;rintro i hi;refine go 6<|Zc J (λl=>?_) (λl=>?_)
     .refine go 9 ⟨O2,O2,?_⟩;refine Zz (Zx 5) λP _=>go 12 ?_;refine lp (G:=Nat) [1,6,7,8,9,51,52,53,58,59] [0,1,2,3,5] (λj=>[(60,.int .i64 (j:Int))]) (λj=>[(4,Ol 2 176 wv v (mk (xs.length+ys.length-1) (Za7 xs ys i j)))]) (λj=>j<=ys.length) (λj=>ys.length-j) 0 O1 K1 ⟨by rw [Yb7];rfl,aA⟩ ?_;rintro j Z;have a:i+j<xs.length+ys.length-1->(mk (xs.length+ys.length-1) (Za7 xs ys i j)).getD (i+j) 0=Za7 xs ys i j (i+j):=λh=>Zdu h;refine go 6<|Zc J (λm=>?_) (λm=>?_)
      .refine go 9 ⟨O2,O2,?_⟩;refine Zz (Zx 6) λQ _=>go 4<|Pd (λx=>x=b) [(0,0),(1,0),(2,0),(3,0),(4,0),(5,0),(6,0),(7,0),(8,0),(9,0),(10,0),(11,0),(12,1),(13,1),(14,0),(15,3)]<|go 8 ⟨O,O,?_⟩;refine Qb J J (st1 3 J (Ym 4 (i+j) J J J J (Yo pV) Pe Oa O (by rw [Yt];omega)))<|go 3 ⟨by rw [Yt];omega,?_⟩;refine Bm J (Qn 6 3 (Dh (B.sz _) (z.sz _) (s i j)) J J J K3 call237 J O3 Zs J D.h J) (λ_ _=>?_);refine Bm J (Qn 6 3 (Zlm (by rw [a O];exact n i j _ O) (s i j) (by rw [a O];exact w i j O)) J J J K3 call238 J O3 Zs J D.h J) (λ_ _=>?_);refine Qb J J (st1 3 J (Ym 4 (i+j) J J J J (Yo pV) Pe Oa O (by rw [Yt];omega)))<|r3' J (Lm 4 (enc:=wv) J J J J J J pV J D.h O3 (by rw [Yt];omega)) (λ_ _=>?_);refine go 7 ⟨O,?_⟩;exact Yl (j+1) O1 O1 K1 ⟨by rw [<-Yiw O,<-a O];rfl,aA⟩
      .refine go 10 ⟨O,?_⟩;obtain rfl:j=ys.length:=O;exact Yl (i+1) O1 O1 K1 ⟨by rw [<-Yix];rfl,aA⟩
     .refine go 6 ?_;obtain rfl:i=xs.length:=O;refine Zr (Na 4 J J pV)<|go 2 ?_;refine tt (Qn 7 3 (Za4 (Zf0 λt _=>o t)) J J J K2 call239 J O3 (Yd 4 J J J Zs) J D.h aA) λ_ _=>go 7 ?_;exact Nn f _ results279 J aA (Kd 7 Za (by rw [Yei]<;>rfl))
end Go.Sky

