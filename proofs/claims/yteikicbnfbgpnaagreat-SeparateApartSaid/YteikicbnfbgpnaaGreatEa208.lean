/- Rules, arithmetic and contracts: part 9. No conditions but those that each theorem names. -/
import Derived.Test.YteikicbnfbgpnaaGreatEa207
set_option linter.all false
set_option maxHeartbeats 4000000
namespace Go.Sky
open Go.Proofs.Tryz
open Go.Proofs
set_option synthInstance.maxHeartbeats 0
set_option synthInstance.maxSize 100000
set_option maxRecDepth 20000
set_option linter.unusedSimpArgs false
variable{s t:Bool}{v w:Value}{x:Int}{listed:Array Bool}{ts:List Nat}{ops:Array Oper}
theorem Zr6(hs:sg s x):Cal prog 235 #[.agg #[.bool s,v]] [Dm v x.natAbs] true (G:=Bool×Value) (λr=>sg r.1 (-x)) (λr=> .agg #[.bool r.1,r.2]) (λr=>[Dm r.2 (-x).natAbs]):=by refine Zg func235 ntmps235 λg f e c=>go 2 ?_;refine Yd (Yk 2) λb _=>Yd (Zw 3) λd _=>go 9 ?_;refine dt (Xy [(0,_),(1,_)] J K4 (λa w hs=>Iq ((Yg J) a w hs) ((Of 1 J Zr) a w hs)))<|go 4 ?_;exact Xh c (!s,v) results235 J (Yi6 hs) (Ph 1 Za (by rw [dL]))
theorem Zep{y:Int}(hs:sg s x)(f:sg t y)(g:bl x.natAbs<=4294967296:=by omega)(h:bl y.natAbs<=4294967296:=by omega):Cal prog 167 #[.agg #[.bool s,v],.agg #[.bool t,w]] [Dm v x.natAbs,Dm w y.natAbs] true (G:=Bool×Value) (λr=>sg r.1 (x*y)) (λr=> .agg #[.bool r.1,r.2]) (λr=>[Dm r.2 (x*y).natAbs]):=by refine Zg func167 ntmps167 λk j i c=>go 2 ?_;refine Yd (Yk 3) λb _=>Yd (Yk 4) λd _=>Yd (Zw 5) λe _=>go 3<|Qb (λ_=>False) [(0,0),(1,0),(2,0),(3,0),(4,0),(5,0),(6,0),(7,0),(8,0),(9,1),(10,0),(11,3)]<|go 9<|Yn (Zl 6 [1,2] (Yc1 g h)) λv _=>?_;refine Xc J J (Xl (Xy [(0,_),(1,_)] J K4 (λa w hs=>Iq ((Yg J) a w hs) ((Of 6 J Zr) a w hs))))<|go 4 ?_;exact Xh c (_,_) results167 J (Yi7 hs f) (Ph 6 Za (by rw [bT]))
theorem Zm2(hs:sg s x)(g:bl x.natAbs<=4294967296:=by omega):Cal prog 236 #[.agg #[.bool s,v]] [Dm v x.natAbs] true (G:=Unit) (λ_=>True) (λ_=> .int .i64 x.sign) (λ_=>[]):=by
 refine Zg func236 ntmps236 λi h f d=>?_;have e:=Mv x.natAbs;refine go 2<|Yd (Yk 2) λb _=>go 14<|Ze J (λa=>?_) (λa=>?_)
 .refine go 8 ?_;exact Xh d () results236 (Yfu a) aA Za
 .refine go 7<|Mz J (λc=>?_) (λc=>?_)
  .refine go 8 ?_;exact Xh d () results236 (Yi1 hs c a) aA Za
  .refine go 9 ?_;exact Xh d () results236 (Yi0 hs c a) aA Za
theorem Zhe{y:Int}(hs:sg s x)(g:sg t y)(i:bl x.natAbs<=4294967296:=by omega)(j:bl y.natAbs<=4294967296:=by omega):Cal prog 170 #[.agg #[.bool s,v],.agg #[.bool t,w]] [Dm v x.natAbs,Dm w y.natAbs] true (G:=Bool×Value) (λr=>sg r.1 (x+y)) (λr=> .agg #[.bool r.1,r.2]) (λr=>[Dm r.2 (x+y).natAbs]):=by
 refine Zg func170 ntmps170 λu q p f=>go 2 ?_;refine Yd (Yk 3) λb _=>Yd (Yk 4) λl _=>Yd (Zw 5) λm _=>go 14<|Mz J (λd=>?_) (λd=>?_)
 .have c:s=t:=by simpa using d
  refine go 1<|Qb (λ_=>False) [(0,0),(1,0),(2,0),(3,0),(4,0),(5,0),(6,1),(7,0),(8,3)]<|go 6<|Yn (Zl 6 [1,2] (Yc3 i j)) λv _=>?_;refine Xc J J (Xl (Xy [(0,_),(1,_)] J K4 (λa w hs=>Iq ((Yg J) a w hs) ((Of 6 J Zr) a w hs))))<|go 6 ?_;exact Xh f (_,_) results170 J (Ybu hs (c▸g)) (Ph 6 Za (by rw [Zii hs (c▸g)]))
 .have c:s≠t:=by simpa using d
  refine go 6 ?_;refine cl 6 [1,2] (Zdo i j) λr k=>go 4<|Ze J (λh=>?_) (λh=>?_)
  .have e:y.natAbs<=x.natAbs:=by have:=k.1;omega
   refine go 1<|Qb (λ_=>False) [(0,0),(1,0),(2,0),(3,0),(4,0),(5,0),(6,1),(7,0),(8,3)]<|go 6<|Yn (Zl 7 [1,2] (Zhg i)) λn _=>?_;refine Xc J J (Xl (Xy [(0,_),(1,_)] J K4 (λa w hs=>Iq ((Yg J) a w hs) ((Of 7 J Zr) a w hs))))<|go 6 ?_;exact Xh f (_,_) results170 J (Zk1 hs g c e) (Ph 7 Za (by rw [Zb6 hs g c e]))
  .have e:x.natAbs<=y.natAbs:=by have:=k.1;omega
   refine go 4<|Qb (λ_=>False) [(0,0),(1,0),(2,0),(3,0),(4,0),(5,0),(6,1),(7,0),(8,3)]<|go 6<|Yn (Zl 8 [2,1] (Zhg j)) λo _=>?_;refine Xc J J (Xl (Xy [(0,_),(1,_)] J K4 (λa w hs=>Iq ((Yg J) a w hs) ((Of 8 J Zr) a w hs))))<|go 4 ?_;exact Xh f (_,_) results170 J (by rw [iP];exact Zk1 g hs (iH c) e) (Ph 8 Za (by rw [iP,Zb6 g hs (iH c) e]))
theorem Nl(hs:sg s x)(e:bl x.natAbs<=4294967296:=by omega):Cal prog 166 #[.agg #[.bool s,.string (Qp x.natAbs)]] [] true (G:=Bool×Value) (λr=>sg r.1 x) (λr=> .agg #[.bool r.1,r.2]) (λr=>[Dm r.2 x.natAbs]):=by refine Zg func166 ntmps166 λh g f c=>go 2 ?_;refine Yd (Yk 1) λb _=>Yd (Zw 2) λd _=>go 3<|Qb (λ_=>False) [(0,0),(1,0),(2,0),(3,0),(4,1),(5,0),(6,3)]<|go 4<|Yn (Zl 3 [] (Zeb e)) λv _=>?_;refine Xc J J (Xl (Xy [(0,_),(1,_)] J K4 (λa w hs=>Iq ((Yg J) a w hs) ((Of 3 J Zr) a w hs))))<|go 4 ?_;exact Xh c (_,_) results166 J hs (Ph 3 Za J)
theorem Gg(hs:sg s x)(g:bl x.natAbs<=4294967296:=by omega):Qe prog 184 #[.agg #[.bool s,v]] [Dm v x.natAbs] (Ze6 x):=by
 refine Zg func184 ntmps184 λi h f d=>go 2 ?_;refine Yd (Yk 2) λb _=>Yd (Zw 3) λe _=>go 8 ?_;refine cl 3 [1] Zm4 λ_ _=>go 3<|Ze J (λc=>?_) (λc=>?_)
 .refine go 2 ?_;refine dt (Xy [] J aA (λa w hs=>b80_))<|go 6 ?_;exact Nm d () results184 (Yff c) aA Za
 .refine go 3 ?_;cases s
  .refine Qb (λ_=>False) [(0,0),(1,0),(2,0),(3,2),(4,2),(5,2),(6,2),(7,0),(8,0),(9,0),(10,1),(11,0),(12,3),(13,3)]<|go 10<|Yn (Zl 3 [1] Zp0) λ_ _=>?_;refine Xc J J (Xl (Xy [(0,_),(1,_)] J K4 (λa w hs=>Ya3 ((Yg J) a w hs) ((Yg J) a w hs))))<|go 5 ?_;exact Nm d () results184 (by first|exact Zug hs c|exact Zuf hs c) aA Za
  .refine Qb (λ_=>False) [(0,0),(1,0),(2,0),(3,0),(4,0),(5,0),(6,0),(7,0),(8,0),(9,0),(10,1),(11,0),(12,3),(13,3)]<|go 10<|Yn (Zl 3 [1] Zp0) λ_ _=>?_;refine Xc J J (Xl (Xy [(0,_),(1,_)] J K4 (λa w hs=>Ya3 ((Yg J) a w hs) ((Yg J) a w hs))))<|go 5 ?_;exact Nm d () results184 (by first|exact Zug hs c|exact Zuf hs c) aA Za
theorem Zhd(x y:Int)(hs:sg s x)(m:sg t y)(M:bl y.natAbs<=3000000000)(i:y≠0)(I:bl x.natAbs<=3000000000:=by omega):Cal prog 218 #[.agg #[.bool s,v],.agg #[.bool t,w]] [Dm v x.natAbs,Dm w y.natAbs] true (G:=Bool×Value×Value) (λr=>sg r.1 (x/y)) (λr=> .tuple #[.agg #[.bool r.1,r.2.1],.agg #[.bool false,r.2.2]]) (λr=>[Dm r.2.1 (x/y).natAbs,Dm r.2.2 (x%y).natAbs]):=by
 refine Zg func218 ntmps218 λP N z f=>?_;have F:=Mv x.natAbs;have H:=Mv y.natAbs;have j:0<y.natAbs:=O1;have l:x.natAbs%y.natAbs<y.natAbs:=bI _ j;have u:=Pz (dH l);have q:=Pz (dS x.natAbs y.natAbs);refine go 2<|Yd (Yk 3) λb _=>Yd (Yk 4) λn _=>Yd (Zw 5) λo _=>Yd (Zw 6) λp _=>go 8 ?_;refine cl 7 [1,2] (Yc2 O1 O1 j) λg _=>go 13<|Zaa 18 J (λe=>?_) (λe=>?_)
 .refine go 6<|Ze J (λc=>?_) (λc=>?_)
  .subst e;have k:0<x.natAbs%y.natAbs:=by rcases aU (x.natAbs%y.natAbs)with h|h;(rw [h]at c;simp [Gu]at c);exact h
   have d:=divA hs m i k;refine Qb (λ_=>False) [(0,0),(3,0),(4,0),(5,0),(1,1),(2,1),(6,1),(7,0),(8,3)]<|go 4 ?_;refine Kp J (Xx [(0,_)] 9 (enc:=Lj) (dg U 1) J J K2 Oi ti232 J J J J J pU.cells J J z.h) λv _=>Yn (Zl 10 [7,9] (Yc3 O1 (show bl 1<=4294967296 by decide))) λB _=>Yn (Zl 11 [2,8] (Zhg O1)) λD _=>go 12 ?_;refine dt (Xy [(0,_),(1,_)] J K4 (λa w hs=>Iq ((Yg J) a w hs) ((Of 10 J Zr) a w hs)))<|go 1 ?_;refine dt (Xy [(0,_),(1,_)] J K4 (λa w hs=>Iq ((Yg J) a w hs) ((Of 11 J Zr) a w hs)))<|go 5 ?_;exact Nm f (_,_,_) results218 J d.1 (Ph 10 (Ph 11 Za (by rw [d.2.2]<;>rfl)) (by rw [d.2.1]<;>rfl))
  .have d:=divB hs m i (.inr ((Om Qh _).1 O1));refine go 10 ?_;refine dt (Xy [(0,_),(1,_)] J K4 (λa w hs=>Iq ((Yg J) a w hs) ((Of 7 J Zr) a w hs)))<|go 1 ?_;refine dt (Xy [(0,_),(1,_)] J K4 (λa w hs=>Iq ((Yg J) a w hs) ((Of 8 J Zr) a w hs)))<|go 5 ?_;exact Nm f (_,_,_) results218 J d.1 (Ph 7 (Ph 8 Za (by rw [d.2.2]<;>rfl)) (by rw [d.2.1]<;>rfl))
 .have d:=divB hs m i (.inl e);refine go 17 ?_;refine dt (Xy [(0,_),(1,_)] J K4 (λa w hs=>Iq ((Yg J) a w hs) ((Of 7 J Zr) a w hs)))<|go 1 ?_;refine dt (Xy [(0,_),(1,_)] J K4 (λa w hs=>Iq ((Yg J) a w hs) ((Of 8 J Zr) a w hs)))<|go 5 ?_;exact Nm f (_,_,_) results218 J d.1 (Ph 7 (Ph 8 Za (by rw [d.2.2]<;>rfl)) (by rw [d.2.1]<;>rfl))
variable {P:Program} {N:Nat} {sc:Nat->Prop} {M:Nat->Prop} {env:Pw} {H:Hp} {Q:Exit->Act->World->Prop}
structure BAct (i:Nat) (A:Prop):Prop where h:A
def bq(i:Nat){A:Prop}(h:A):BAct i A:=⟨h⟩
theorem Zc5 {l:List Oper}  {n:Nat}  (i k:Nat) (a:(Region.noSelect l.toArray && Fs l.toArray ts [(i,k)] listed)=true)
  (h:LD P N sc M l.toArray (A P N sc M l.toArray ts Q n (Ez [(i,k)] listed)) [(i,k)] env H):A P N sc M l.toArray ts Q (n+1) listed env H:=
 Zj _ [(i,k)] h (by rw [a,mI];show Nat.beq (1+n) (n+1)=true;rw [jH];exact Nat.beq_refl _)
theorem Zai    {n:Nat} (i:Nat) (c:((Region.ready .any ops listed == [i]) && !(Fn ops ts listed) && !([i]:List Nat).isEmpty)=true)
  (a:BAct i (Zga P N sc M ops ts Q n listed env H i)):A P N sc M ops ts Q (n+1) listed env H:=Ypb [i] c λq b=>by
 rw [bN.1 b];exact a.h
theorem Zag    {n:Nat} (i j:Nat) (d:((Region.ready .any ops listed == [i,j]) && !(Fn ops ts listed) && !([i,j]:List Nat).isEmpty)=true)
  (b:BAct i (Zga P N sc M ops ts Q n listed env H i)) (c:BAct j (Zga P N sc M ops ts Q n listed env H j)):A P N sc M ops ts Q (n+1) listed env H:=Ypb [i,j] d λq a=>by
 simp only [aX,cM,fO]at a;rcases a with rfl|rfl
 .exact b.h
 .exact c.h
theorem Ya7    {n:Nat} (i j k:Nat) (e:((Region.ready .any ops listed == [i,j,k]) && !(Fn ops ts listed) && !([i,j,k]:List Nat).isEmpty)=true)
  (b:BAct i (Zga P N sc M ops ts Q n listed env H i)) (c:BAct j (Zga P N sc M ops ts Q n listed env H j)) (d:BAct k (Zga P N sc M ops ts Q n listed env H k)):A P N sc M ops ts Q (n+1) listed env H:=Ypb [i,j,k] e λq a=>by
 simp only [aX,cM,fO]at a;rcases a with rfl|rfl|rfl
 .exact b.h
 .exact c.h
 .exact d.h
end Go.Sky
namespace Go.Sky
open Go.Proofs.Tryz
open Go.Proofs
set_option synthInstance.maxHeartbeats 0
set_option synthInstance.maxSize 100000
set_option maxRecDepth 20000
set_option linter.unusedSimpArgs false
variable{b:Bool}{x y:Int}{t:TypeId}{v u:Value}{xs ys:List Int}{bd:Nat}
theorem Zca{s:ByteArray}:Qe prog 178 #[.agg #[.bool b,.string s]] [] (.bool (okW b s)):=by
 refine Zg func178 ntmps178 λg f e c=>go 2 ?_;refine Yd (Yk 1) λb _=>go 8 ?_;refine dt (Yaj J J J J)<|go 2 ?_;refine Ze J (λa=>?_) (λa=>?_)
 .refine go 10 ?_;exact Xh c () results178 (by unfold okW;rw [aM a]) aA Za
 .refine go 6 ?_;refine dt (Zxt (i:=0) J J J uT9 J O1)<|go 2 ?_;refine Xf 13 J (λd=>?_) (λd=>?_)
  .refine go 9 ?_;exact Xh c () results178 (by unfold okW;rw [aK a];simp_all<;>omega) aA Za
  .refine go 9 ?_;exact Xh c () results178 (by unfold okW;rw [aK a];simp_all<;>omega) aA Za
def Ky(a:bl x.natAbs<=65536):Cal prog 178 #[wv x] [] false (G:=Unit) (λ_=>True) (λ_=> .bool true) (λ_=>[]):=Zdm a▸Zca
theorem Zoz(b:Bool)(s:ByteArray)(c:Bool)(t:ByteArray):Qe prog 228 #[.agg #[.bool b,.string s],.agg #[.bool c,.string t]] [] (.bool (okW b s && okW c t)):=by
 refine Zg func228 ntmps228 λh g f a=>go 2 ?_;refine Yd (Yk 1) λb _=>Yd (Yk 2) λe _=>go 6 ?_;refine cl 2 [] Zca λ_ _=>go 1<|Zaa 7 J (λd=>?_) (λd=>?_)
 .refine go 1 ?_;refine Hu 2 [] Zca λ_ _=>go 5 ?_;exact Xh a () results228 O11 aA Za
 .refine go 7 ?_;exact Xh a () results228 O11 aA Za
theorem Ha(a:bl x.natAbs<=65536)(c:bl y.natAbs<=65536):Qe prog 228 #[wv x,wv y] [] (.bool true):=by have h:=Zoz (decide (x<0)) (Qp x.natAbs) (decide (y<0)) (Qp y.natAbs);rw [Zdm a,Zdm c]at h;exact h
theorem Hs(e:bl x.natAbs<=65536):Qe prog 237 #[wv x] [] (.int .i64 x.sign):=by refine Zg func237 ntmps237 λh f d a=>go 2 ?_;refine Yd (Yk 1) λb _=>go 7 ?_;refine cl 1 [] (Ky ‹_›) λ_ _=>go 9 ?_;refine cl 2 [] (Nl (Qv _)) λg c=>cl 2 [2] (Zm2 ‹_›) λ_ _=>go 4 ?_;exact Xh a () results237 J aA Za
theorem Zlx(d:bl x.natAbs<=65536):Qe prog 240 #[wv x] [] (.int .i64 (bl x.natAbs:Int)):=by refine Zg func240 ntmps240 λf e c a=>go 2 ?_;refine Yd (Yk 1) λb _=>go 7 ?_;refine cl 1 [] (Ky ‹_›) λ_ _=>go 10 ?_;refine cl 2 [] Zeb λv _=>cl 2 [2] Zm4 λ_ _=>go 4 ?_;exact Xh a () results240 J aA Za
theorem Zuk(m:bl x.natAbs<=65536)(n:bl y.natAbs<=65536):Qe prog 180 #[wv x,wv y] [] (Ze6 (x+y)):=by refine Zg func180 ntmps180 λp o l a=>?_;have j:=Lp x y;refine go 2<|Yd (Yk 1) λb _=>Yd (Yk 2) λe _=>Yd (Zw 3) λf _=>go 8 ?_;refine cl 3 [] (Ha ‹_› ‹_›) λ_ _=>go 7<|Qb (λ_=>False) [(0,0),(2,0),(1,1),(3,1),(4,1),(5,1),(6,0),(7,0),(8,3),(9,3)]<|go 2<|Yn (Zl 4 [] (Nl (Qv _))) λg k=>Yn (Zl 5 [] (Nl (Qv _))) λh c=>Yn (Zl 6 [4,5] (Zhe ‹_› ‹_›)) λi d=>Yn (Zl 6 [6] (Gg ‹_›)) λ_ _=>go 7 ?_;exact Nm a () results180 J aA Za
theorem Yhs(p:bl x.natAbs<=65536)(q:bl y.natAbs<=65536):Qe prog 239 #[wv x,wv y] [] (Ze6 (x-y)):=by refine Zg func239 ntmps239 λs r o a=>?_;have m:=Cn x y;have l:=Zoe y;refine go 2<|Yd (Yk 1) λb _=>Yd (Yk 2) λf _=>Yd (Zw 3) λh _=>go 8 ?_;refine cl 3 [] (Ha ‹_› ‹_›) λ_ _=>go 7<|Qb (λ_=>False) [(0,0),(2,0),(1,1),(3,1),(4,1),(5,1),(6,1),(7,0),(8,0),(9,3),(10,3)]<|go 2<|Yn (Zl 4 [] (Nl (Qv _))) λg n=>Yn (Zl 5 [] (Nl (Qv _))) λi c=>Yn (Zl 6 [5] (Zr6 ‹_›)) λj d=>Yn (Zl 7 [4,6] (Zhe ‹_› ‹_›)) λk e=>Yn (Zl 7 [7] (Gg ‹_› (by rw [<-eT];omega))) λ_ _=>go 7 ?_;exact Nm a () results239 (by rw [eT]<;>rfl) aA Za
theorem Zuh(m:bl x.natAbs<=65536)(n:bl y.natAbs<=65536):Qe prog 234 #[wv x,wv y] [] (Ze6 (x*y)):=by refine Zg func234 ntmps234 λp o l a=>?_;have j:=Zy x y;refine go 2<|Yd (Yk 1) λb _=>Yd (Yk 2) λe _=>Yd (Zw 3) λf _=>go 8 ?_;refine cl 3 [] (Ha ‹_› ‹_›) λ_ _=>go 7<|Qb (λ_=>False) [(0,0),(2,0),(1,1),(3,1),(4,1),(5,1),(6,0),(7,0),(8,3),(9,3)]<|go 2<|Yn (Zl 4 [] (Nl (Qv _))) λg k=>Yn (Zl 5 [] (Nl (Qv _))) λh c=>Yn (Zl 6 [4,5] (Zep ‹_› ‹_›)) λi d=>Yn (Zl 6 [6] (Gg ‹_›)) λ_ _=>go 7 ?_;exact Nm a () results234 J aA Za
theorem Zuj(x y:Int)(j:bl x.natAbs<=65536)(k:bl y.natAbs<=65536):Qe prog 188 #[wv x,wv y] [] (Ze6 (Int.gcd x y:Int)):=by refine Zg func188 ntmps188 λm l i c=>?_;have h:=Zog x.natAbs y.natAbs;refine go 2<|Yd (Yk 1) λb _=>Yd (Yk 2) λd _=>Yd (Zw 3) λe _=>go 8 ?_;refine cl 3 [] (Ha ‹_› ‹_›) λ_ _=>go 7<|Qb (λ_=>False) [(0,0),(1,0),(3,0),(4,0),(2,1),(5,1),(6,1),(7,0),(8,1),(9,0),(10,0),(11,3),(12,3)]<|go 4<|Yn (Zl 4 [] Zeb) λv _=>Yn (Zl 5 [] Zeb) λf _=>Yn (Zl 6 [4,5] Zsb) λg _=>?_;refine Xc J J (Xl (Xy [(0,_),(1,_)] J K4 (λa w hs=>Iq ((Yg J) a w hs) ((Of 6 J Zr) a w hs))))<|Yn (Zl 6 [6] (Gg (s:=false) (x:=(Int.gcd x y:Int)) (by simp [sg]) (by show bl (Nat.gcd x.natAbs y.natAbs)<=_;omega))) λ_ _=>go 7 ?_;exact Nm c () results188 J aA Za
theorem Al(H:bl x.natAbs<=65536)(I:bl y.natAbs<=65536)(c:y≠0):Qe prog 179 #[wv x,wv y] [] (.tuple #[wv (Zb2 (x/y)),wv (Zb2 (x%y)),.int .i64 0]):=by
 refine Zg func179 ntmps179 λQ P w d=>?_;have D:=Zlw x y;have o:=Zt4 x y c;refine go 2<|Yd (Yk 1) λb _=>Yd (Yk 2) λh _=>Yd (Zw 3) λi _=>Yd (Zw 4) λj _=>go 8 ?_;refine cl 4 [] (Ha ‹_› ‹_›) λ_ _=>go 11 ?_;refine dt (Yaj J J J J)<|go 2 ?_;refine Ze J (λa=>?_) (λa=>?_)
 .rw [Ej]at a;exfalso;exact c (by have:=(Om (by omega:2<=256) y.natAbs).1 a;omega)
 .refine go 2 ?_;refine jn (G:=Bool×Value×Value×Nat×Nat) [4,5] [0,1,2,3,4] (λq=>[(7,.pointer (some ⟨q.2.2.2.1,0,none⟩)),(8,.pointer (some ⟨q.2.2.2.2,0,none⟩))]) (λq=>[(84,Dm q.2.1 (x/y).natAbs),(85,Dm q.2.2.1 (x%y).natAbs),(86,box q.2.2.2.1 219 #[.bool q.1,q.2.1]),(87,box q.2.2.2.2 219 #[.bool false,q.2.2.1])]) (λq=>sg q.1 (x/y)) ?_ ?_
  .refine Pj [1,2] [11]<|Zj 10 [(0,0),(2,0)]<|go 3 ?_
   repeat' first|refine bq 1 ?_;refine Px (Zl 81 [] (Nl (Qv _))) λg F=>?_|refine bq 3 ?_;refine Px (Zl 82 [] (Nl (Qv _))) λm e=>?_|refine bq 4 ?_;refine Px (Zl 84 [81,82] (Zhd _ _ ‹_› ‹_› O1 c)) λn f=>?_|refine bq 8 ?_;refine Px (Qf 86) λk p=>?_|refine bq 9 ?_;refine Px (Qf 87) λl r=>?_|refine bq 10 ?_;refine Lq rfl rfl (t_stw 86 rfl rfl rfl rfl rfl rfl sizeOf219 rfl rfl ⟨Yg rfl,Of 84 rfl Zr,aA⟩ rfl w.h p.h) (λ_ _=>?_)|refine Ya7 1 8 9 O7 ?_ ?_ ?_|refine Zag 1 8 O7 ?_ ?_|refine Zai 1 O7 ?_|refine Zai 3 O7 ?_|refine Zai 4 O7 ?_|refine Zai 10 O7 ?_|refine Zag 3 8 O7 ?_ ?_|refine Zag 4 8 O7 ?_ ?_|refine Zai 8 O7 ?_|refine Zag 1 9 O7 ?_ ?_|refine Zag 3 9 O7 ?_ ?_|refine Zag 4 9 O7 ?_ ?_|refine Zai 9 O7 ?_|refine Ya7 3 8 9 O7 ?_ ?_ ?_|refine Ya7 4 8 9 O7 ?_ ?_ ?_|refine Zag 8 9 O7 ?_ ?_|refine Zc5 5 0 O7 ?_;refine go 2 ?_|refine Zc5 6 0 O7 ?_;refine go 2 ?_|refine Zc5 7 0 O7 ?_;refine go 2 ?_|refine Zc5 11 3 O7 ?_;refine go 2 ?_|refine Zo ?_ O7;exact Oc (_,_,_,_,_) ‹_› ⟨rfl,rfl,aA⟩ ⟨rfl,rfl,rfl,rfl,aA⟩
  .rintro⟨M,qv,N,z,B⟩ s;dsimp only at s;dsimp only;refine go 3 ?_;refine cl 4 [84] (Gg ‹_›) λ_ _=>go 9 ?_;refine cl 4 [85] (Gg (Yqo x c)) λ_ _=>go 7<|Pj [4] [3,4] ?_;refine Zj 0 [(1,0),(0,1),(2,1),(3,3),(4,3)]<|go 6 ?_;exact Zo<|go 2<|xe3 d () results179 J aA Za
theorem Zc8{s t:Bool}{w:Value}(hs:sg s x)(m:sg t y)(k:y≠0)(Y:bl x.natAbs<=1000000000:=by omega)(Z:bl y.natAbs<=1000000000:=by omega):Qe prog 165 #[.agg #[.bool s,v],.agg #[.bool t,w]] [Dm v x.natAbs,Dm w y.natAbs] (Zcl x y):=by
 refine Zg func165 ntmps165 λw0 sc W c=>?_;have S:=Zog x.natAbs y.natAbs;have e:Qi x y≠0:=Zsk k;have h:sg t (Qi x y):=Yqm m k;have f:=Zdp x y;have P:=Zlw x (Qi x y);have Q:=Zlw y (Qi x y);refine go 2<|Yd (Yk 3) λb _=>Yd (Yk 4) λq _=>Yd (Zw 5) λr _=>go 4<|Lo (λ_=>False) [9] ?_;refine Zj 4 [(0,0),(1,0),(2,0),(3,0),(4,0),(5,0)]<|go 7 ?_;refine Qq 3 6 8 ?_ ?_
 .refine Px (Zl 81 [1,2] Zsb) λv _=>?_;refine Zj 0 [(7,0),(8,1),(9,3)]<|Xc J J (Xl (Xy [(0,_),(1,_)] J K4 (λa w hs=>Iq ((Yg J) a w hs) ((Of 81 J Zr) a w hs))))<|Yn (Zw 82) λz _=>go 2 ?_;refine Zo<|go 2<|Zf (Np 81 (Yc9 x y) J J)<|go 3 ?_;refine cl 6 [1,81] (Zhd x (Qi x y) hs h (by rw [f];omega) e) λg V=>go 10 ?_;refine cl 8 [2,81] (Zhd y (Qi x y) m h (by rw [f];omega) e) λI n=>go 9 ?_;refine cl 9 [6] (Gg ‹_›) λ_ _=>go 3<|Yd (Zw 10) λB _=>go 7 ?_;refine cl 10 [8] (Gg ‹_›) λ_ _=>go 3<|Yd (Zw 11) λD _=>go 10<|Xf 43 J (λl=>?_) (λl=>?_)
  .refine go 8 ?_;refine dt (Xy [] J aA (λa w hs=>Zif))<|go 6 ?_;exact Nm c () results165 (Zck (by unfold Kc;first|exact .inl (Zax ‹_›)|exact .inr (Zax ‹_›))) aA Za
  .refine go 5<|Ze J (λj=>?_) (λj=>?_)
   .refine go 2 ?_;refine dt (Xy [] J aA (λa w hs=>Zif))<|go 6 ?_;exact Nm c () results165 (Zck (by unfold Kc;first|exact .inl (Zax ‹_›)|exact .inr (Zax ‹_›))) aA Za
   .refine go 6 ?_;refine dt (Xy [(0,_),(1,_)] J K4 (λa w hs=>Zoi))<|go 5 ?_;exact Nm c () results165 (Zvr (bO ‹_›) (bO ‹_›)) aA Za
 .refine Px (Zw 82) λF _=>?_;refine Zj 0 [(6,1),(7,0),(9,3)]<|Yn (Zl 81 [1,2] Zsb) λR _=>?_;refine Xc J J (Xl (Xy [(0,_),(1,_)] J K4 (λa w hs=>Iq ((Yg J) a w hs) ((Of 81 J Zr) a w hs))))<|go 2 ?_;refine Zo<|go 2<|Zf (Np 81 (Yc9 x y) J J)<|go 3 ?_;refine cl 12 [1,81] (Zhd x (Qi x y) hs h (by rw [f];omega) e) λM o=>go 10 ?_;refine cl 14 [2,81] (Zhd y (Qi x y) m h (by rw [f];omega) e) λN p=>go 9 ?_;refine cl 15 [12] (Gg ‹_›) λ_ _=>go 3<|Yd (Zw 16) λG _=>go 7 ?_;refine cl 16 [14] (Gg ‹_›) λ_ _=>go 3<|Yd (Zw 17) λH _=>go 10<|Xf 43 J (λi=>?_) (λi=>?_)
  .refine go 8 ?_;refine dt (Xy [] J aA (λa w hs=>Zif))<|go 6 ?_;exact Nm c () results165 (Zck (by unfold Kc;first|exact .inl (Zax ‹_›)|exact .inr (Zax ‹_›))) aA Za
  .refine go 5<|Ze J (λd=>?_) (λd=>?_)
   .refine go 2 ?_;refine dt (Xy [] J aA (λa w hs=>Zif))<|go 6 ?_;exact Nm c () results165 (Zck (by unfold Kc;first|exact .inl (Zax ‹_›)|exact .inr (Zax ‹_›))) aA Za
   .refine go 6 ?_;refine dt (Xy [(0,_),(1,_)] J K4 (λa w hs=>Zoi))<|go 5 ?_;exact Nm c () results165 (Zvr (bO ‹_›) (bO ‹_›)) aA Za
theorem Zfl(l:bl x.natAbs<=65536)(m:bl y.natAbs<=65536)(c:y≠0:=by omega):Qe prog 221 #[wv x,wv y] [] (Zcl x y):=by
 refine Zg func221 ntmps221 λo n k d=>go 2 ?_;refine Yd (Yk 1) λb _=>Yd (Yk 2) λf _=>Yd (Zw 3) λh _=>go 8 ?_;refine cl 3 [] (Ha ‹_› ‹_›) λ_ _=>go 11 ?_;refine dt (Yaj J J J J)<|go 2 ?_;refine Ze J (λa=>?_) (λa=>?_)
 .rw [Ej]at a;exfalso;exact c (by have:=(Om (by omega:2<=256) y.natAbs).1 a;omega)
 .refine go 3<|Qb (λ_=>False) [(0,0),(2,0),(1,1),(3,1),(4,1),(5,0),(6,0),(7,3),(8,3)]<|go 2<|Yn (Zl 4 [] (Nl (Qv _))) λg j=>Yn (Zl 5 [] (Nl (Qv _))) λi e=>Yn (Zl 5 [4,5] (Zc8 ‹_› ‹_› c)) λ_ _=>go 7 ?_;exact Nm d () results221 J aA Za
theorem Zkf{s:ByteArray}{c:Bool}{t:ByteArray}:Qe prog 216 #[.agg #[.bool b,.string s,.bool c,.string t]] [] (.bool (okR b s c t)):=by
 refine Zg func216 ntmps216 λl k j g=>go 2 ?_;refine Yd (Yk 1) λb _=>go 9 ?_;refine cl 1 [] (Zoz _ _ _ _) λ_ _=>go 1<|Zaa 8 J (λh=>?_) (λh=>?_)
 .have i:okW c t=true:=O11;have d:=Zr3 i;obtain⟨a,e,f⟩:=Classical.choose_spec d;generalize Classical.choose d=z at a e f ⊢;subst e;subst f
  try clear d
  refine go 2 ?_;refine Hu 1 [] (Hs (x:=z) a) λ_ _=>go 6 ?_;exact Xh g () results216 (by first|rw [Zwb O11 a]|(unfold okR;simp_all)) aA Za
 .refine go 9 ?_;exact Xh g () results216 (by first|rw [Zwb O11 a]|(unfold okR;simp_all)) aA Za
def Ke(c:bl x.natAbs<=65536)(d:bl y.natAbs<=65536)(a:0<y):Cal prog 216 #[rX x y] [] false (G:=Unit) (λ_=>True) (λ_=> .bool true) (λ_=>[]):=Ylc c d a▸Zkf
theorem Ya(x:Int)(f:Nc x:=by exact⟨O1,O1⟩):Qe prog 131 #[.int .i64 x] [] (wv x):=by
 refine Zg func131 ntmps131 λm l h e=>?_;have i:=f.1;have j:=f.2;have d:x.natAbs<U:=by simp only [U];omega
 have k:bl x.natAbs<=64:=(Qs 64 _).2 (by rw [<-Ypc];exact d);refine go 2<|Yd (Zw 1) λb _=>go 5 ?_;refine dt (Ys9 (r:=x%18446744073709551616) J J uT3 Zbi J)<|go 3 ?_;refine jn (G:=Unit) [0,2] [0,1] (λ_=>[(3,.int .u64 ((x.natAbs:Nat):Int))]) (λ_=>[]) (λ_=>True) ?_ ?_
 .refine go 6<|Ze J (λc=>?_) (λc=>?_)
  .refine go 2 ?_;refine dt (Yh1 x.natAbs J J O1)<|go 2 ?_;exact Oc () aA ⟨by first|rfl|(rw [show x%18446744073709551616=((x.natAbs:Nat):Int) by omega];rfl),aA⟩ aA
  .refine go 1 ?_;exact Oc () aA ⟨by first|rfl|(rw [show x%18446744073709551616=((x.natAbs:Nat):Int) by omega];rfl),aA⟩ aA
 .rintro _ -;refine go 5 ?_;refine tt (Xx [(0,_)] 2 (enc:=Lj) [x.natAbs] J J K2 Oi ti232 J J J J J pU.cells J J h.h) λv _=>cl 2 [2] Ot λ_ _=>?_;refine Xg (Zbp 2 J J pU)<|Xg (Ze8 2 (Zin d) J J)<|dt (Xy [(0,_),(1,_)] J K4 (λa w hs=>Iq ((Yg J) a w hs) ((Of 2 J (Zz pU)) a w hs)))<|cl 2 [2] (Gg (x:=x) (Qv _)) λ_ _=>go 3 ?_;refine Yd (Zw 3) λg _=>go 11 ?_;exact Xh e () results131 (by rw [Hj O1]<;>rfl) aA Za
theorem Zen(hs:Sz 65536 xs):Cal prog 189 #[v] [Yx 2 wv v xs] true (G:=Unit) (λ_=>True) (λ_=>Ic v (tzl xs).length) (λ_=>[Yx 2 wv (Ic v (tzl xs).length) (tzl xs)]):=by
 refine Zg func189 ntmps189 λp o n d=>?_;refine Pi (Zz7 (i:=1) J Zr) (λa=>?_);refine Pi (Mi (i:=1) J Zr) λm=>go 7 ?_;refine lp (G:=Nat) [] [0] (λk=>[(0,Ic v k)]) (λk=>[(1,Yx 2 wv (Ic v k) (xs.take k))]) (λk=>(k<=xs.length)/\(tzl (xs.take k)=tzl xs)) (λk=>k) xs.length ⟨aF _,by rw [bL]⟩ ⟨by rw [a];rfl,aA⟩ ⟨by rw [a,bL];rfl,aA⟩ ?_;rintro k ⟨h,j⟩;have f:(xs.take k).length=k:=by rw [cL];omega
 refine go 7<|Xf 6 J (λl=>?_) (λl=>?_)
 .refine go 4 ⟨O1,?_⟩;refine Hk (Zv 1 (k-1) J J J J Zr Lc Ks) J J<|go 1 ⟨O1,?_⟩;refine Hu 1 [] (Hs ((hs.take _).getD _)) λ_ _=>go 4<|Ze J (λg=>?_) (λg=>?_)
  .have c:=Zuo h O1 (Zl8 k O1 (dW.1 ‹_›):cf xs (k-1)=0);refine go 8 ⟨O1,?_⟩;refine dt (Yd8 1 (k-1) J J J J Zr Lc Ks)<|go 3 ?_;exact Zp (Yjk 1 1 (k-1) J J)<|Yh (k-1) ⟨O2,by rw [<-j,<-c]⟩ O2 ⟨by rw [<-Ea v k (k-1)];rfl,aA⟩ ⟨by rw [Ea,iM,dP O1];rfl,aA⟩
  .refine go 12 ?_;have e:tzl xs=xs.take k:=by rw [<-j];exact Zgi h (by first|(left;omega)|(right;exact Zgl k O1 ‹_›))
   exact Xh d () results189 (by rw [e,f]) aA (Ph 1 Za (by rw [e,f]))
 .refine go 24 ?_;have e:tzl xs=xs.take k:=by rw [<-j];exact Zgi h (by first|(left;omega)|(right;exact Zgl k O1 ‹_›))
  exact Xh d () results189 (by rw [e,f]) aA (Ph 1 Za (by rw [e,f]))
theorem Zzk(v:Value)(r:List (Bool×ByteArray)):Qe prog 190 #[v] [Yx 2 Yae v r] (.bool (okP r)):=by
 refine Zg func190 ntmps190 λz s p a=>?_;refine Pi (Mi (i:=1) J Zr) λg=>go 14 ?_;refine lp (G:=Nat) [0,5,6] [0,1] (λk=>[(7,.int .i64 (k:Int))]) (λk=>[]) (λk=>(k<=r.length)/\((r.take k).all (λw=>okW w.1 w.2)=true)) (λk=>r.length-k) 0 ⟨O2,O6⟩ K1 aA ?_;rintro k ⟨o,l⟩;refine go 6<|Ze J (λj=>?_) (λj=>?_)
 .refine go 7 ⟨O3,?_⟩;refine dt (Yw 1 (false,⟨#[]⟩) J J J Zr pW O3)<|Yd (Zw 2) λb _=>go 6 ?_;refine cl 2 [] Zca λ_ _=>go 3<|Mz J (λf=>?_) (λf=>?_)
  .refine go 11 ?_;exact Xh a () results190 (by rw [Yru (Zd (i:=k) (d:=(false,⟨#[]⟩)) O1) O11]) aA Za
  .refine go 7 ⟨O1,?_⟩;exact Yh (k+1) ⟨O2,by rw [Ps (false,⟨#[]⟩) _ _ O1,lJ,l];simpa using f⟩ O2 K1 aA
 .refine go 6 ?_;obtain rfl:k=r.length:=O1;rw [bL]at l;obtain⟨xs,c,rfl⟩:=Zwa (cI.1 l);have m:=Sz.of_mem c;rw [bA]at g;refine Zf (Zq4 1 (q:=Yx 2 wv v xs) J J (Yqf v xs) (λ_ h=>fpn h) J)<|go 5<|Xf 18 J (λn=>?_) (λn=>?_)
  .refine go 4<|Xf 22 J (λe=>?_) (λe=>?_)
   .refine go 14 ?_;exact Xh a () results190 (by rw [Zr4 c];first|(simp_all;done)|(simp_all;omega)) aA Za
   .refine go 4 ⟨O1,?_⟩;refine Hk (Zv 1 (xs.length-1) J J J J Zr Lc Ks) J J<|go 1 ⟨O1,?_⟩;refine Hu 2 [] (Hs (m.getD _)) λ_ _=>go 7 ?_;exact Xh a () results190 (by rw [Zr4 c];first|(simp_all;done)|(simp_all;omega)) aA Za
  .refine go 18 ?_;exact Xh a () results190 (by rw [Zr4 c];first|(simp_all;done)|(simp_all;omega)) aA Za
def Xz(h:Vp xs):Cal prog 190 #[v] [Yx 2 wv v xs] false (G:=Unit) (λ_=>True) (λ_=> .bool true) (λ_=>[]):=okP_wr h▸(Zzk v (xs.map wr)).imp (Zyt v xs) (λ_ h=>fpm h)
theorem Mo(hs:Sz 65536 xs):Qe prog 195 #[v] [Yx 2 wv v xs] (.int .i64 (Qc xs:Int)):=by
 refine Zg func195 ntmps195 λh g f c=>?_;refine Pi (Mi (i:=1) J Zr) λd=>go 19 ?_;refine lp (G:=Nat) [6,7] [0,1] (λk=>[(8,.int .i64 (k:Int)),(3,.int .i64 (Qc (xs.take k):Int))]) (λk=>[]) (λk=>k<=xs.length) (λk=>xs.length-k) 0 O2 K2 aA ?_;rintro k e;refine go 6<|Ze J (λa=>?_) (λa=>?_)
 .refine go 8 ⟨O3,O3,?_⟩;refine Yd (Zw 2) λb _=>go 6 ?_;refine cl 2 [] (Zlx (hs.getD _)) λ_ _=>?_;refine dt (Zc2 J J J)<|go 8 ⟨O1,?_⟩;exact Yh (k+1) O2 O2 ⟨J,by rw [Ps 0 _ _ O1,Ylw];exact aD some (Zcs O1),aA⟩ aA
 .refine go 12 ?_;exact Xh c () results195 (by rw [cE O1]) aA Za
theorem Zs3{e f:Int}{n:Bool}{s:ByteArray}:Zd9 prog 238 #[.pointer (some ⟨bd,0,none⟩),.agg #[.bool n,.string s],.int .i64 f] [] false bd t #[.int .i64 e] (G:=Unit) (λ_=>True) (λ_=> .agg #[.bool n,.string s]) (λ_=>#[.int .i64 (if e=0 then f else e)]) (λ_=>[]):=by
 refine Dk func238 J ntmps238 J aA ?_;intro j i g c;have g:=Hw.mk g;simp only [Qz,Xd];refine go 2<|Yd (Yk 2) λb _=>Yd (Zw 3) λh _=>go 12<|Ze J (λd=>?_) (λd=>?_)
 .refine go 15 ?_;exact Dt (.inl J) c () (λa w hs=>Zcj hs results238 (Ep 3 J J isAgg80 Ks J)) J aA 1 J (by simp_all [Fe]) J J Za
 .refine go 9 ?_;exact Dt (.inl J) c () (λa w hs=>Zcj hs results238 (Ep 3 J J isAgg80 Ks J)) J aA 1 J (by simp_all [Fe]) J J Za
theorem d_mul_(bd:Nat)(e x y:Int)(h:bl x.natAbs<=65536)(i:bl y.natAbs<=65536):Zd9 prog 191 #[.pointer (some ⟨bd,0,none⟩),wv x,wv y] [] false bd 250 #[.int .i64 e] (G:=Unit) (λ_=>True) (λ_=>wv (Zb2 (x*y))) (λ_=>#[.int .i64 (err e (x*y))]) (λ_=>[]):=by refine Dk func191 J ntmps191 J aA ?_;intro k j d c;have d:=Hw.mk d;simp only [Qz,Xd];refine go 2<|Yd (Yk 2) λb _=>Yd (Yk 3) λf _=>Yd (Zw 4) λg _=>go 3<|Qb (λx=>x=bd) [(0,0),(1,0),(2,0),(3,0),(4,0),(5,1),(6,0),(7,0),(8,1),(9,3)]<|go 5<|Yn (Zl 4 [] (Zuh ‹_› ‹_›)) λ_ _=>go 2 ?_;refine Kp J (Pb 4 1 Zs3 J J J K3 call238 J O4 Zn J d.h J) λ_ _=>go 4 ?_;exact Dt (.inl J) c () (λa w hs=>Zcj hs results191 (Ep 4 J J isAgg80 Ks J)) J aA 1 J J J J Za
theorem Cd(c:bl x.natAbs<=65536)(d:bl y.natAbs<=65536)(a:bl (x*y).natAbs<=65536):Zd9 prog 191 #[.pointer (some ⟨bd,0,none⟩),wv x,wv y] [] false bd 250 #[.int .i64 0] (G:=Unit) (λ_=>True) (λ_=>wv (x*y)) (λ_=>#[.int .i64 0]) (λ_=>[]):=by have h:=d_mul_ bd 0 x y c d;rw [Hj a,Yab a]at h;exact h
theorem d_add_(bd:Nat)(e x y:Int)(h:bl x.natAbs<=65536)(i:bl y.natAbs<=65536):Zd9 prog 196 #[.pointer (some ⟨bd,0,none⟩),wv x,wv y] [] false bd 250 #[.int .i64 e] (G:=Unit) (λ_=>True) (λ_=>wv (Zb2 (x+y))) (λ_=>#[.int .i64 (err e (x+y))]) (λ_=>[]):=by refine Dk func196 J ntmps196 J aA ?_;intro k j d c;have d:=Hw.mk d;simp only [Qz,Xd];refine go 2<|Yd (Yk 2) λb _=>Yd (Yk 3) λf _=>Yd (Zw 4) λg _=>go 3<|Qb (λx=>x=bd) [(0,0),(1,0),(2,0),(3,0),(4,0),(5,1),(6,0),(7,0),(8,1),(9,3)]<|go 5<|Yn (Zl 4 [] (Zuk ‹_› ‹_›)) λ_ _=>go 2 ?_;refine Kp J (Pb 4 1 Zs3 J J J K3 call238 J O4 Zn J d.h J) λ_ _=>go 4 ?_;exact Dt (.inl J) c () (λa w hs=>Zcj hs results196 (Ep 4 J J isAgg80 Ks J)) J aA 1 J J J J Za
theorem Znv(c:bl x.natAbs<=65536)(d:bl y.natAbs<=65536)(a:bl (x+y).natAbs<=65536):Zd9 prog 196 #[.pointer (some ⟨bd,0,none⟩),wv x,wv y] [] false bd 250 #[.int .i64 0] (G:=Unit) (λ_=>True) (λ_=>wv (x+y)) (λ_=>#[.int .i64 0]) (λ_=>[]):=by have h:=d_add_ bd 0 x y c d;rw [Hj a,Yab a]at h;exact h
theorem d_sub_(bd:Nat)(e x y:Int)(h:bl x.natAbs<=65536)(i:bl y.natAbs<=65536):Zd9 prog 194 #[.pointer (some ⟨bd,0,none⟩),wv x,wv y] [] false bd 250 #[.int .i64 e] (G:=Unit) (λ_=>True) (λ_=>wv (Zb2 (x-y))) (λ_=>#[.int .i64 (err e (x-y))]) (λ_=>[]):=by refine Dk func194 J ntmps194 J aA ?_;intro k j d c;have d:=Hw.mk d;simp only [Qz,Xd];refine go 2<|Yd (Yk 2) λb _=>Yd (Yk 3) λf _=>Yd (Zw 4) λg _=>go 3<|Qb (λx=>x=bd) [(0,0),(1,0),(2,0),(3,0),(4,0),(5,1),(6,0),(7,0),(8,1),(9,3)]<|go 5<|Yn (Zl 4 [] (Yhs ‹_› ‹_›)) λ_ _=>go 2 ?_;refine Kp J (Pb 4 1 Zs3 J J J K3 call238 J O4 Zn J d.h J) λ_ _=>go 4 ?_;exact Dt (.inl J) c () (λa w hs=>Zcj hs results194 (Ep 4 J J isAgg80 Ks J)) J aA 1 J J J J Za
theorem Yag(c:bl x.natAbs<=65536)(d:bl y.natAbs<=65536)(a:bl (x-y).natAbs<=65536):Zd9 prog 194 #[.pointer (some ⟨bd,0,none⟩),wv x,wv y] [] false bd 250 #[.int .i64 0] (G:=Unit) (λ_=>True) (λ_=>wv (x-y)) (λ_=>#[.int .i64 0]) (λ_=>[]):=by have h:=d_sub_ bd 0 x y c d;rw [Hj a,Yab a]at h;exact h
theorem Ynv(hs:Sz 65536 xs):Cal prog 192 #[.pointer (some ⟨bd,0,none⟩),v] [Ku bd 250 #[.int .i64 0],Yx 2 wv v xs] true (G:=Unit) (λ_=>True) (λ_=> .tuple #[Ic v (tzl xs).length,.int .i64 0]) (λ_=>[Yx 2 wv (Ic v (tzl xs).length) (tzl xs)]):=by
 refine Zg func192 ntmps192 λf e d c=>go 17 ?_;refine Ze J (λa=>?_) (λa=>?_)
 .exfalso;simp_all
 .refine go 5 ?_;refine cl 3 [2] (Zen ‹_›) λ_ _=>go 5 ?_;exact Nm c () results192 J aA (Ph 3 Za)
theorem Ie(c:Int)(g:Vp xs)(m:bl c.natAbs<=65536)(h:∀i,bl (cf xs i*c).natAbs<=65536):Cal prog 136 #[v,wv c] [Yx 2 wv v xs] true (G:=Value) (λr=>True) (λr=> .tuple #[r,.int .i64 0]) (λr=>[Yx 2 wv r (Zt xs c)]):=by
 refine Zg func136 ntmps136 λp o e d=>?_;have f:=g.len;refine go 2<|Yd (Yk 2) λb _=>go 8 ?_;refine cl 2 [1] (Xz ‹_›) λ_ _=>go 3 ?_;refine Hu 2 [] (Ky ‹_›) λ_ _=>go 9<|Yd (Zw 3) λj _=>go 6 ?_;refine tt (Hl 4 _ 24 (enc:=wv) 0 J J J J Lc ti80 J pV.cells pV.pos J J J e.h J J) λv _=>go 12 ?_;refine lp (G:=Nat) [3,6,7,21,22] [0,1,2,3] (λk=>[(23,.int .i64 (k:Int))]) (λk=>[(4,Oe 2 80 wv v (fill xs.length k (λi=>cf xs i*c)))]) (λk=>k<=xs.length) (λk=>xs.length-k) 0 O2 K1 ⟨by rw [Ai xs.length (λi=>cf xs i*c)];rfl,aA⟩ ?_;rintro k n;refine go 6<|Ze J (λa=>?_) (λa=>?_)
 .refine go 9 ⟨O3,O3,?_⟩;refine Yd (Zw 5) λl _=>go 9 ?_;refine tt (Pb 5 3 (Cd (g.sz.getD _) m (h _)) J J J K3 call191 J O4 Zn J e.h aA) (λ_ _=>?_);refine dt (Zv 4 k J J J J (Zz pV) Lc Ks J (by rw [Od];omega))<|tt (Km 4 (enc:=wv) J J J J J J pV J e.h O4 (by rw [Od];omega)) (λ_ _=>?_);refine go 7 ⟨O1,?_⟩;exact Yh (k+1) O2 O2 K1 ⟨by rw [<-Zdt O1];rfl,aA⟩
 .refine go 6 ?_;obtain rfl:k=xs.length:=O1;refine Zf (Xo 4 J J pV)<|Zf (Zfr 3 J J)<|go 2 ?_;refine cl 6 [3,4] (Ynv (by rw [Dd];exact Bm λi _=>h i)) λ_ _=>go 7 ?_;exact Nm d _ results136 J aA (Ph 6 Za (by rw [Yga]<;>rfl))
theorem Zaq(e:Vp xs)(h:∀i,bl (cf xs (i+1)*((i:Int)+1)).natAbs<=65536):Cal prog 260 #[v] [Yx 2 wv v xs] true (G:=Value) (λr=>True) (λr=> .tuple #[r,.int .i64 0]) (λr=>[Yx 2 wv r (Xi xs)]):=by
 refine Zg func260 ntmps260 λo m f d=>?_;have g:=e.len;refine go 10 ?_;refine cl 1 [1] (Xz ‹_›) λ_ _=>go 14<|Ze J (λa=>?_) (λa=>?_)
 .refine go 8 ?_;exact Nm d _ results260 J aA (Mr (Yk5 O1) Za)
 .refine go 4<|Yd (Zw 2) λb _=>?_;refine go 7 ⟨O1,?_⟩;refine tt (Hl 3 (xs.length-1) 24 (enc:=wv) 0 J J J J Lc ti80 J pV.cells pV.pos J J J f.h) λv _=>go 12 ?_;refine lp (G:=Nat) [0,4,5,18] [0,1,2] (λk=>[(19,.int .i64 (k:Int))]) (λk=>[(3,Oe 2 80 wv v (fill (xs.length-1) k (λi=>cf xs (i+1)*((i:Int)+1))))]) (λk=>k<=xs.length-1) (λk=>xs.length-1-k) 0 O2 K1 ⟨by rw [Ai (xs.length-1) (λi=>cf xs (i+1)*((i:Int)+1))];rfl,aA⟩ ?_;rintro k l;have j:(fill (xs.length-1) k (λi=>cf xs (i+1)*((i:Int)+1))).length=xs.length-1:=Od _ _ _;refine go 6<|Ze J (λc=>?_) (λc=>?_)
  .try rw [aR]at *
   refine go 10<|Qb (λx=>x=b) [(0,0),(1,0),(2,0),(3,0),(4,0),(5,0),(6,0),(7,0),(8,0),(9,1),(10,1),(11,0),(12,3)]<|go 5 ⟨O1,?_⟩;refine Xc J J (st1 2 J (Zv 1 (k+1) J J J J Zr Lc Ks))<|go 3 ⟨O1,O1,?_⟩;refine Yn (Zl 3 [] (Ya _ (by first|assumption|exact⟨O1,O1⟩))) λ_ _=>?_;refine Kp J (Pb 3 2 (Cd (x:=cf xs (k+1)) (y:=((k:Int)+1)) (e.sz _) (aB (Pz (n:=32) O1) O4) (h k)) J J J K3 call191 J O4 Zn J f.h J) (λ_ _=>?_);refine Xc J J (st1 2 J (Zv 3 k J J J J (Zz pV) Lc Ks J (by rw [Od];omega)))<|r3' J (Km 3 (enc:=wv) J J J J J J pV J f.h O4 (by rw [Od];omega)) (λ_ _=>?_);refine go 7 ⟨O1,?_⟩;exact Yh (k+1) O2 O2 K1 ⟨by rw [<-Zdt O1];rfl,aA⟩
  .try rw [aR]at *
   refine go 6 ?_;obtain rfl:k=xs.length-1:=O1;refine Zf (Xo 3 J J pV)<|Zf (Zfr 2 J J)<|go 2 ?_;refine cl 4 [2,3] (Ynv (by rw [Dd];exact Bm λi _=>h i)) λ_ _=>go 7 ?_;exact Nm d _ results260 J aA (Ph 4 Za (by rw [Yrp e.tr]<;>rfl))
theorem Zrv(j:Vp xs):Qe prog 197 #[v] [Yx 2 wv v xs] (.tuple #[wv (Yv xs),.int .i64 0]):=by
 refine Zg func197 ntmps197 λr q n i=>?_;have l:=j.len;have d:∀k,bl (Yv (xs.take k)).natAbs<=65536:=λk=>Zbt _ (j.sz.take k);refine go 2<|Yd (Zw 2) λb _=>go 7 ?_;refine cl 2 [1] (Xz ‹_›) λ_ _=>go 8<|Yd (Zw 3) λf _=>go 4<|Yd (Zw 4) λg _=>go 11 ?_;refine lp (G:=Nat) [2,4,5,12,13] [0,1,2] (λk=>[(14,.int .i64 (k:Int))]) (λk=>[(4,box g 80 #[.bool (decide (Yv (xs.take k)<0)),.string (Qp (Yv (xs.take k)).natAbs)]),(3,box f 250 #[.int .i64 0])]) (λk=>k<=xs.length) (λk=>xs.length-k) 0 O2 K1 K2 ?_;rintro k o;have e:=λh=>Lu (p:=xs) (k:=k) h;refine go 6<|Ze J (λc=>?_) (λc=>?_)
 .refine go 8 ⟨O3,O3,?_⟩;refine Yd (Zw 5) λm _=>go 7 ?_;refine cl 5 [] (Zuj (Yv (xs.take k)) (xs.getD k 0) (d _) (j.sz.getD _)) λ_ _=>go 2 ?_;refine tt (Pb 5 3 Zs3 J J J K3 call238 J O4 Zn J n.h aA) (λ_ _=>?_);refine go 8 ⟨O1,?_⟩;have a:=d (k+1);rw [e O1]at a;exact Yh (k+1) O2 O2 K1 ⟨by rw [e O1];simp only [Hj a];rfl,by simp only [Zsv a];rfl,aA⟩
 .refine go 6<|Pj [3,4] [5] ?_;refine Zj 0 [(0,0),(1,0),(2,0),(3,0),(4,1),(5,3)]<|go 7 ?_;refine Zo<|go 2 ?_;exact Nm i () results197 (by rw [show k=xs.length by omega,bL]<;>rfl) aA Za
theorem Zow{c:Int}(l:Sz 65536 xs)(j:xs.length<=1000)(q:bl c.natAbs<=65536)(s:∀i,c∣cf xs i)(f:xs≠[]->c≠0):Cal prog 198 #[v,wv c] [Yx 2 wv v xs] true (G:=Value) (λr=>True) (λr=> .tuple #[r,.int .i64 0]) (λr=>[Yx 2 wv r (xs.map (· / c))]):=by
 refine Zg func198 ntmps198 λB z m h=>go 2 ?_;refine Yd (Yk 2) λb _=>go 8 ?_;refine tt (Hl 3 _ 24 (enc:=wv) 0 J J J J Lc ti80 J pV.cells pV.pos J J J m.h J J) λv _=>go 12 ?_;refine lp (G:=Nat) [3,6,15,16] [0,1,2] (λk=>[(17,.int .i64 (k:Int))]) (λk=>[(3,Oe 2 80 wv v (fill xs.length k (λi=>cf xs i/c)))]) (λk=>k<=xs.length) (λk=>xs.length-k) 0 O2 K1 ⟨by rw [Ai xs.length (λi=>cf xs i/c)];rfl,aA⟩ ?_;rintro k w;have g:Zb2 (xs.getD k 0/c)=cf xs k/c:=Hj (Hi (s k) (l k));refine go 6<|Ze J (λa=>?_) (λa=>?_)
 .refine go 9 ⟨O3,O3,?_⟩;refine Yd (Zw 4) λn _=>go 8 ?_;refine cl 4 [] (Al (l.getD _) q (f (by intro e;rw [e]at a;simp at a;omega))) λ_ _=>go 4<|Yd (Zw 5) λo _=>Yd (Zw 6) λp _=>go 12<|Ze J (λd=>?_) (λd=>?_)
  .exfalso;simp_all
  .refine go 6 ?_;refine dt (Zv 3 k J J J J (Zz pV) Lc Ks J (by rw [Od];omega))<|tt (Km 3 (enc:=wv) J J J J J J pV J m.h O4 (by rw [Od];omega)) (λ_ _=>?_);refine go 7 ⟨O1,?_⟩;exact Yh (k+1) O2 O2 K1 ⟨by rw [<-Zdt O1];simp only [g];rfl,aA⟩
 .refine go 13 ?_;obtain rfl:k=xs.length:=O1;exact Nm h _ results198 J aA (gow 3 Za (by rw [Dd,Zsc xs (· / c)]<;>rfl))
theorem Lf(c:Vp xs):Cal prog 140 #[v] [Yx 2 wv v xs] true (G:=Value) (λr=>True) (λr=> .tuple #[r,.int .i64 0]) (λr=>[Yx 2 wv r (Yb xs)]):=by
 refine Zg func140 ntmps140 λh g f d=>?_;have e:=c.len;refine go 9 ?_;refine cl 1 [1] (Zrv ‹_›) λ_ _=>go 3<|Yd (Zw 2) λb _=>go 11<|Ze J (λa=>?_) (λa=>?_)
 .exfalso;simp_all
 .refine go 6 ?_;refine cl 3 [1] (Zow c.sz O1 (Zbt _ c.sz) (Kr _) c.ne) λ_ _=>go 7 ?_;exact Nm d _ results140 J aA (Ph 3 Za J)
theorem Yge(n:Vp xs)(S:bl x.natAbs<=65536)(hy:bl y.natAbs<=65536)(a8:0<y):Qe prog 308 #[v,rX x y] [Yx 2 wv v xs] (.tuple #[wv (evv xs x y),.int .i64 (eve xs x y)]):=by
 refine Zg func308 ntmps308 λw0 sc p o=>?_;have c:=n.len;refine go 2<|Yd (Yk 2) λb _=>Yd (Zw 3) λZ _=>go 7 ?_;refine cl 3 [1] (Xz ‹_›) λ_ _=>go 3 ?_;refine Hu 3 [] (Ke ‹_› ‹_› ‹_›) λ_ _=>go 15<|Ze J (λj=>?_) (λj=>?_)
 .refine go 2 ?_;refine dt (Xy [] J aA (λa w hs=>b80_))<|go 6 ?_;exact Nm o () results308 (by rw [aC (l:=xs) O1];rfl) aA Za
 .have M:xs≠[]:=λe=>by rw [e]at j;simp at j
  have a6:=Qy n.sz;have g:Sz 65536 [x,y]:=Sz.of_mem (by intro z V;simp at V;rcases V with rfl|rfl<;>assumption);have I:=Qy g;have a7:(xs.length-1)*Qc [x,y]<=24*65536:=aP O1 I;have f:((xs.length:Int)-1)*(Qc [x,y]:Int)=(((xs.length-1)*Qc [x,y]:Nat):Int):=by rw [iC];congr 1;omega
  refine go 3 ?_;refine jn (G:=Unit) [0,3,4] [0,1,2,3] (λ_=>[(37,.bool (decide ((65536:Int)<(Qc xs:Int)+((xs.length:Int)-1)*(Qc [x,y]:Int)+8)))]) (λ_=>[]) (λ_=>True) ?_ ?_
  .refine Lo (λ_=>False) []<|Zj 7 [(0,0),(2,0),(3,0),(4,0),(5,0),(6,0),(7,0),(8,0)]<|go 9 ⟨O1,?_⟩;refine Qq 6 1 9 ?_ ?_
   .refine Px (Zl 3 [1] (Mo (by first|exact n.sz|exact g))) λ_ _=>?_;refine Zj 0 [(9,1),(10,1),(11,0),(12,0),(13,0),(14,0)]<|Kp J (Xx [(0,_),(1,_)] 90 (enc:=wv) [x,y] J J K4 Ypu ti80 J J J J J pV.cells J J p.h) λv _=>Yn (Zl 3 [90] (Mo (by first|exact n.sz|exact g))) λ_ _=>?_;refine go 5 ⟨by rw [f];exact⟨O1,O1⟩,by rw [f];exact⟨O1,O1⟩,by rw [f];exact⟨O1,O1⟩,?_⟩;exact Zo<|Oc () aA K1 aA
   .refine Lq J J (Xx [(0,_),(1,_)] 90 (enc:=wv) [x,y] J J K4 Ypu ti80 J J J J J pV.cells J J p.h) (λa9 _=>?_);refine Zj 0 [(1,1),(10,1),(11,0),(12,0),(13,0),(14,0)]<|Yn (Zl 3 [1] (Mo (by first|exact n.sz|exact g))) λ_ _=>Yn (Zl 3 [90] (Mo (by first|exact n.sz|exact g))) λ_ _=>?_;refine go 5 ⟨by rw [f];exact⟨O1,O1⟩,by rw [f];exact⟨O1,O1⟩,by rw [f];exact⟨O1,O1⟩,?_⟩;exact Zo<|Oc () aA K1 aA
  .rintro _ -;refine Ze J (λm=>?_) (λm=>?_)
   .have B:Ig xs x y:=⟨M,by rw [f]at m;omega⟩;refine go 2 ?_;refine dt (Xy [] J aA (λa w hs=>b80_))<|go 6 ?_;exact Nm o () results308 (by unfold evv eve;rw [aM B,aM B]<;>rfl) aA Za
   .have i:Qc xs+(xs.length-1)*Qc [x,y]+8<=65536:=by rw [f]at m;omega
    refine go 4<|Yd (Zw 4) λH _=>go 2 ?_;refine jn (G:=Nat×Nat) [0,3,4,6] [0,1,2,3,4] (λq=>[(7,.pointer (some ⟨q.1,0,none⟩)),(8,.pointer (some ⟨q.2,0,none⟩))]) (λq=>[(97,box q.1 80 (wc (xs.getD (xs.length-1) 0))),(98,box q.2 80 (wc 1))]) (λq=>True) ?_ ?_
    .refine Lo (λ_=>False) [9,10]<|Zj 5 [(0,0),(1,0),(2,0),(3,0),(4,0),(5,0)]<|go 4 ⟨O1,?_⟩;refine Xc J J (Xl (Zv 1 (xs.length-1) J J J J Zr Lc Ks))<|go 2 ⟨O1,?_⟩;refine Zd7 4 6 7 8 ?_ ?_ ?_
     .refine Px (Zl 4 [] (Ya _ (by first|assumption|exact⟨O1,O1⟩))) λ_ _=>?_;refine Qq 3 7 8 ?_ ?_
      .refine Px (Zw 97) λa0 _=>?_;refine Zj 0 [(8,1),(9,3),(10,3)]<|Yn (Zw 98) λa1 _=>go 3 ?_;exact Zo<|Oc (_,_) aA K2 K2
      .refine Px (Zw 98) λa2 _=>?_;refine Zj 0 [(7,1),(9,3),(10,3)]<|Yn (Zw 97) λa3 _=>go 3 ?_;exact Zo<|Oc (_,_) aA K2 K2
     .refine Px (Zw 97) λa4 _=>?_;refine Qq 3 6 8 ?_ ?_
      .refine Px (Zl 4 [] (Ya _ (by first|assumption|exact⟨O1,O1⟩))) λ_ _=>?_;refine Zj 0 [(8,1),(9,3),(10,3)]<|Yn (Zw 98) λa5 _=>go 3 ?_;exact Zo<|Oc (_,_) aA K2 K2
      .refine Px (Zw 98) λN _=>?_;refine Zj 0 [(6,1),(9,3),(10,3)]<|Yn (Zl 4 [] (Ya _ (by first|assumption|exact⟨O1,O1⟩))) λ_ _=>go 3 ?_;exact Zo<|Oc (_,_) aA K2 K2
     .refine Px (Zw 98) λP _=>?_;refine Qq 3 6 7 ?_ ?_
      .refine Px (Zl 4 [] (Ya _ (by first|assumption|exact⟨O1,O1⟩))) λ_ _=>?_;refine Zj 0 [(7,1),(9,3),(10,3)]<|Yn (Zw 97) λQ _=>go 3 ?_;exact Zo<|Oc (_,_) aA K2 K2
      .refine Px (Zw 97) λR _=>?_;refine Zj 0 [(6,1),(9,3),(10,3)]<|Yn (Zl 4 [] (Ya _ (by first|assumption|exact⟨O1,O1⟩))) λ_ _=>go 3 ?_;exact Zo<|Oc (_,_) aA K2 K2
    .rintro⟨W,Y⟩ -;dsimp only;refine go 10 ⟨O1,?_⟩;refine lp (G:=Nat) [0,3,4,6,7,8] [0,1,2,3,4] (λk=>[(9,.int .i64 ((k:Int)-1))]) (λk=>[(97,box W 80 (wc (Ff xs x y k))),(98,box Y 80 (wc (y^(xs.length-1-k))))]) (λk=>k<=xs.length-1) (λk=>k) (xs.length-1) O2 ⟨by rw [show((xs.length-1:Nat):Int)-1=(xs.length:Int)-2 by omega];rfl,aA⟩ ⟨by rw [Ysh x y O1];rfl,by rw [fE,dC];rfl,aA⟩ ?_;rintro k D;refine go 7<|Ze J (λr=>?_) (λr=>?_)
     .have d:y^(xs.length-1-k)*y=y^(xs.length-1-(k-1)):=Ykv y O1 D;have F:Ff xs x y k*x+xs.getD (k-1) 0*y^(xs.length-1-(k-1))=Ff xs x y (k-1):=Yg0 x y O1 D;refine go 9 ?_;refine tt (Pb 4 4 (Cd (Zs5 i) hy (by rw [d];exact Zs5 i)) J J J K3 call191 J O4 Zn J p.h aA) λ_ _=>go 3 ?_;refine Qb (λx=>x=H) [(0,0),(1,0),(2,0),(4,0),(5,0),(6,0),(7,0),(8,0),(3,1),(9,1),(10,1),(11,3)]<|go 5 ?_;refine Xc J J (st1 4 J (Zv 1 (k-1) J J J J Zr Lc Ks))<|go 2 ⟨O1,?_⟩;refine Kp J (Pb 4 4 (Cd (by first|exact Zs6 i c _|exact n.sz.getD _) (by first|exact S|(rw [d];exact Zs5 i)) (by first|exact Zz9 i c O1 D|(rw [d];exact Zs4 i))) J J J K3 call191 J O4 Zn J p.h J) (λ_ _=>?_);refine Kp J (Pb 4 4 (Cd (by first|exact Zs6 i c _|exact n.sz.getD _) (by first|exact S|(rw [d];exact Zs5 i)) (by first|exact Zz9 i c O1 D|(rw [d];exact Zs4 i))) J J J K3 call191 J O4 Zn J p.h J) (λ_ _=>?_);refine Kp J (Pb 4 4 (Znv (Zz9 i c O1 D) (by rw [d];exact Zs4 i) (by rw [d,F];exact Zs6 i c _)) J J J K3 call196 J O4 Zn J p.h J) (λ_ _=>?_);refine go 9 ⟨O1,?_⟩;exact Yh (k-1) O2 O2 ⟨by rw [show((k-1:Nat):Int)-1=(k:Int)-1-1 by omega];rfl,aA⟩ ⟨by rw [d,F];rfl,by rw [d];rfl,aA⟩
     .refine go 14<|Ze J (λs=>?_) (λs=>?_)
      .exfalso;simp_all
      .refine go 10 ?_;obtain rfl:k=0:=O1;have B:¬Ig xs x y:=λh=>by have:=h.2;omega
       exact Nm o () results308 (by unfold evv eve;rw [aK B,aK B,<-Zw4]<;>rfl) aA Za
theorem Zv3(e:Vp xs)(g:bl x.natAbs<=65536)(h:bl y.natAbs<=65536)(d:0<y):Qe prog 291 #[v,rX x y] [Yx 2 wv v xs] (.tuple #[.int .i64 (evv xs x y).sign,.int .i64 (eve xs x y)]):=by refine Zg func291 ntmps291 λk j i c=>?_;have a:=e.len;refine go 2<|Yd (Yk 2) λb _=>go 8 ?_;refine cl 2 [1] (Yge e g h d) λ_ _=>go 3<|Yd (Zw 3) λf _=>go 7 ?_;refine cl 3 [] (Hs (evv_bl a)) λ_ _=>go 6 ?_;exact Nm c () results291 J aA Za
theorem Zb1(hs:Sz 65536 xs):Zd9 prog 192 #[.pointer (some ⟨bd,0,none⟩),v] [Yx 2 wv v xs] true bd 250 #[.int .i64 0] (G:=Unit) (λ_=>True) (λ_=> .tuple #[Ic v (tzl xs).length,.int .i64 0]) (λ_=>#[.int .i64 0]) (λ_=>[Yx 2 wv (Ic v (tzl xs).length) (tzl xs)]):=by
 refine Dk func192 J ntmps192 J K1 ?_;intro g f e d;have e:=Hw.mk e;simp only [Qz,Xd];refine go 17<|Ze J (λc=>?_) (λc=>?_)
 .exfalso;simp_all
 .refine go 5 ?_;refine cl 3 [2] (Zen ‹_›) λ_ _=>go 5 ?_;exact Dt (.inl J) d () (λa w hs=>Yf7 hs results192 J J) J aA 1 J J J J (Gt 3 J J J Za)
theorem Yem(h:xs.length*24<=140737488355328:=by omega):Yhm prog 305 #[v] [Yx 2 wv v xs] (G:=Value) (λr=>True) (λr=>r) (λr=>Oe 2 80 wv r xs):=by
 refine Zls func305 J ntmps305 J K1 ?_;intro k j e f;have e:=Hw.mk e;simp only [Qz,Xd];refine Pi (Ym6 (i:=1) J Zr) λd=>go 9 ?_;refine dt (Zth J J J (i:=1) J Zr Lc)<|go 2 ?_;refine Mz J (λc=>?_) (λc=>?_)
 .refine go 7 ?_;obtain rfl:xs=[]:=d (by simpa using c);exact Zp (Qt 9 2 80 wv)<|Zfk (.inl J) (.slice none 0 0) (λa w hs=>Zcj hs results305 J) J aA J 9 J J J
 .refine go 4 ?_;refine tt (Yh8 2 (enc:=wv) J J J Lc pV J e.h) λv _=>go 1 ?_;refine tt (Oa 2 1 24 J J J J J J O4 J Zr Lc ti80 J pV J J J O9 O4 J e.h) λg _=>go 4 ?_;exact Zfk (.inl J) _ (λa w hs=>Zcj hs results305 J) J aA J 2 J (by rfl) J
theorem Zj4(d:Vp xs):Qe prog 301 #[v] [Yx 2 wv v xs] (.tuple #[.int .i64 ((xs.length:Int)-1),.int .i64 0]):=by refine Zg func301 ntmps301 λg f e a=>?_;have c:=d.len;refine go 10 ?_;refine cl 1 [1] (Xz ‹_›) λ_ _=>?_;refine go 16 ⟨O1,?_⟩;exact Nm a () results301 J aA Za
theorem Zpv(c:Vp xs):Qe prog 302 #[v] [Yx 2 wv v xs] (.tuple #[.int .i64 (Qc xs:Int),.int .i64 0]):=by refine Zg func302 ntmps302 λf e d a=>go 10 ?_;refine cl 1 [1] (Xz ‹_›) λ_ _=>go 9 ?_;refine cl 1 [1] (Mo c.sz) λ_ _=>go 5 ?_;exact Nm a () results302 J aA Za
theorem Zxz(n:Vp xs)(m:Vp ys)(o:∀i,bl (cf xs i+cf ys i).natAbs<=65536):Zd9 prog 193 #[v,u,.pointer (some ⟨bd,0,none⟩),.func (.func 196) #[.pointer (some ⟨bd,0,none⟩)] #[]] [Yx 2 wv v xs,Yx 2 wv u ys] true bd 250 #[.int .i64 0] (G:=Value) (λr=>True) (λr=> .tuple #[r,.int .i64 0]) (λr=>#[.int .i64 0]) (λr=>[Yx 2 wv r (Gb xs ys)]):=by
 refine Dk func193 J ntmps193 J K2 ?_;intro B z c j;have c:=Hw.mk c;simp only [Qz,Xd];have l:=n.len;have h:=m.len;refine go 10 ?_;refine cl 3 [2] (Xz ‹_›) λ_ _=>go 3 ?_;refine Hu 3 [3] (Xz ‹_›) λ_ _=>go 13 ?_;refine dt (Zc2 J J J)<|tt (Hl 4 (max xs.length ys.length) 24 (enc:=wv) 0 J J J J Lc ti80 J pV.cells pV.pos J J J c.h) λv _=>go 12 ?_;refine lp (G:=Nat) [0,1,2,3,10,29] [0,1,2,3] (λk=>[(30,.int .i64 (k:Int))]) (λk=>[(4,Oe 2 80 wv v (fill (max xs.length ys.length) k (λi=>cf xs i+cf ys i)))]) (λk=>k<=max xs.length ys.length) (λk=>max xs.length ys.length-k) 0 O2 K1 ⟨by rw [Ai (max xs.length ys.length) (λi=>cf xs i+cf ys i)];rfl,aA⟩ ?_;rintro k s;have q:(fill (max xs.length ys.length) k (λi=>cf xs i+cf ys i)).length=max xs.length ys.length:=Od _ _ _;refine go 6<|Ze J (λd=>?_) (λd=>?_)
 .try rw [aR]at *
  refine go 12<|Yd (Zw 5) λb _=>Yd (Zw 6) λg _=>go 2 ?_;refine jn (G:=Unit) [0,1,2,3,10,11,12,13,29,30] [0,4,1,2,3,6] (λ_=>[]) (λ_=>[(5,box b 80 (wc (cf xs k)))]) (λ_=>True) ?_ ?_
  .refine go 8<|Ze J (λe=>?_) (λe=>?_)
   .refine go 7 ⟨O3,O3,?_⟩;exact Oc () aA aA ⟨by first|rfl|(rw [Yr (p:=xs) O1];rfl),aA⟩
   .refine go 1 ?_;exact Oc () aA aA ⟨by first|rfl|(rw [Yr (p:=xs) O1];rfl),aA⟩
  .rintro _ -;refine jn (G:=Unit) [0,1,2,3,10,11,12,13,29,30] [0,5,4,1,2,3] (λ_=>[]) (λ_=>[(6,box g 80 (wc (cf ys k)))]) (λ_=>True) ?_ ?_
   .refine go 8<|Ze J (λf=>?_) (λf=>?_)
    .refine go 7 ⟨O3,O3,?_⟩;exact Oc () aA aA ⟨by first|rfl|(rw [Yr (p:=ys) O1];rfl),aA⟩
    .refine go 1 ?_;exact Oc () aA aA ⟨by first|rfl|(rw [Yr (p:=ys) O1];rfl),aA⟩
   .rintro _ -;refine go 6 ?_;refine tt (Zus 6 1 [_] [_,_] (Znv (n.sz _) (m.sz _) (o _)) J J J J K2 call196 J O4 Zn J c.h aA) (λ_ _=>?_);refine dt (Zv 4 k J J J J (Zz pV) Lc Ks J (by rw [Od];omega))<|tt (Km 4 (enc:=wv) J J J J J J pV J c.h O4 (by rw [Od];omega)) (λ_ _=>?_);refine go 7 ⟨O1,?_⟩;exact Yh (k+1) O2 O2 K1 ⟨by rw [<-Zdt O1];rfl,aA⟩
 .try rw [aR]at *
  refine go 6 ?_;obtain rfl:k=max xs.length ys.length:=O1;refine Zf (Xo 4 J J pV)<|go 3 ?_;refine tt (Pb 7 1 (Zb1 (by rw [Dd];exact Bm λi _=>o i)) J J J K2 call192 J O4 (Zm 4 J J J Zn) J c.h aA) λ_ _=>go 7 ?_;exact Dt (.inl J) j _ (λa w hs=>Yf7 hs results193 J J) J aA 1 J J J J (Znk 7 J J J (by rw [Dd]<;>rfl) Za)
theorem Zxy(n:Vp xs)(m:Vp ys)(o:∀i,bl (cf xs i-cf ys i).natAbs<=65536):Zd9 prog 193 #[v,u,.pointer (some ⟨bd,0,none⟩),.func (.func 194) #[.pointer (some ⟨bd,0,none⟩)] #[]] [Yx 2 wv v xs,Yx 2 wv u ys] true bd 250 #[.int .i64 0] (G:=Value) (λr=>True) (λr=> .tuple #[r,.int .i64 0]) (λr=>#[.int .i64 0]) (λr=>[Yx 2 wv r (Ek xs ys)]):=by
 refine Dk func193 J ntmps193 J K2 ?_;intro B z c j;have c:=Hw.mk c;simp only [Qz,Xd];have l:=n.len;have h:=m.len;refine go 10 ?_;refine cl 3 [2] (Xz ‹_›) λ_ _=>go 3 ?_;refine Hu 3 [3] (Xz ‹_›) λ_ _=>go 13 ?_;refine dt (Zc2 J J J)<|tt (Hl 4 (max xs.length ys.length) 24 (enc:=wv) 0 J J J J Lc ti80 J pV.cells pV.pos J J J c.h) λv _=>go 12 ?_;refine lp (G:=Nat) [0,1,2,3,10,29] [0,1,2,3] (λk=>[(30,.int .i64 (k:Int))]) (λk=>[(4,Oe 2 80 wv v (fill (max xs.length ys.length) k (λi=>cf xs i-cf ys i)))]) (λk=>k<=max xs.length ys.length) (λk=>max xs.length ys.length-k) 0 O2 K1 ⟨by rw [Ai (max xs.length ys.length) (λi=>cf xs i-cf ys i)];rfl,aA⟩ ?_;rintro k s;have q:(fill (max xs.length ys.length) k (λi=>cf xs i-cf ys i)).length=max xs.length ys.length:=Od _ _ _;refine go 6<|Ze J (λd=>?_) (λd=>?_)
 .try rw [aR]at *
  refine go 12<|Yd (Zw 5) λb _=>Yd (Zw 6) λg _=>go 2 ?_;refine jn (G:=Unit) [0,1,2,3,10,11,12,13,29,30] [0,4,1,2,3,6] (λ_=>[]) (λ_=>[(5,box b 80 (wc (cf xs k)))]) (λ_=>True) ?_ ?_
  .refine go 8<|Ze J (λe=>?_) (λe=>?_)
   .refine go 7 ⟨O3,O3,?_⟩;exact Oc () aA aA ⟨by first|rfl|(rw [Yr (p:=xs) O1];rfl),aA⟩
   .refine go 1 ?_;exact Oc () aA aA ⟨by first|rfl|(rw [Yr (p:=xs) O1];rfl),aA⟩
  .rintro _ -;refine jn (G:=Unit) [0,1,2,3,10,11,12,13,29,30] [0,5,4,1,2,3] (λ_=>[]) (λ_=>[(6,box g 80 (wc (cf ys k)))]) (λ_=>True) ?_ ?_
   .refine go 8<|Ze J (λf=>?_) (λf=>?_)
    .refine go 7 ⟨O3,O3,?_⟩;exact Oc () aA aA ⟨by first|rfl|(rw [Yr (p:=ys) O1];rfl),aA⟩
    .refine go 1 ?_;exact Oc () aA aA ⟨by first|rfl|(rw [Yr (p:=ys) O1];rfl),aA⟩
   .rintro _ -;refine go 6 ?_;refine tt (Zus 6 1 [_] [_,_] (Yag (n.sz _) (m.sz _) (o _)) J J J J K2 call194 J O4 Zn J c.h aA) (λ_ _=>?_);refine dt (Zv 4 k J J J J (Zz pV) Lc Ks J (by rw [Od];omega))<|tt (Km 4 (enc:=wv) J J J J J J pV J c.h O4 (by rw [Od];omega)) (λ_ _=>?_);refine go 7 ⟨O1,?_⟩;exact Yh (k+1) O2 O2 K1 ⟨by rw [<-Zdt O1];rfl,aA⟩
 .try rw [aR]at *
  refine go 6 ?_;obtain rfl:k=max xs.length ys.length:=O1;refine Zf (Xo 4 J J pV)<|go 3 ?_;refine tt (Pb 7 1 (Zb1 (by rw [Dd];exact Bm λi _=>o i)) J J J K2 call192 J O4 (Zm 4 J J J Zn) J c.h aA) λ_ _=>go 7 ?_;exact Dt (.inl J) j _ (λa w hs=>Yf7 hs results193 J J) J aA 1 J J J J (Znk 7 J J J (by rw [Dd]<;>rfl) Za)
theorem Ykx(xs ys:List Int)(e:Vp xs)(d:Vp ys)(f:∀i,bl (cf xs i+cf ys i).natAbs<=65536):Cal prog 139 #[v,u] [Yx 2 wv v xs,Yx 2 wv u ys] true (G:=Value) (λr=>True) (λr=> .tuple #[r,.int .i64 0]) (λr=>[Yx 2 wv r (Gb xs ys)]):=by refine Zg func139 ntmps139 λh g c a=>go 8 ?_;refine Yd (Zw 3) λb _=>go 6 ?_;refine dt (d_mkf [_] J K1)<|tt (Pb 4 3 (Zxz ‹_› ‹_› ‹_›) J J J K4 call193 J O4 (Zm 1 J J J (Zm 2 J J J Zn)) J c.h aA) λ_ _=>go 7 ?_;exact Nm a _ results139 J aA (Ph 4 Za)
theorem Ykw(xs ys:List Int)(e:Vp xs)(d:Vp ys)(f:∀i,bl (cf xs i-cf ys i).natAbs<=65536):Cal prog 137 #[v,u] [Yx 2 wv v xs,Yx 2 wv u ys] true (G:=Value) (λr=>True) (λr=> .tuple #[r,.int .i64 0]) (λr=>[Yx 2 wv r (Ek xs ys)]):=by refine Zg func137 ntmps137 λh g c a=>go 8 ?_;refine Yd (Zw 3) λb _=>go 6 ?_;refine dt (d_mkf [_] J K1)<|tt (Pb 4 3 (Zxy ‹_› ‹_› ‹_›) J J J K4 call193 J O4 (Zm 1 J J J (Zm 2 J J J Zn)) J c.h aA) λ_ _=>go 7 ?_;exact Nm a _ results137 J aA (Ph 4 Za)
theorem Zv4(xs ys:List Int)(B:Vp xs)(z:Vp ys)(M:¬Zar xs ys):Cal prog 138 #[v,u] [Yx 2 wv v xs,Yx 2 wv u ys] true (G:=Value) (λr=>True) (λr=> .tuple #[r,.int .i64 0]) (λr=>[Yx 2 wv r (Qx xs ys)]):=by
 refine Zg func138 ntmps138 λw0 sc D f=>?_;have N:=B.len;have I:=z.len;have V:=Qy B.sz;have W:=Qy z.sz;refine go 10 ?_;refine cl 2 [1] (Xz ‹_›) λ_ _=>go 3 ?_;refine Hu 2 [2] (Xz ‹_›) λ_ _=>go 14<|Xf 23 J (λF=>?_) (λF=>?_)
 .refine go 15 ?_;exact Nm f _ results138 J aA (Mr (Zbr (p:=xs) (q:=ys) (by first|(left;omega)|(right;omega))) Za)
 .refine go 6<|Ze J (λg=>?_) (λg=>?_)
  .refine go 8 ?_;exact Nm f _ results138 J aA (Mr (Zbr (p:=xs) (q:=ys) (by first|(left;omega)|(right;omega))) Za)
  .have c:xs≠[]:=by intro e;subst e;simp_all
   have d:ys≠[]:=by intro e;subst e;simp_all
   have R:0<xs.length:=aH.2 c;have S:0<ys.length:=aH.2 d;refine go 13 ⟨O1,O1,?_⟩;refine Xf 35 J (λH=>?_) (λH=>?_)
   .exfalso;exact M ⟨c,d,.inl O1⟩
   .refine go 1 ?_;refine Hu 2 [1] (Mo (by first|exact B.sz|exact z.sz)) λ_ _=>go 1 ?_;refine Hu 2 [2] (Mo (by first|exact B.sz|exact z.sz)) λ_ _=>?_;refine go 6 ⟨O1,O1,?_⟩;refine Ze J (λk=>?_) (λk=>?_)
    .exfalso;exact M ⟨c,d,by first|(left;omega)|(right;omega)⟩
    .have Y:Qc xs+Qc ys+5<=65536:=O1;have s:∀i j,bl (cf xs i*cf ys j).natAbs<=65536:=λi j=>by have:=Zy (cf xs i) (cf ys j);have:=Pd xs i;have:=Pd ys j;omega
     have n:∀i j t,i<25->bl (Zb5 xs ys i j t).natAbs<=65536:=λi j t hi=>by have:=Yt9 (i:=i) (j:=j) (t:=t) (Pd xs) (Pd ys) O1;omega
     have o:∀t,bl (acc xs ys xs.length t).natAbs<=65536:=λt=>by have:=bl_acc (i:=xs.length) (t:=t) (Pd xs) (Pd ys) O1;omega
     have w:∀i j,i<25->bl (Zb5 xs ys i j (i+j)+cf xs i*cf ys j).natAbs<=65536:=λi j hi=>by rw [<-Yhl];exact n i (j+1) _ hi
     refine go 4<|Yd (Zw 3) λb _=>?_;refine go 10 ⟨O1,O1,?_⟩;refine tt (Hl 4 (xs.length+ys.length-1) 24 (enc:=wv) 0 J J J J Lc ti80 J pV.cells pV.pos J J J D.h) λv _=>go 12 ?_;refine lp (G:=Nat) [1,6,7,51,52] [0,1,2,3] (λi=>[(53,.int .i64 (i:Int))]) (λi=>[(4,Oe 2 80 wv v (mk (xs.length+ys.length-1) (acc xs ys i)))]) (λi=>i<=xs.length) (λi=>xs.length-i) 0 O2 K1 ⟨by rw [Zrj];rfl,aA⟩ ?_;rintro i hi;refine go 6<|Ze J (λl=>?_) (λl=>?_)
     .refine go 9 ⟨O3,O3,?_⟩;refine Yd (Zw 5) λP _=>go 12 ?_;refine lp (G:=Nat) [1,6,7,8,9,51,52,53,58,59] [0,1,2,3,5] (λj=>[(60,.int .i64 (j:Int))]) (λj=>[(4,Oe 2 80 wv v (mk (xs.length+ys.length-1) (Zb5 xs ys i j)))]) (λj=>j<=ys.length) (λj=>ys.length-j) 0 O2 K1 ⟨by rw [Yhk];rfl,aA⟩ ?_;rintro j Z;have a:i+j<xs.length+ys.length-1->(mk (xs.length+ys.length-1) (Zb5 xs ys i j)).getD (i+j) 0=Zb5 xs ys i j (i+j):=λh=>Zey h;refine go 6<|Ze J (λm=>?_) (λm=>?_)
      .refine go 9 ⟨O3,O3,?_⟩;refine Yd (Zw 6) λQ _=>go 4<|Qb (λx=>x=b) [(0,0),(1,0),(2,0),(3,0),(4,0),(5,0),(6,0),(7,0),(8,0),(9,0),(10,0),(11,0),(12,1),(13,1),(14,0),(15,3)]<|go 8 ⟨O1,O1,?_⟩;refine Xc J J (st1 3 J (Zv 4 (i+j) J J J J (Zz pV) Lc Ks O1 (by rw [Xa];omega)))<|go 3 ⟨by rw [Xa];omega,?_⟩;refine Kp J (Pb 6 3 (Cd (B.sz _) (z.sz _) (s i j)) J J J K3 call191 J O4 Zn J D.h J) (λ_ _=>?_);refine Kp J (Pb 6 3 (Znv (by rw [a O1];exact n i j _ O1) (s i j) (by rw [a O1];exact w i j O1)) J J J K3 call196 J O4 Zn J D.h J) (λ_ _=>?_);refine Xc J J (st1 3 J (Zv 4 (i+j) J J J J (Zz pV) Lc Ks O1 (by rw [Xa];omega)))<|r3' J (Km 4 (enc:=wv) J J J J J J pV J D.h O4 (by rw [Xa];omega)) (λ_ _=>?_);refine go 7 ⟨O1,?_⟩;exact Yh (j+1) O2 O2 K1 ⟨by rw [<-Yo7 O1,<-a O1];rfl,aA⟩
      .refine go 10 ⟨O1,?_⟩;obtain rfl:j=ys.length:=O1;exact Yh (i+1) O2 O2 K1 ⟨by rw [<-Yo8];rfl,aA⟩
     .refine go 6 ?_;obtain rfl:i=xs.length:=O1;refine Zf (Xo 4 J J pV)<|go 2 ?_;refine tt (Pb 7 3 (Zb1 (Bm λt _=>o t)) J J J K2 call192 J O4 (Zm 4 J J J Zn) J D.h aA) λ_ _=>go 7 ?_;exact Nm f _ results138 J aA (Ph 7 Za (by rw [Yk0]<;>rfl))
end Go.Sky

