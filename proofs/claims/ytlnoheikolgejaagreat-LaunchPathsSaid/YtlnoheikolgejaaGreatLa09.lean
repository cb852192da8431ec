/- Rules, arithmetic and contracts: part 10. No conditions but those that each theorem names. -/
import Derived.Test.YtlnoheikolgejaaGreatLa08
set_option linter.all false
set_option maxHeartbeats 4000000
namespace Go.Sky
open Go.Proofs.Tryz
open Go.Proofs
set_option synthInstance.maxHeartbeats 0
set_option synthInstance.maxSize 100000
set_option maxRecDepth 20000
set_option linter.unusedSimpArgs false
variable{b:Bool}{x y:Int}{t:TypeId}{v u:Value}{xs ys:List Int}{bd:Nat}
theorem Ag{s:ByteArray}:Qp prog 152 #[.agg #[.bool b,.string s]] [] (.bool (okW b s)):=by
 refine Zf func152 ntmps152 λg f e c=>go 2 ?_;refine Ym (Yj 1) λb _=>go 8 ?_;refine dt (Zsq J J J J)<|go 2 ?_;refine Zc J (λa=>?_) (λa=>?_)
 .refine go 10 ?_;exact Xc c () results152 (by unfold okW;rw [aF a]) aA Za
 .refine go 6 ?_;refine dt (Yds (i:=0) J J J uT9 J)<|go 2 ?_;refine Yn 13 J (λd=>?_) (λd=>?_)
  .refine go 9 ?_;exact Xc c () results152 (by unfold okW;rw [aD a];simp_all<;>omega) aA Za
  .refine go 9 ?_;exact Xc c () results152 (by unfold okW;rw [aD a];simp_all<;>omega) aA Za
def Mn(a:bl x.natAbs<=65536):Cal prog 152 #[wv x] [] false (G:=Unit) (λ_=>True) (λ_=> .bool true) (λ_=>[]):=Za3 a▸Ag
theorem Zj2(b:Bool)(s:ByteArray)(c:Bool)(t:ByteArray):Qp prog 210 #[.agg #[.bool b,.string s],.agg #[.bool c,.string t]] [] (.bool (okW b s && okW c t)):=by
 refine Zf func210 ntmps210 λh g f a=>go 2 ?_;refine Ym (Yj 1) λb _=>Ym (Yj 2) λe _=>go 6 ?_;refine cl 2 [] Ag λ_ _=>go 1<|Nv 7 J (λd=>?_) (λd=>?_)
 .refine go 1 ?_;refine It 2 [] Ag λ_ _=>go 5 ?_;exact Xc a () results210 (by simp_all) aA Za
 .refine go 7 ?_;exact Xc a () results210 (by simp_all) aA Za
theorem Ln(a:bl x.natAbs<=65536)(c:bl y.natAbs<=65536):Qp prog 210 #[wv x,wv y] [] (.bool true):=by have h:=Zj2 (decide (x<0)) (Xn x.natAbs) (decide (y<0)) (Xn y.natAbs);rw [Za3 a,Za3 c]at h;exact h
theorem Kb(e:bl x.natAbs<=65536):Qp prog 216 #[wv x] [] (.int .i64 x.sign):=by refine Zf func216 ntmps216 λh f d a=>go 2 ?_;refine Ym (Yj 1) λb _=>go 7 ?_;refine cl 1 [] (Mn ‹_›) λ_ _=>go 9 ?_;refine cl 2 [] (Pm Nb) λg c=>cl 2 [2] (Zii ‹_›) λ_ _=>go 4 ?_;exact Xc a () results216 J aA Za
theorem Zhj(d:bl x.natAbs<=65536):Qp prog 281 #[wv x] [] (.int .i64 (bl x.natAbs:Int)):=by refine Zf func281 ntmps281 λf e c a=>go 2 ?_;refine Ym (Yj 1) λb _=>go 7 ?_;refine cl 1 [] (Mn ‹_›) λ_ _=>go 10 ?_;refine cl 2 [] Zbr λv _=>cl 2 [2] Zil λ_ _=>go 4 ?_;exact Xc a () results281 J aA Za
theorem Zn6(m:bl x.natAbs<=65536)(n:bl y.natAbs<=65536):Qp prog 155 #[wv x,wv y] [] (Zam (x+y)):=by refine Zf func155 ntmps155 λp o l a=>?_;have j:=Fq x y;refine go 2<|Ym (Yj 1) λb _=>Ym (Yj 2) λe _=>Ym (Yd 3) λf _=>go 8 ?_;refine cl 3 [] (Ln ‹_› ‹_›) λ_ _=>go 7<|Qj (λ_=>False) [(0,0),(2,0),(1,1),(3,1),(4,1),(5,1),(6,0),(7,0),(8,3),(9,3)]<|go 2<|Xq (Zs 4 [] (Pm Nb)) λg k=>Xq (Zs 5 [] (Pm Nb)) λh c=>Xq (Zs 6 [4,5] (Zef ‹_› ‹_›)) λi d=>Xq (Zs 6 [6] (Ks ‹_›)) λ_ _=>go 7 ?_;exact Na a () results155 J aA Za
theorem Zyr(p:bl x.natAbs<=65536)(q:bl y.natAbs<=65536):Qp prog 396 #[wv x,wv y] [] (Zam (x-y)):=by refine Zf func396 ntmps396 λs r o a=>?_;have m:=Zhh x y;have l:=Zs6 y;refine go 2<|Ym (Yj 1) λb _=>Ym (Yj 2) λf _=>Ym (Yd 3) λh _=>go 8 ?_;refine cl 3 [] (Ln ‹_› ‹_›) λ_ _=>go 7<|Qj (λ_=>False) [(0,0),(2,0),(1,1),(3,1),(4,1),(5,1),(6,1),(7,0),(8,0),(9,3),(10,3)]<|go 2<|Xq (Zs 4 [] (Pm Nb)) λg n=>Xq (Zs 5 [] (Pm Nb)) λi c=>Xq (Zs 6 [5] (Zmj ‹_›)) λj d=>Xq (Zs 7 [4,6] (Zef ‹_› ‹_›)) λk e=>Xq (Zs 7 [7] (Ks ‹_› (by rw [<-gM];omega))) λ_ _=>go 7 ?_;exact Na a () results396 (by rw [gM]<;>rfl) aA Za
theorem Zn3(m:bl x.natAbs<=65536)(n:bl y.natAbs<=65536):Qp prog 283 #[wv x,wv y] [] (Zam (x*y)):=by refine Zf func283 ntmps283 λp o l a=>?_;have j:=Xg x y;refine go 2<|Ym (Yj 1) λb _=>Ym (Yj 2) λe _=>Ym (Yd 3) λf _=>go 8 ?_;refine cl 3 [] (Ln ‹_› ‹_›) λ_ _=>go 7<|Qj (λ_=>False) [(0,0),(2,0),(1,1),(3,1),(4,1),(5,1),(6,0),(7,0),(8,3),(9,3)]<|go 2<|Xq (Zs 4 [] (Pm Nb)) λg k=>Xq (Zs 5 [] (Pm Nb)) λh c=>Xq (Zs 6 [4,5] (Zb1 ‹_› ‹_›)) λi d=>Xq (Zs 6 [6] (Ks ‹_›)) λ_ _=>go 7 ?_;exact Na a () results283 J aA Za
theorem Zn5(x y:Int)(j:bl x.natAbs<=65536)(k:bl y.natAbs<=65536):Qp prog 209 #[wv x,wv y] [] (Zam (Int.gcd x y:Int)):=by refine Zf func209 ntmps209 λm l i c=>?_;have h:=Zns x.natAbs y.natAbs;refine go 2<|Ym (Yj 1) λb _=>Ym (Yj 2) λd _=>Ym (Yd 3) λe _=>go 8 ?_;refine cl 3 [] (Ln ‹_› ‹_›) λ_ _=>go 7<|Qj (λ_=>False) [(0,0),(1,0),(3,0),(4,0),(2,1),(5,1),(6,1),(7,0),(8,1),(9,0),(10,0),(11,3),(12,3)]<|go 4<|Xq (Zs 4 [] Zbr) λv _=>Xq (Zs 5 [] Zbr) λf _=>Xq (Zs 6 [4,5] Zmm) λg _=>?_;refine Xp J J (Qv (Xv [(0,_),(1,_)] J K4 (λa w hs=>Lb ((Ze J) a w hs) ((Qm 6 J Zh) a w hs))))<|Xq (Zs 6 [6] (Ks (s:=false) (x:=(Int.gcd x y:Int)) (by simp [sg]) (by show bl (Nat.gcd x.natAbs y.natAbs)<=_;omega))) λ_ _=>go 7 ?_;exact Na c () results209 J aA Za
theorem Dk(H:bl x.natAbs<=65536)(I:bl y.natAbs<=65536)(c:y≠0):Qp prog 154 #[wv x,wv y] [] (.tuple #[wv (Bx (x/y)),wv (Bx (x%y)),.int .i64 0]):=by
 refine Zf func154 ntmps154 λQ P w d=>?_;have D:=Zhi x y;have o:=Zwf x y c;refine go 2<|Ym (Yj 1) λb _=>Ym (Yj 2) λh _=>Ym (Yd 3) λi _=>Ym (Yd 4) λj _=>go 8 ?_;refine cl 4 [] (Ln ‹_› ‹_›) λ_ _=>go 11 ?_;refine dt (Zsq J J J J)<|go 2 ?_;refine Zc J (λa=>?_) (λa=>?_)
 .rw [Fg]at a;exfalso;exact c (by have:=(Og (by omega:2<=256) y.natAbs).1 a;omega)
 .refine go 2 ?_;refine jn (G:=Bool×Value×Value×Nat×Nat) [4,5] [0,1,2,3,4] (λq=>[(7,.pointer (some ⟨q.2.2.2.1,0,none⟩)),(8,.pointer (some ⟨q.2.2.2.2,0,none⟩))]) (λq=>[(84,Gs q.2.1 (x/y).natAbs),(85,Gs q.2.2.1 (x%y).natAbs),(86,box q.2.2.2.1 228 #[.bool q.1,q.2.1]),(87,box q.2.2.2.2 228 #[.bool false,q.2.2.1])]) (λq=>sg q.1 (x/y)) ?_ ?_
  .refine Oj [1,2] [11]<|Ya 10 [(0,0),(2,0)]<|go 3 ?_
   repeat' first|refine bq 1 ?_;refine Hh (Zs 81 [] (Pm Nb)) λg F=>?_|refine bq 3 ?_;refine Hh (Zs 82 [] (Pm Nb)) λm e=>?_|refine bq 4 ?_;refine Hh (Zs 84 [81,82] (Zee _ _ ‹_› ‹_› O c)) λn f=>?_|refine bq 8 ?_;refine Hh (Ii 86) λk p=>?_|refine bq 9 ?_;refine Hh (Ii 87) λl r=>?_|refine bq 10 ?_;refine Zaf rfl rfl (Zkd 86 rfl rfl rfl rfl rfl rfl sizeOf228 rfl rfl ⟨Ze rfl,Qm 84 rfl Zh,aA⟩ rfl w.h p.h) (λ_ _=>?_)|refine a_b3 1 8 9 O6 ?_ ?_ ?_|refine Ztf 1 8 O6 ?_ ?_|refine Zyn 1 O6 ?_|refine Zyn 3 O6 ?_|refine Zyn 4 O6 ?_|refine Zyn 10 O6 ?_|refine Ztf 3 8 O6 ?_ ?_|refine Ztf 4 8 O6 ?_ ?_|refine Zyn 8 O6 ?_|refine Ztf 1 9 O6 ?_ ?_|refine Ztf 3 9 O6 ?_ ?_|refine Ztf 4 9 O6 ?_ ?_|refine Zyn 9 O6 ?_|refine a_b3 3 8 9 O6 ?_ ?_ ?_|refine a_b3 4 8 9 O6 ?_ ?_ ?_|refine Ztf 8 9 O6 ?_ ?_|refine Zwn 5 0 O6 ?_;refine go 2 ?_|refine Zwn 6 0 O6 ?_;refine go 2 ?_|refine Zwn 7 0 O6 ?_;refine go 2 ?_|refine Zwn 11 3 O6 ?_;refine go 2 ?_|refine Yu ?_ O6;exact Hd (_,_,_,_,_) ‹_› ⟨rfl,rfl,aA⟩ ⟨rfl,rfl,rfl,rfl,aA⟩
  .rintro⟨M,qv,N,z,B⟩ s;dsimp only at s;dsimp only;refine go 3 ?_;refine cl 4 [84] (Ks ‹_›) λ_ _=>go 9 ?_;refine cl 4 [85] (Ks (Ygb x c)) λ_ _=>go 7<|Oj [4] [3,4] ?_;refine Ya 0 [(1,0),(0,1),(2,1),(3,3),(4,3)]<|go 6 ?_;exact Yu<|go 2<|xe3 d () results154 J aA Za
theorem Zal{s t:Bool}{w:Value}(hs:sg s x)(m:sg t y)(k:y≠0)(Y:bl x.natAbs<=1000000000:=by omega)(Z:bl y.natAbs<=1000000000:=by omega):Qp prog 365 #[.agg #[.bool s,v],.agg #[.bool t,w]] [Gs v x.natAbs,Gs w y.natAbs] (Am x y):=by
 refine Zf func365 ntmps365 λw0 sc W c=>?_;have S:=Zns x.natAbs y.natAbs;have e:Nu x y≠0:=Yhn k;have h:sg t (Nu x y):=Yf9 m k;have f:=Za6 x y;have P:=Zhi x (Nu x y);have Q:=Zhi y (Nu x y);refine go 2<|Ym (Yj 3) λb _=>Ym (Yj 4) λq _=>Ym (Yd 5) λr _=>go 4<|Da (λ_=>False) [9] ?_;refine Ya 4 [(0,0),(1,0),(2,0),(3,0),(4,0),(5,0)]<|go 7 ?_;refine Ml 3 6 8 ?_ ?_
 .refine Hh (Zs 81 [1,2] Zmm) λv _=>?_;refine Ya 0 [(7,0),(8,1),(9,3)]<|Xp J J (Qv (Xv [(0,_),(1,_)] J K4 (λa w hs=>Lb ((Ze J) a w hs) ((Qm 81 J Zh) a w hs))))<|Xq (Yd 82) λz _=>go 2 ?_;refine Yu<|go 2<|Zl (Ol 81 (Zuw x y) J J)<|go 3 ?_;refine cl 6 [1,81] (Zee x (Nu x y) hs h (by rw [f];omega) e) λg V=>go 10 ?_;refine cl 8 [2,81] (Zee y (Nu x y) m h (by rw [f];omega) e) λI n=>go 9 ?_;refine cl 9 [6] (Ks ‹_›) λ_ _=>go 3<|Ym (Yd 10) λB _=>go 7 ?_;refine cl 10 [8] (Ks ‹_›) λ_ _=>go 3<|Ym (Yd 11) λD _=>go 10<|Yn 43 J (λl=>?_) (λl=>?_)
  .refine go 8 ?_;refine dt (Xv [] J aA (λa w hs=>Zq7))<|go 6 ?_;exact Na c () results365 (Al (by unfold Ld;first|exact .inl (Ct ‹_›)|exact .inr (Ct ‹_›))) aA Za
  .refine go 5<|Zc J (λj=>?_) (λj=>?_)
   .refine go 2 ?_;refine dt (Xv [] J aA (λa w hs=>Zq7))<|go 6 ?_;exact Na c () results365 (Al (by unfold Ld;first|exact .inl (Ct ‹_›)|exact .inr (Ct ‹_›))) aA Za
   .refine go 6 ?_;refine dt (Xv [(0,_),(1,_)] J K4 (λa w hs=>Ze3))<|go 5 ?_;exact Na c () results365 (Zo1 (cH ‹_›) (cH ‹_›)) aA Za
 .refine Hh (Yd 82) λF _=>?_;refine Ya 0 [(6,1),(7,0),(9,3)]<|Xq (Zs 81 [1,2] Zmm) λR _=>?_;refine Xp J J (Qv (Xv [(0,_),(1,_)] J K4 (λa w hs=>Lb ((Ze J) a w hs) ((Qm 81 J Zh) a w hs))))<|go 2 ?_;refine Yu<|go 2<|Zl (Ol 81 (Zuw x y) J J)<|go 3 ?_;refine cl 12 [1,81] (Zee x (Nu x y) hs h (by rw [f];omega) e) λM o=>go 10 ?_;refine cl 14 [2,81] (Zee y (Nu x y) m h (by rw [f];omega) e) λN p=>go 9 ?_;refine cl 15 [12] (Ks ‹_›) λ_ _=>go 3<|Ym (Yd 16) λG _=>go 7 ?_;refine cl 16 [14] (Ks ‹_›) λ_ _=>go 3<|Ym (Yd 17) λH _=>go 10<|Yn 43 J (λi=>?_) (λi=>?_)
  .refine go 8 ?_;refine dt (Xv [] J aA (λa w hs=>Zq7))<|go 6 ?_;exact Na c () results365 (Al (by unfold Ld;first|exact .inl (Ct ‹_›)|exact .inr (Ct ‹_›))) aA Za
  .refine go 5<|Zc J (λd=>?_) (λd=>?_)
   .refine go 2 ?_;refine dt (Xv [] J aA (λa w hs=>Zq7))<|go 6 ?_;exact Na c () results365 (Al (by unfold Ld;first|exact .inl (Ct ‹_›)|exact .inr (Ct ‹_›))) aA Za
   .refine go 6 ?_;refine dt (Xv [(0,_),(1,_)] J K4 (λa w hs=>Ze3))<|go 5 ?_;exact Na c () results365 (Zo1 (cH ‹_›) (cH ‹_›)) aA Za
theorem Zct(l:bl x.natAbs<=65536)(m:bl y.natAbs<=65536)(c:y≠0:=by omega):Qp prog 312 #[wv x,wv y] [] (Am x y):=by
 refine Zf func312 ntmps312 λo n k d=>go 2 ?_;refine Ym (Yj 1) λb _=>Ym (Yj 2) λf _=>Ym (Yd 3) λh _=>go 8 ?_;refine cl 3 [] (Ln ‹_› ‹_›) λ_ _=>go 11 ?_;refine dt (Zsq J J J J)<|go 2 ?_;refine Zc J (λa=>?_) (λa=>?_)
 .rw [Fg]at a;exfalso;exact c (by have:=(Og (by omega:2<=256) y.natAbs).1 a;omega)
 .refine go 3<|Qj (λ_=>False) [(0,0),(2,0),(1,1),(3,1),(4,1),(5,0),(6,0),(7,3),(8,3)]<|go 2<|Xq (Zs 4 [] (Pm Nb)) λg j=>Xq (Zs 5 [] (Pm Nb)) λi e=>Xq (Zs 5 [4,5] (Zal ‹_› ‹_› c)) λ_ _=>go 7 ?_;exact Na d () results312 J aA Za
theorem Zgl{s:ByteArray}{c:Bool}{t:ByteArray}:Qp prog 305 #[.agg #[.bool b,.string s,.bool c,.string t]] [] (.bool (okR b s c t)):=by
 refine Zf func305 ntmps305 λl k j g=>go 2 ?_;refine Ym (Yj 1) λb _=>go 9 ?_;refine cl 1 [] (Zj2 _ _ _ _) λ_ _=>go 1<|Nv 8 J (λh=>?_) (λh=>?_)
 .have i:okW c t=true:=by simp_all
  have d:=Zmh i;obtain⟨a,e,f⟩:=Classical.choose_spec d;generalize Classical.choose d=z at a e f ⊢;subst e;subst f
  try clear d
  refine go 2 ?_;refine It 1 [] (Kb (x:=z) a) λ_ _=>go 6 ?_;exact Xc g () results305 (by first|rw [Zpi (by simp_all) a]|(unfold okR;simp_all)) aA Za
 .refine go 9 ?_;exact Xc g () results305 (by first|rw [Zpi (by simp_all) a]|(unfold okR;simp_all)) aA Za
def Ns(c:bl x.natAbs<=65536)(d:bl y.natAbs<=65536)(a:0<y):Cal prog 305 #[rX x y] [] false (G:=Unit) (λ_=>True) (λ_=> .bool true) (λ_=>[]):=okR_wv c d a▸Zgl
theorem Zn(x:Int)(f:Me x:=by exact⟨O,O⟩):Qp prog 80 #[.int .i64 x] [] (wv x):=by
 refine Zf func80 ntmps80 λm l h e=>?_;have i:=f.1;have j:=f.2;have d:x.natAbs<U:=by simp only [U];omega
 have k:bl x.natAbs<=64:=(Qg 64 _).2 (by rw [<-Ye8];exact d);refine go 2<|Ym (Yd 1) λb _=>go 5 ?_;refine dt (Yit (r:=x%18446744073709551616) J J uT3 Bf J)<|go 3 ?_;refine jn (G:=Unit) [0,2] [0,1] (λ_=>[(3,.int .u64 ((x.natAbs:Nat):Int))]) (λ_=>[]) (λ_=>True) ?_ ?_
 .refine go 6<|Zc J (λc=>?_) (λc=>?_)
  .refine go 2 ?_;refine dt (Zy0 x.natAbs J J O)<|go 2 ?_;exact Hd () aA ⟨by first|rfl|(rw [show x%18446744073709551616=((x.natAbs:Nat):Int) by omega];rfl),aA⟩ aA
  .refine go 1 ?_;exact Hd () aA ⟨by first|rfl|(rw [show x%18446744073709551616=((x.natAbs:Nat):Int) by omega];rfl),aA⟩ aA
 .rintro _ -;refine go 5 ?_;refine tt (Xm [(0,_)] 2 (enc:=Ot) [x.natAbs] J J K2 Qx ti222 J J J J J pU.cells J J h.h) λv _=>cl 2 [2] Pa λ_ _=>?_;refine Zo (Zh4 2 J J pU)<|Zo (Zz8 2 (Ze8 d) J J)<|dt (Xv [(0,_),(1,_)] J K4 (λa w hs=>Lb ((Ze J) a w hs) ((Qm 2 J (Yc pU)) a w hs)))<|cl 2 [2] (Ks (x:=x) Nb) λ_ _=>go 3 ?_;refine Ym (Yd 3) λg _=>go 11 ?_;exact Xc e () results80 (by rw [Lr O]<;>rfl) aA Za
theorem Zbx(hs:Sz 65536 xs):Cal prog 214 #[v] [Yg 2 wv v xs] true (G:=Unit) (λ_=>True) (λ_=>Ic v (tzl xs).length) (λ_=>[Yg 2 wv (Ic v (tzl xs).length) (tzl xs)]):=by
 refine Zf func214 ntmps214 λp o n d=>?_;refine Qf (Yc3 (i:=1) J Zh) (λa=>?_);refine Qf (Py (i:=1) J Zh) λm=>go 7 ?_;refine lp (G:=Nat) [] [0] (λk=>[(0,Ic v k)]) (λk=>[(1,Yg 2 wv (Ic v k) (xs.take k))]) (λk=>(k<=xs.length)/\(tzl (xs.take k)=tzl xs)) (λk=>k) xs.length ⟨aK _,by rw [bM]⟩ ⟨by rw [a];rfl,aA⟩ ⟨by rw [a,bM];rfl,aA⟩ ?_;rintro k ⟨h,j⟩;have f:(xs.take k).length=k:=by rw [aU];omega
 refine go 7<|Yn 6 J (λl=>?_) (λl=>?_)
 .refine go 4 ⟨O,?_⟩;refine Bb (Yh 1 (k-1) J J J J Zh Qo Pe) J J<|go 1 ⟨O,?_⟩;refine It 1 [] (Kb ((hs.take _).getD _)) λ_ _=>go 4<|Zc J (λg=>?_) (λg=>?_)
  .have c:=Zy1 h O (Zrj (k:=k) O (gN.1 ‹_›):cf xs (k-1)=0);refine go 8 ⟨O,?_⟩;refine dt (Ydp 1 (k-1) J J J J Zh Qo Pe)<|go 3 ?_;exact Zr (s_pre 1 1 (k-1) J J)<|Yv (k-1) ⟨O1,by rw [<-j,<-c]⟩ O1 ⟨by rw [<-Zbw v k (k-1)];rfl,aA⟩ ⟨by rw [Zbw,jU,dM O];rfl,aA⟩
  .refine go 12 ?_;have e:tzl xs=xs.take k:=by rw [<-j];exact Zoa h (by first|(left;omega)|(right;exact Zob k O ‹_›))
   exact Xc d () results214 (by rw [e,f]) aA (Oz 1 Za (by rw [e,f]))
 .refine go 24 ?_;have e:tzl xs=xs.take k:=by rw [<-j];exact Zoa h (by first|(left;omega)|(right;exact Zob k O ‹_›))
  exact Xc d () results214 (by rw [e,f]) aA (Oz 1 Za (by rw [e,f]))
theorem Zr0(v:Value)(r:List (Bool×ByteArray)):Qp prog 215 #[v] [Yg 2 Yc9 v r] (.bool (okP r)):=by
 refine Zf func215 ntmps215 λz s p a=>?_;refine Qf (Py (i:=1) J Zh) λg=>go 14 ?_;refine lp (G:=Nat) [0,5,6] [0,1] (λk=>[(7,.int .i64 (k:Int))]) (λk=>[]) (λk=>(k<=r.length)/\((r.take k).all (λw=>okW w.1 w.2)=true)) (λk=>r.length-k) 0 ⟨O1,O7⟩ K1 aA ?_;rintro k ⟨o,l⟩;refine go 6<|Zc J (λj=>?_) (λj=>?_)
 .refine go 7 ⟨O2,?_⟩;refine dt (Po 1 (false,⟨#[]⟩) J J J Zh pW O2)<|Ym (Yd 2) λb _=>go 6 ?_;refine cl 2 [] Ag λ_ _=>go 3<|Pr J (λf=>?_) (λf=>?_)
  .refine go 11 ?_;exact Xc a () results215 (by rw [Yg6 (Zk (i:=k) (d:=(false,⟨#[]⟩))) (by simp_all)]) aA Za
  .refine go 7 ⟨O,?_⟩;exact Yv (k+1) ⟨O1,by rw [Qb (false,⟨#[]⟩) _ O,List.all_append,l];simpa using f⟩ O1 K1 aA
 .refine go 6 ?_;obtain rfl:k=r.length:=O;rw [bM]at l;obtain⟨xs,c,rfl⟩:=Zph (bW.1 l);have m:=Sz.of_mem c;rw [aQ]at g;refine Zl (Zl0 1 (q:=Yg 2 wv v xs) J J (Yf6 v xs) (λ_ h=>fpn h) J)<|go 5<|Yn 18 J (λn=>?_) (λn=>?_)
  .refine go 4<|Yn 22 J (λe=>?_) (λe=>?_)
   .refine go 14 ?_;exact Xc a () results215 (by rw [Zmi c];first|(simp_all;done)|(simp_all;omega)) aA Za
   .refine go 4 ⟨O,?_⟩;refine Bb (Yh 1 (xs.length-1) J J J J Zh Qo Pe) J J<|go 1 ⟨O,?_⟩;refine It 2 [] (Kb (m.getD _)) λ_ _=>go 7 ?_;exact Xc a () results215 (by rw [Zmi c];first|(simp_all;done)|(simp_all;omega)) aA Za
  .refine go 18 ?_;exact Xc a () results215 (by rw [Zmi c];first|(simp_all;done)|(simp_all;omega)) aA Za
def Yz(h:Vp xs):Cal prog 215 #[v] [Yg 2 wv v xs] false (G:=Unit) (λ_=>True) (λ_=> .bool true) (λ_=>[]):=okP_wr h▸(Zr0 v (xs.map wr)).imp (slp_wr v xs) (λ_ h=>fpm h)
theorem Od(hs:Sz 65536 xs):Qp prog 217 #[v] [Yg 2 wv v xs] (.int .i64 (Qk xs:Int)):=by
 refine Zf func217 ntmps217 λh g f c=>?_;refine Qf (Py (i:=1) J Zh) λd=>go 19 ?_;refine lp (G:=Nat) [6,7] [0,1] (λk=>[(8,.int .i64 (k:Int)),(3,.int .i64 (Qk (xs.take k):Int))]) (λk=>[]) (λk=>k<=xs.length) (λk=>xs.length-k) 0 O1 K2 aA ?_;rintro k e;refine go 6<|Zc J (λa=>?_) (λa=>?_)
 .refine go 8 ⟨O2,O2,?_⟩;refine Ym (Yd 2) λb _=>go 6 ?_;refine cl 2 [] (Zhj (hs.getD _)) λ_ _=>?_;refine dt (Zgh J J J)<|go 8 ⟨O,?_⟩;exact Yv (k+1) O1 O1 ⟨J,by rw [Qb 0 _ O,Ybh];exact aL some (Ycc O),aA⟩ aA
 .refine go 12 ?_;exact Xc c () results217 (by rw [cK O]) aA Za
theorem Zm6{e f:Int}{n:Bool}{s:ByteArray}:Zbp prog 282 #[.pointer (some ⟨bd,0,none⟩),.agg #[.bool n,.string s],.int .i64 f] [] false bd t #[.int .i64 e] (G:=Unit) (λ_=>True) (λ_=> .agg #[.bool n,.string s]) (λ_=>#[.int .i64 (if e=0 then f else e)]) (λ_=>[]):=by
 refine Gl func282 J ntmps282 J aA ?_;intro j i g c;have g:=Hw.mk g;simp only [Qd,Yr];refine go 2<|Ym (Yj 2) λb _=>Ym (Yd 3) λh _=>go 12<|Zc J (λd=>?_) (λd=>?_)
 .refine go 15 ?_;exact Gw (.inl J) c () (λa w hs=>Zcd hs results282 (Hu 3 J J isAgg144 Pe J)) J aA 1 J (by simp_all [Ip]) J J Za
 .refine go 9 ?_;exact Gw (.inl J) c () (λa w hs=>Zcd hs results282 (Hu 3 J J isAgg144 Pe J)) J aA 1 J (by simp_all [Ip]) J J Za
theorem d_mul_(bd:Nat)(e x y:Int)(h:bl x.natAbs<=65536)(i:bl y.natAbs<=65536):Zbp prog 218 #[.pointer (some ⟨bd,0,none⟩),wv x,wv y] [] false bd 303 #[.int .i64 e] (G:=Unit) (λ_=>True) (λ_=>wv (Bx (x*y))) (λ_=>#[.int .i64 (err e (x*y))]) (λ_=>[]):=by refine Gl func218 J ntmps218 J aA ?_;intro k j d c;have d:=Hw.mk d;simp only [Qd,Yr];refine go 2<|Ym (Yj 2) λb _=>Ym (Yj 3) λf _=>Ym (Yd 4) λg _=>go 3<|Qj (λx=>x=bd) [(0,0),(1,0),(2,0),(3,0),(4,0),(5,1),(6,0),(7,0),(8,1),(9,3)]<|go 5<|Xq (Zs 4 [] (Zn3 ‹_› ‹_›)) λ_ _=>go 2 ?_;refine Eh J (Xu 4 1 Zm6 J J J K3 call282 J O3 Zu J d.h J) λ_ _=>go 4 ?_;exact Gw (.inl J) c () (λa w hs=>Zcd hs results218 (Hu 4 J J isAgg144 Pe J)) J aA 1 J J J J Za
theorem Fc(c:bl x.natAbs<=65536)(d:bl y.natAbs<=65536)(a:bl (x*y).natAbs<=65536):Zbp prog 218 #[.pointer (some ⟨bd,0,none⟩),wv x,wv y] [] false bd 303 #[.int .i64 0] (G:=Unit) (λ_=>True) (λ_=>wv (x*y)) (λ_=>#[.int .i64 0]) (λ_=>[]):=by have h:=d_mul_ bd 0 x y c d;rw [Lr a,Zsk a]at h;exact h
theorem d_add_(bd:Nat)(e x y:Int)(h:bl x.natAbs<=65536)(i:bl y.natAbs<=65536):Zbp prog 219 #[.pointer (some ⟨bd,0,none⟩),wv x,wv y] [] false bd 303 #[.int .i64 e] (G:=Unit) (λ_=>True) (λ_=>wv (Bx (x+y))) (λ_=>#[.int .i64 (err e (x+y))]) (λ_=>[]):=by refine Gl func219 J ntmps219 J aA ?_;intro k j d c;have d:=Hw.mk d;simp only [Qd,Yr];refine go 2<|Ym (Yj 2) λb _=>Ym (Yj 3) λf _=>Ym (Yd 4) λg _=>go 3<|Qj (λx=>x=bd) [(0,0),(1,0),(2,0),(3,0),(4,0),(5,1),(6,0),(7,0),(8,1),(9,3)]<|go 5<|Xq (Zs 4 [] (Zn6 ‹_› ‹_›)) λ_ _=>go 2 ?_;refine Eh J (Xu 4 1 Zm6 J J J K3 call282 J O3 Zu J d.h J) λ_ _=>go 4 ?_;exact Gw (.inl J) c () (λa w hs=>Zcd hs results219 (Hu 4 J J isAgg144 Pe J)) J aA 1 J J J J Za
theorem Zja(c:bl x.natAbs<=65536)(d:bl y.natAbs<=65536)(a:bl (x+y).natAbs<=65536):Zbp prog 219 #[.pointer (some ⟨bd,0,none⟩),wv x,wv y] [] false bd 303 #[.int .i64 0] (G:=Unit) (λ_=>True) (λ_=>wv (x+y)) (λ_=>#[.int .i64 0]) (λ_=>[]):=by have h:=d_add_ bd 0 x y c d;rw [Lr a,Zsk a]at h;exact h
theorem d_sub_(bd:Nat)(e x y:Int)(h:bl x.natAbs<=65536)(i:bl y.natAbs<=65536):Zbp prog 370 #[.pointer (some ⟨bd,0,none⟩),wv x,wv y] [] false bd 303 #[.int .i64 e] (G:=Unit) (λ_=>True) (λ_=>wv (Bx (x-y))) (λ_=>#[.int .i64 (err e (x-y))]) (λ_=>[]):=by refine Gl func370 J ntmps370 J aA ?_;intro k j d c;have d:=Hw.mk d;simp only [Qd,Yr];refine go 2<|Ym (Yj 2) λb _=>Ym (Yj 3) λf _=>Ym (Yd 4) λg _=>go 3<|Qj (λx=>x=bd) [(0,0),(1,0),(2,0),(3,0),(4,0),(5,1),(6,0),(7,0),(8,1),(9,3)]<|go 5<|Xq (Zs 4 [] (Zyr ‹_› ‹_›)) λ_ _=>go 2 ?_;refine Eh J (Xu 4 1 Zm6 J J J K3 call282 J O3 Zu J d.h J) λ_ _=>go 4 ?_;exact Gw (.inl J) c () (λa w hs=>Zcd hs results370 (Hu 4 J J isAgg144 Pe J)) J aA 1 J J J J Za
theorem Zsn(c:bl x.natAbs<=65536)(d:bl y.natAbs<=65536)(a:bl (x-y).natAbs<=65536):Zbp prog 370 #[.pointer (some ⟨bd,0,none⟩),wv x,wv y] [] false bd 303 #[.int .i64 0] (G:=Unit) (λ_=>True) (λ_=>wv (x-y)) (λ_=>#[.int .i64 0]) (λ_=>[]):=by have h:=d_sub_ bd 0 x y c d;rw [Lr a,Zsk a]at h;exact h
theorem Ydu(hs:Sz 65536 xs):Cal prog 220 #[.pointer (some ⟨bd,0,none⟩),v] [Ke bd 303 #[.int .i64 0],Yg 2 wv v xs] true (G:=Unit) (λ_=>True) (λ_=> .tuple #[Ic v (tzl xs).length,.int .i64 0]) (λ_=>[Yg 2 wv (Ic v (tzl xs).length) (tzl xs)]):=by
 refine Zf func220 ntmps220 λf e d c=>go 17 ?_;refine Zc J (λa=>?_) (λa=>?_)
 .exfalso;simp_all
 .refine go 5 ?_;refine cl 3 [2] (Zbx ‹_›) λ_ _=>go 5 ?_;exact Na c () results220 J aA (Oz 3 Za)
theorem Pi(xs:List Int)(c:Int)(g:Vp xs)(m:bl c.natAbs<=65536)(h:∀i,bl (cf xs i*c).natAbs<=65536):Cal prog 145 #[v,wv c] [Yg 2 wv v xs] true (G:=Value) (λr=>True) (λr=> .tuple #[r,.int .i64 0]) (λr=>[Yg 2 wv r (Yf xs c)]):=by
 refine Zf func145 ntmps145 λp o e d=>?_;have f:=g.len;refine go 2<|Ym (Yj 2) λb _=>go 8 ?_;refine cl 2 [1] (Yz ‹_›) λ_ _=>go 3 ?_;refine It 2 [] (Mn ‹_›) λ_ _=>go 9<|Ym (Yd 3) λj _=>go 6 ?_;refine tt (Gt 4 _ 24 (enc:=wv) 0 J J J J Qo ti144 J pV.cells pV.pos J J J e.h J J) λv _=>go 12 ?_;refine lp (G:=Nat) [3,6,7,21,22] [0,1,2,3] (λk=>[(23,.int .i64 (k:Int))]) (λk=>[(4,Pt 2 144 wv v (fill xs.length k (λi=>cf xs i*c)))]) (λk=>k<=xs.length) (λk=>xs.length-k) 0 O1 K1 ⟨by rw [Di xs.length (λi=>cf xs i*c)];rfl,aA⟩ ?_;rintro k n;refine go 6<|Zc J (λa=>?_) (λa=>?_)
 .refine go 9 ⟨O2,O2,?_⟩;refine Ym (Yd 5) λl _=>go 9 ?_;refine tt (Xu 5 3 (Fc (g.sz.getD _) m (h _)) J J J K3 call218 J O3 Zu J e.h aA) (λ_ _=>?_);refine dt (Yh 4 k J J J J (Yc pV) Qo Pe J (by rw [Ql];omega))<|tt (Lk 4 (enc:=wv) J J J J J J pV J e.h O3 (by rw [Ql];omega)) (λ_ _=>?_);refine go 7 ⟨O,?_⟩;exact Yv (k+1) O1 O1 K1 ⟨by rw [<-Zbb O];rfl,aA⟩
 .refine go 6 ?_;obtain rfl:k=xs.length:=O;refine Zl (Xj 4 J J pV)<|Zl (Zfh 3 J J)<|go 2 ?_;refine cl 6 [3,4] (Ydu (by rw [Gh];exact Zei λi _=>h i)) λ_ _=>go 7 ?_;exact Na d _ results145 J aA (Oz 6 Za (by rw [Zxb]<;>rfl))
theorem Cm(e:Vp xs)(h:∀i,bl (cf xs (i+1)*((i:Int)+1)).natAbs<=65536):Cal prog 309 #[v] [Yg 2 wv v xs] true (G:=Value) (λr=>True) (λr=> .tuple #[r,.int .i64 0]) (λr=>[Yg 2 wv r (Ys xs)]):=by
 refine Zf func309 ntmps309 λo m f d=>?_;have g:=e.len;refine go 10 ?_;refine cl 1 [1] (Yz ‹_›) λ_ _=>go 14<|Zc J (λa=>?_) (λa=>?_)
 .refine go 8 ?_;exact Na d _ results309 J aA (Pj (Ya4 O) Za)
 .refine go 4<|Ym (Yd 2) λb _=>?_;refine go 7 ⟨O,?_⟩;refine tt (Gt 3 (xs.length-1) 24 (enc:=wv) 0 J J J J Qo ti144 J pV.cells pV.pos J J J f.h) λv _=>go 12 ?_;refine lp (G:=Nat) [0,4,5,18] [0,1,2] (λk=>[(19,.int .i64 (k:Int))]) (λk=>[(3,Pt 2 144 wv v (fill (xs.length-1) k (λi=>cf xs (i+1)*((i:Int)+1))))]) (λk=>k<=xs.length-1) (λk=>xs.length-1-k) 0 O1 K1 ⟨by rw [Di (xs.length-1) (λi=>cf xs (i+1)*((i:Int)+1))];rfl,aA⟩ ?_;rintro k l;have j:(fill (xs.length-1) k (λi=>cf xs (i+1)*((i:Int)+1))).length=xs.length-1:=Ql _ _ _;refine go 6<|Zc J (λc=>?_) (λc=>?_)
  .try rw [aV]at *
   refine go 10<|Qj (λx=>x=b) [(0,0),(1,0),(2,0),(3,0),(4,0),(5,0),(6,0),(7,0),(8,0),(9,1),(10,1),(11,0),(12,3)]<|go 5 ⟨O,?_⟩;refine Xp J J (st1 2 J (Yh 1 (k+1) J J J J Zh Qo Pe))<|go 3 ⟨O,O,?_⟩;refine Xq (Zs 3 [] (Zn _ (by first|assumption|exact⟨O,O⟩))) λ_ _=>?_;refine Eh J (Xu 3 2 (Fc (x:=cf xs (k+1)) (y:=((k:Int)+1)) (e.sz _) (aB (Mj (n:=32) O) O3) (h k)) J J J K3 call218 J O3 Zu J f.h J) (λ_ _=>?_);refine Xp J J (st1 2 J (Yh 3 k J J J J (Yc pV) Qo Pe J (by rw [Ql];omega)))<|r3' J (Lk 3 (enc:=wv) J J J J J J pV J f.h O3 (by rw [Ql];omega)) (λ_ _=>?_);refine go 7 ⟨O,?_⟩;exact Yv (k+1) O1 O1 K1 ⟨by rw [<-Zbb O];rfl,aA⟩
  .try rw [aV]at *
   refine go 6 ?_;obtain rfl:k=xs.length-1:=O;refine Zl (Xj 3 J J pV)<|Zl (Zfh 2 J J)<|go 2 ?_;refine cl 4 [2,3] (Ydu (by rw [Gh];exact Zei λi _=>h i)) λ_ _=>go 7 ?_;exact Na d _ results309 J aA (Oz 4 Za (by rw [Yg1 e.tr]<;>rfl))
theorem Zmc(j:Vp xs):Qp prog 356 #[v] [Yg 2 wv v xs] (.tuple #[wv (Xb xs),.int .i64 0]):=by
 refine Zf func356 ntmps356 λr q n i=>?_;have l:=j.len;have d:∀k,bl (Xb (xs.take k)).natAbs<=65536:=λk=>Zpe _ (j.sz.take k);refine go 2<|Ym (Yd 2) λb _=>go 7 ?_;refine cl 2 [1] (Yz ‹_›) λ_ _=>go 8<|Ym (Yd 3) λf _=>go 4<|Ym (Yd 4) λg _=>go 11 ?_;refine lp (G:=Nat) [2,4,5,12,13] [0,1,2] (λk=>[(14,.int .i64 (k:Int))]) (λk=>[(4,box g 144 #[.bool (decide (Xb (xs.take k)<0)),.string (Xn (Xb (xs.take k)).natAbs)]),(3,box f 303 #[.int .i64 0])]) (λk=>k<=xs.length) (λk=>xs.length-k) 0 O1 K1 K2 ?_;rintro k o;have e:=λh=>Lz (p:=xs) (k:=k) h;refine go 6<|Zc J (λc=>?_) (λc=>?_)
 .refine go 8 ⟨O2,O2,?_⟩;refine Ym (Yd 5) λm _=>go 7 ?_;refine cl 5 [] (Zn5 (Xb (xs.take k)) (xs.getD k 0) (d _) (j.sz.getD _)) λ_ _=>go 2 ?_;refine tt (Xu 5 3 Zm6 J J J K3 call282 J O3 Zu J n.h aA) (λ_ _=>?_);refine go 8 ⟨O,?_⟩;have a:=d (k+1);rw [e O]at a;exact Yv (k+1) O1 O1 K1 ⟨by rw [e O];simp only [Lr a];rfl,by simp only [Zmy a];rfl,aA⟩
 .refine go 6<|Oj [3,4] [5] ?_;refine Ya 0 [(0,0),(1,0),(2,0),(3,0),(4,1),(5,3)]<|go 7 ?_;refine Yu<|go 2 ?_;exact Na i () results356 (by rw [show k=xs.length by omega,bM]<;>rfl) aA Za
theorem Zj0{c:Int}(l:Sz 65536 xs)(j:xs.length<=1000)(q:bl c.natAbs<=65536)(s:∀i,c∣cf xs i)(f:xs≠[]->c≠0):Cal prog 357 #[v,wv c] [Yg 2 wv v xs] true (G:=Value) (λr=>True) (λr=> .tuple #[r,.int .i64 0]) (λr=>[Yg 2 wv r (xs.map (· / c))]):=by
 refine Zf func357 ntmps357 λB z m h=>go 2 ?_;refine Ym (Yj 2) λb _=>go 8 ?_;refine tt (Gt 3 _ 24 (enc:=wv) 0 J J J J Qo ti144 J pV.cells pV.pos J J J m.h J J) λv _=>go 12 ?_;refine lp (G:=Nat) [3,6,15,16] [0,1,2] (λk=>[(17,.int .i64 (k:Int))]) (λk=>[(3,Pt 2 144 wv v (fill xs.length k (λi=>cf xs i/c)))]) (λk=>k<=xs.length) (λk=>xs.length-k) 0 O1 K1 ⟨by rw [Di xs.length (λi=>cf xs i/c)];rfl,aA⟩ ?_;rintro k w;have g:Bx (xs.getD k 0/c)=cf xs k/c:=Lr (Ax (s k) (l k));refine go 6<|Zc J (λa=>?_) (λa=>?_)
 .refine go 9 ⟨O2,O2,?_⟩;refine Ym (Yd 4) λn _=>go 8 ?_;refine cl 4 [] (Dk (l.getD _) q (f (by intro e;rw [e]at a;simp at a;omega))) λ_ _=>go 4<|Ym (Yd 5) λo _=>Ym (Yd 6) λp _=>go 12<|Zc J (λd=>?_) (λd=>?_)
  .exfalso;simp_all
  .refine go 6 ?_;refine dt (Yh 3 k J J J J (Yc pV) Qo Pe J (by rw [Ql];omega))<|tt (Lk 3 (enc:=wv) J J J J J J pV J m.h O3 (by rw [Ql];omega)) (λ_ _=>?_);refine go 7 ⟨O,?_⟩;exact Yv (k+1) O1 O1 K1 ⟨by rw [<-Zbb O];simp only [g];rfl,aA⟩
 .refine go 13 ?_;obtain rfl:k=xs.length:=O;exact Na h _ results357 J aA (gow 3 Za (by rw [Gh,Ybj xs (· / c)]<;>rfl))
theorem Pp(c:Vp xs):Cal prog 304 #[v] [Yg 2 wv v xs] true (G:=Value) (λr=>True) (λr=> .tuple #[r,.int .i64 0]) (λr=>[Yg 2 wv r (Yi xs)]):=by
 refine Zf func304 ntmps304 λh g f d=>?_;have e:=c.len;refine go 9 ?_;refine cl 1 [1] (Zmc ‹_›) λ_ _=>go 3<|Ym (Yd 2) λb _=>go 11<|Zc J (λa=>?_) (λa=>?_)
 .exfalso;simp_all
 .refine go 6 ?_;refine cl 3 [1] (Zj0 c.sz O (Zpe _ c.sz) (Ma _) c.ne) λ_ _=>go 7 ?_;exact Na d _ results304 J aA (Oz 3 Za J)
theorem Zxe(n:Vp xs)(S:bl x.natAbs<=65536)(hy:bl y.natAbs<=65536)(a8:0<y):Qp prog 395 #[v,rX x y] [Yg 2 wv v xs] (.tuple #[wv (evv xs x y),.int .i64 (eve xs x y)]):=by
 refine Zf func395 ntmps395 λw0 sc p o=>?_;have c:=n.len;refine go 2<|Ym (Yj 2) λb _=>Ym (Yd 3) λZ _=>go 7 ?_;refine cl 3 [1] (Yz ‹_›) λ_ _=>go 3 ?_;refine It 3 [] (Ns ‹_› ‹_› ‹_›) λ_ _=>go 15<|Zc J (λj=>?_) (λj=>?_)
 .refine go 2 ?_;refine dt (Xv [] J aA (λa w hs=>Yev))<|go 6 ?_;exact Na o () results395 (by rw [aE (l:=xs) O];rfl) aA Za
 .have M:xs≠[]:=λe=>by rw [e]at j;simp at j
  have a6:=Pd n.sz;have g:Sz 65536 [x,y]:=Sz.of_mem (by intro z V;simp at V;rcases V with rfl|rfl<;>assumption);have I:=Pd g;have a7:(xs.length-1)*Qk [x,y]<=24*65536:=aT O I;have f:((xs.length:Int)-1)*(Qk [x,y]:Int)=(((xs.length-1)*Qk [x,y]:Nat):Int):=by rw [fP];congr 1;omega
  refine go 3 ?_;refine jn (G:=Unit) [0,3,4] [0,1,2,3] (λ_=>[(37,.bool (decide ((65536:Int)<(Qk xs:Int)+((xs.length:Int)-1)*(Qk [x,y]:Int)+8)))]) (λ_=>[]) (λ_=>True) ?_ ?_
  .refine Da (λ_=>False) []<|Ya 7 [(0,0),(2,0),(3,0),(4,0),(5,0),(6,0),(7,0),(8,0)]<|go 9 ⟨O,?_⟩;refine Ml 6 1 9 ?_ ?_
   .refine Hh (Zs 3 [1] (Od (by first|exact n.sz|exact g))) λ_ _=>?_;refine Ya 0 [(9,1),(10,1),(11,0),(12,0),(13,0),(14,0)]<|Eh J (Xm [(0,_),(1,_)] 90 (enc:=wv) [x,y] J J K4 Ztm ti144 J J J J J pV.cells J J p.h) λv _=>Xq (Zs 3 [90] (Od (by first|exact n.sz|exact g))) λ_ _=>?_;refine go 5 ⟨by rw [f];exact⟨O,O⟩,by rw [f];exact⟨O,O⟩,by rw [f];exact⟨O,O⟩,?_⟩;exact Yu<|Hd () aA K1 aA
   .refine Zaf J J (Xm [(0,_),(1,_)] 90 (enc:=wv) [x,y] J J K4 Ztm ti144 J J J J J pV.cells J J p.h) (λa9 _=>?_);refine Ya 0 [(1,1),(10,1),(11,0),(12,0),(13,0),(14,0)]<|Xq (Zs 3 [1] (Od (by first|exact n.sz|exact g))) λ_ _=>Xq (Zs 3 [90] (Od (by first|exact n.sz|exact g))) λ_ _=>?_;refine go 5 ⟨by rw [f];exact⟨O,O⟩,by rw [f];exact⟨O,O⟩,by rw [f];exact⟨O,O⟩,?_⟩;exact Yu<|Hd () aA K1 aA
  .rintro _ -;refine Zc J (λm=>?_) (λm=>?_)
   .have B:Mv xs x y:=⟨M,by rw [f]at m;omega⟩;refine go 2 ?_;refine dt (Xv [] J aA (λa w hs=>Yev))<|go 6 ?_;exact Na o () results395 (by unfold evv eve;rw [aF B,aF B]<;>rfl) aA Za
   .have i:Qk xs+(xs.length-1)*Qk [x,y]+8<=65536:=by rw [f]at m;omega
    refine go 4<|Ym (Yd 4) λH _=>go 2 ?_;refine jn (G:=Nat×Nat) [0,3,4,6] [0,1,2,3,4] (λq=>[(7,.pointer (some ⟨q.1,0,none⟩)),(8,.pointer (some ⟨q.2,0,none⟩))]) (λq=>[(97,box q.1 144 (wc (xs.getD (xs.length-1) 0))),(98,box q.2 144 (wc 1))]) (λq=>True) ?_ ?_
    .refine Da (λ_=>False) [9,10]<|Ya 5 [(0,0),(1,0),(2,0),(3,0),(4,0),(5,0)]<|go 4 ⟨O,?_⟩;refine Xp J J (Qv (Yh 1 (xs.length-1) J J J J Zh Qo Pe))<|go 2 ⟨O,?_⟩;refine Ye6 4 6 7 8 ?_ ?_ ?_
     .refine Hh (Zs 4 [] (Zn _ (by first|assumption|exact⟨O,O⟩))) λ_ _=>?_;refine Ml 3 7 8 ?_ ?_
      .refine Hh (Yd 97) λa0 _=>?_;refine Ya 0 [(8,1),(9,3),(10,3)]<|Xq (Yd 98) λa1 _=>go 3 ?_;exact Yu<|Hd (_,_) aA K2 K2
      .refine Hh (Yd 98) λa2 _=>?_;refine Ya 0 [(7,1),(9,3),(10,3)]<|Xq (Yd 97) λa3 _=>go 3 ?_;exact Yu<|Hd (_,_) aA K2 K2
     .refine Hh (Yd 97) λa4 _=>?_;refine Ml 3 6 8 ?_ ?_
      .refine Hh (Zs 4 [] (Zn _ (by first|assumption|exact⟨O,O⟩))) λ_ _=>?_;refine Ya 0 [(8,1),(9,3),(10,3)]<|Xq (Yd 98) λa5 _=>go 3 ?_;exact Yu<|Hd (_,_) aA K2 K2
      .refine Hh (Yd 98) λN _=>?_;refine Ya 0 [(6,1),(9,3),(10,3)]<|Xq (Zs 4 [] (Zn _ (by first|assumption|exact⟨O,O⟩))) λ_ _=>go 3 ?_;exact Yu<|Hd (_,_) aA K2 K2
     .refine Hh (Yd 98) λP _=>?_;refine Ml 3 6 7 ?_ ?_
      .refine Hh (Zs 4 [] (Zn _ (by first|assumption|exact⟨O,O⟩))) λ_ _=>?_;refine Ya 0 [(7,1),(9,3),(10,3)]<|Xq (Yd 97) λQ _=>go 3 ?_;exact Yu<|Hd (_,_) aA K2 K2
      .refine Hh (Yd 97) λR _=>?_;refine Ya 0 [(6,1),(9,3),(10,3)]<|Xq (Zs 4 [] (Zn _ (by first|assumption|exact⟨O,O⟩))) λ_ _=>go 3 ?_;exact Yu<|Hd (_,_) aA K2 K2
    .rintro⟨W,Y⟩ -;dsimp only;refine go 10 ⟨O,?_⟩;refine lp (G:=Nat) [0,3,4,6,7,8] [0,1,2,3,4] (λk=>[(9,.int .i64 ((k:Int)-1))]) (λk=>[(97,box W 144 (wc (Lj xs x y k))),(98,box Y 144 (wc (y^(xs.length-1-k))))]) (λk=>k<=xs.length-1) (λk=>k) (xs.length-1) O1 ⟨by rw [show((xs.length-1:Nat):Int)-1=(xs.length:Int)-2 by omega];rfl,aA⟩ ⟨by rw [Yh0 x y O];rfl,by rw [kY,cW];rfl,aA⟩ ?_;rintro k D;refine go 7<|Zc J (λr=>?_) (λr=>?_)
     .have d:y^(xs.length-1-k)*y=y^(xs.length-1-(k-1)):=Yax y O D;have F:Lj xs x y k*x+xs.getD (k-1) 0*y^(xs.length-1-(k-1))=Lj xs x y (k-1):=Zxy x y O D;refine go 9 ?_;refine tt (Xu 4 4 (Fc (Zm8 i) hy (by rw [d];exact Zm8 i)) J J J K3 call218 J O3 Zu J p.h aA) λ_ _=>go 3 ?_;refine Qj (λx=>x=H) [(0,0),(1,0),(2,0),(4,0),(5,0),(6,0),(7,0),(8,0),(3,1),(9,1),(10,1),(11,3)]<|go 5 ?_;refine Xp J J (st1 4 J (Yh 1 (k-1) J J J J Zh Qo Pe))<|go 2 ⟨O,?_⟩;refine Eh J (Xu 4 4 (Fc (by first|exact Zm9 i c _|exact n.sz.getD _) (by first|exact S|(rw [d];exact Zm8 i)) (by first|exact Zsj i c O D|(rw [d];exact Zm7 i))) J J J K3 call218 J O3 Zu J p.h J) (λ_ _=>?_);refine Eh J (Xu 4 4 (Fc (by first|exact Zm9 i c _|exact n.sz.getD _) (by first|exact S|(rw [d];exact Zm8 i)) (by first|exact Zsj i c O D|(rw [d];exact Zm7 i))) J J J K3 call218 J O3 Zu J p.h J) (λ_ _=>?_);refine Eh J (Xu 4 4 (Zja (Zsj i c O D) (by rw [d];exact Zm7 i) (by rw [d,F];exact Zm9 i c _)) J J J K3 call219 J O3 Zu J p.h J) (λ_ _=>?_);refine go 9 ⟨O,?_⟩;exact Yv (k-1) O1 O1 ⟨by rw [show((k-1:Nat):Int)-1=(k:Int)-1-1 by omega];rfl,aA⟩ ⟨by rw [d,F];rfl,by rw [d];rfl,aA⟩
     .refine go 14<|Zc J (λs=>?_) (λs=>?_)
      .exfalso;simp_all
      .refine go 10 ?_;obtain rfl:k=0:=O;have B:¬Mv xs x y:=λh=>by have:=h.2;omega
       exact Na o () results395 (by unfold evv eve;rw [aD B,aD B,<-Zp4]<;>rfl) aA Za
theorem Zpa(e:Vp xs)(g:bl x.natAbs<=65536)(h:bl y.natAbs<=65536)(d:0<y):Qp prog 367 #[v,rX x y] [Yg 2 wv v xs] (.tuple #[.int .i64 (evv xs x y).sign,.int .i64 (eve xs x y)]):=by refine Zf func367 ntmps367 λk j i c=>?_;have a:=e.len;refine go 2<|Ym (Yj 2) λb _=>go 8 ?_;refine cl 2 [1] (Zxe e g h d) λ_ _=>go 3<|Ym (Yd 3) λf _=>go 7 ?_;refine cl 3 [] (Kb (evv_bl a)) λ_ _=>go 6 ?_;exact Na c () results367 J aA Za
theorem Bv(hs:Sz 65536 xs):Zbp prog 220 #[.pointer (some ⟨bd,0,none⟩),v] [Yg 2 wv v xs] true bd 303 #[.int .i64 0] (G:=Unit) (λ_=>True) (λ_=> .tuple #[Ic v (tzl xs).length,.int .i64 0]) (λ_=>#[.int .i64 0]) (λ_=>[Yg 2 wv (Ic v (tzl xs).length) (tzl xs)]):=by
 refine Gl func220 J ntmps220 J K1 ?_;intro g f e d;have e:=Hw.mk e;simp only [Qd,Yr];refine go 17<|Zc J (λc=>?_) (λc=>?_)
 .exfalso;simp_all
 .refine go 5 ?_;refine cl 3 [2] (Zbx ‹_›) λ_ _=>go 5 ?_;exact Gw (.inl J) d () (λa w hs=>Zh9 hs results220 J J) J aA 1 J J J J (Ig 3 J J J Za)
theorem Zv1(h:xs.length*24<=140737488355328:=by omega):Yju prog 392 #[v] [Yg 2 wv v xs] (G:=Value) (λr=>True) (λr=>r) (λr=>Pt 2 144 wv r xs):=by
 refine Zv8 func392 J ntmps392 J K1 ?_;intro k j e f;have e:=Hw.mk e;simp only [Qd,Yr];refine Qf (f_nil (i:=1) J Zh) λd=>go 9 ?_;refine dt (Zvu J J J (i:=1) J Zh Qo)<|go 2 ?_;refine Pr J (λc=>?_) (λc=>?_)
 .refine go 7 ?_;obtain rfl:xs=[]:=d (by simpa using c);exact Zr (Nn 9 2 144 wv)<|Zlk (.inl J) (.slice none 0 0) (λa w hs=>Zcd hs results392 J) J aA J 9 J J J
 .refine go 4 ?_;refine tt (Zy6 2 (enc:=wv) J J J Qo pV J e.h) λv _=>go 1 ?_;refine tt (Lc 2 1 24 J J J J J J O3 J Zh Qo ti144 J pV J J J O8 O3 J e.h) λg _=>go 4 ?_;exact Zlk (.inl J) _ (λa w hs=>Zcd hs results392 J) J aA J 2 J (by rfl) J
theorem Zf9(d:Vp xs):Qp prog 386 #[v] [Yg 2 wv v xs] (.tuple #[.int .i64 ((xs.length:Int)-1),.int .i64 0]):=by refine Zf func386 ntmps386 λg f e a=>?_;have c:=d.len;refine go 10 ?_;refine cl 1 [1] (Yz ‹_›) λ_ _=>?_;refine go 16 ⟨O,?_⟩;exact Na a () results386 J aA Za
theorem Zkx(c:Vp xs):Qp prog 387 #[v] [Yg 2 wv v xs] (.tuple #[.int .i64 (Qk xs:Int),.int .i64 0]):=by refine Zf func387 ntmps387 λf e d a=>go 10 ?_;refine cl 1 [1] (Yz ‹_›) λ_ _=>go 9 ?_;refine cl 1 [1] (Od c.sz) λ_ _=>go 5 ?_;exact Na a () results387 J aA Za
theorem Zqw(n:Vp xs)(m:Vp ys)(o:∀i,bl (cf xs i+cf ys i).natAbs<=65536):Zbp prog 355 #[v,u,.pointer (some ⟨bd,0,none⟩),.func (.func 219) #[.pointer (some ⟨bd,0,none⟩)] #[]] [Yg 2 wv v xs,Yg 2 wv u ys] true bd 303 #[.int .i64 0] (G:=Value) (λr=>True) (λr=> .tuple #[r,.int .i64 0]) (λr=>#[.int .i64 0]) (λr=>[Yg 2 wv r (Za2 xs ys)]):=by
 refine Gl func355 J ntmps355 J K2 ?_;intro B z c j;have c:=Hw.mk c;simp only [Qd,Yr];have l:=n.len;have h:=m.len;refine go 10 ?_;refine cl 3 [2] (Yz ‹_›) λ_ _=>go 3 ?_;refine It 3 [3] (Yz ‹_›) λ_ _=>go 13 ?_;refine dt (Zgh J J J)<|tt (Gt 4 (max xs.length ys.length) 24 (enc:=wv) 0 J J J J Qo ti144 J pV.cells pV.pos J J J c.h) λv _=>go 12 ?_;refine lp (G:=Nat) [0,1,2,3,10,29] [0,1,2,3] (λk=>[(30,.int .i64 (k:Int))]) (λk=>[(4,Pt 2 144 wv v (fill (max xs.length ys.length) k (λi=>cf xs i+cf ys i)))]) (λk=>k<=max xs.length ys.length) (λk=>max xs.length ys.length-k) 0 O1 K1 ⟨by rw [Di (max xs.length ys.length) (λi=>cf xs i+cf ys i)];rfl,aA⟩ ?_;rintro k s;have q:(fill (max xs.length ys.length) k (λi=>cf xs i+cf ys i)).length=max xs.length ys.length:=Ql _ _ _;refine go 6<|Zc J (λd=>?_) (λd=>?_)
 .try rw [aV]at *
  refine go 12<|Ym (Yd 5) λb _=>Ym (Yd 6) λg _=>go 2 ?_;refine jn (G:=Unit) [0,1,2,3,10,11,12,13,29,30] [0,4,1,2,3,6] (λ_=>[]) (λ_=>[(5,box b 144 (wc (cf xs k)))]) (λ_=>True) ?_ ?_
  .refine go 8<|Zc J (λe=>?_) (λe=>?_)
   .refine go 7 ⟨O2,O2,?_⟩;exact Hd () aA aA ⟨by first|rfl|(rw [Yl (p:=xs) O];rfl),aA⟩
   .refine go 1 ?_;exact Hd () aA aA ⟨by first|rfl|(rw [Yl (p:=xs) O];rfl),aA⟩
  .rintro _ -;refine jn (G:=Unit) [0,1,2,3,10,11,12,13,29,30] [0,5,4,1,2,3] (λ_=>[]) (λ_=>[(6,box g 144 (wc (cf ys k)))]) (λ_=>True) ?_ ?_
   .refine go 8<|Zc J (λf=>?_) (λf=>?_)
    .refine go 7 ⟨O2,O2,?_⟩;exact Hd () aA aA ⟨by first|rfl|(rw [Yl (p:=ys) O];rfl),aA⟩
    .refine go 1 ?_;exact Hd () aA aA ⟨by first|rfl|(rw [Yl (p:=ys) O];rfl),aA⟩
   .rintro _ -;refine go 6 ?_;refine tt (Zod 6 1 [_] [_,_] (Zja (n.sz _) (m.sz _) (o _)) J J J J K2 call219 J O3 Zu J c.h aA) (λ_ _=>?_);refine dt (Yh 4 k J J J J (Yc pV) Qo Pe J (by rw [Ql];omega))<|tt (Lk 4 (enc:=wv) J J J J J J pV J c.h O3 (by rw [Ql];omega)) (λ_ _=>?_);refine go 7 ⟨O,?_⟩;exact Yv (k+1) O1 O1 K1 ⟨by rw [<-Zbb O];rfl,aA⟩
 .try rw [aV]at *
  refine go 6 ?_;obtain rfl:k=max xs.length ys.length:=O;refine Zl (Xj 4 J J pV)<|go 3 ?_;refine tt (Xu 7 1 (Bv (by rw [Gh];exact Zei λi _=>o i)) J J J K2 call220 J O3 (Zx 4 J J J Zu) J c.h aA) λ_ _=>go 7 ?_;exact Gw (.inl J) j _ (λa w hs=>Zh9 hs results355 J J) J aA 1 J J J J (Zi2 7 J J J (by rw [Gh]<;>rfl) Za)
theorem Zqv(n:Vp xs)(m:Vp ys)(o:∀i,bl (cf xs i-cf ys i).natAbs<=65536):Zbp prog 355 #[v,u,.pointer (some ⟨bd,0,none⟩),.func (.func 370) #[.pointer (some ⟨bd,0,none⟩)] #[]] [Yg 2 wv v xs,Yg 2 wv u ys] true bd 303 #[.int .i64 0] (G:=Value) (λr=>True) (λr=> .tuple #[r,.int .i64 0]) (λr=>#[.int .i64 0]) (λr=>[Yg 2 wv r (Aq xs ys)]):=by
 refine Gl func355 J ntmps355 J K2 ?_;intro B z c j;have c:=Hw.mk c;simp only [Qd,Yr];have l:=n.len;have h:=m.len;refine go 10 ?_;refine cl 3 [2] (Yz ‹_›) λ_ _=>go 3 ?_;refine It 3 [3] (Yz ‹_›) λ_ _=>go 13 ?_;refine dt (Zgh J J J)<|tt (Gt 4 (max xs.length ys.length) 24 (enc:=wv) 0 J J J J Qo ti144 J pV.cells pV.pos J J J c.h) λv _=>go 12 ?_;refine lp (G:=Nat) [0,1,2,3,10,29] [0,1,2,3] (λk=>[(30,.int .i64 (k:Int))]) (λk=>[(4,Pt 2 144 wv v (fill (max xs.length ys.length) k (λi=>cf xs i-cf ys i)))]) (λk=>k<=max xs.length ys.length) (λk=>max xs.length ys.length-k) 0 O1 K1 ⟨by rw [Di (max xs.length ys.length) (λi=>cf xs i-cf ys i)];rfl,aA⟩ ?_;rintro k s;have q:(fill (max xs.length ys.length) k (λi=>cf xs i-cf ys i)).length=max xs.length ys.length:=Ql _ _ _;refine go 6<|Zc J (λd=>?_) (λd=>?_)
 .try rw [aV]at *
  refine go 12<|Ym (Yd 5) λb _=>Ym (Yd 6) λg _=>go 2 ?_;refine jn (G:=Unit) [0,1,2,3,10,11,12,13,29,30] [0,4,1,2,3,6] (λ_=>[]) (λ_=>[(5,box b 144 (wc (cf xs k)))]) (λ_=>True) ?_ ?_
  .refine go 8<|Zc J (λe=>?_) (λe=>?_)
   .refine go 7 ⟨O2,O2,?_⟩;exact Hd () aA aA ⟨by first|rfl|(rw [Yl (p:=xs) O];rfl),aA⟩
   .refine go 1 ?_;exact Hd () aA aA ⟨by first|rfl|(rw [Yl (p:=xs) O];rfl),aA⟩
  .rintro _ -;refine jn (G:=Unit) [0,1,2,3,10,11,12,13,29,30] [0,5,4,1,2,3] (λ_=>[]) (λ_=>[(6,box g 144 (wc (cf ys k)))]) (λ_=>True) ?_ ?_
   .refine go 8<|Zc J (λf=>?_) (λf=>?_)
    .refine go 7 ⟨O2,O2,?_⟩;exact Hd () aA aA ⟨by first|rfl|(rw [Yl (p:=ys) O];rfl),aA⟩
    .refine go 1 ?_;exact Hd () aA aA ⟨by first|rfl|(rw [Yl (p:=ys) O];rfl),aA⟩
   .rintro _ -;refine go 6 ?_;refine tt (Zod 6 1 [_] [_,_] (Zsn (n.sz _) (m.sz _) (o _)) J J J J K2 call370 J O3 Zu J c.h aA) (λ_ _=>?_);refine dt (Yh 4 k J J J J (Yc pV) Qo Pe J (by rw [Ql];omega))<|tt (Lk 4 (enc:=wv) J J J J J J pV J c.h O3 (by rw [Ql];omega)) (λ_ _=>?_);refine go 7 ⟨O,?_⟩;exact Yv (k+1) O1 O1 K1 ⟨by rw [<-Zbb O];rfl,aA⟩
 .try rw [aV]at *
  refine go 6 ?_;obtain rfl:k=max xs.length ys.length:=O;refine Zl (Xj 4 J J pV)<|go 3 ?_;refine tt (Xu 7 1 (Bv (by rw [Gh];exact Zei λi _=>o i)) J J J K2 call220 J O3 (Zx 4 J J J Zu) J c.h aA) λ_ _=>go 7 ?_;exact Gw (.inl J) j _ (λa w hs=>Zh9 hs results355 J J) J aA 1 J J J J (Zi2 7 J J J (by rw [Gh]<;>rfl) Za)
theorem Zpc(xs ys:List Int)(e:Vp xs)(d:Vp ys)(f:∀i,bl (cf xs i+cf ys i).natAbs<=65536):Cal prog 303 #[v,u] [Yg 2 wv v xs,Yg 2 wv u ys] true (G:=Value) (λr=>True) (λr=> .tuple #[r,.int .i64 0]) (λr=>[Yg 2 wv r (Za2 xs ys)]):=by refine Zf func303 ntmps303 λh g c a=>go 8 ?_;refine Ym (Yd 3) λb _=>go 6 ?_;refine dt (d_mkf [_] J K1)<|tt (Xu 4 3 (Zqw ‹_› ‹_› ‹_›) J J J K4 call355 J O3 (Zx 1 J J J (Zx 2 J J J Zu)) J c.h aA) λ_ _=>go 7 ?_;exact Na a _ results303 J aA (Oz 4 Za)
theorem Zo9(xs ys:List Int)(e:Vp xs)(d:Vp ys)(f:∀i,bl (cf xs i-cf ys i).natAbs<=65536):Cal prog 317 #[v,u] [Yg 2 wv v xs,Yg 2 wv u ys] true (G:=Value) (λr=>True) (λr=> .tuple #[r,.int .i64 0]) (λr=>[Yg 2 wv r (Aq xs ys)]):=by refine Zf func317 ntmps317 λh g c a=>go 8 ?_;refine Ym (Yd 3) λb _=>go 6 ?_;refine dt (d_mkf [_] J K1)<|tt (Xu 4 3 (Zqv ‹_› ‹_› ‹_›) J J J K4 call355 J O3 (Zx 1 J J J (Zx 2 J J J Zu)) J c.h aA) λ_ _=>go 7 ?_;exact Na a _ results317 J aA (Oz 4 Za)
theorem Zie(xs ys:List Int)(B:Vp xs)(z:Vp ys)(M:¬Cn xs ys):Cal prog 302 #[v,u] [Yg 2 wv v xs,Yg 2 wv u ys] true (G:=Value) (λr=>True) (λr=> .tuple #[r,.int .i64 0]) (λr=>[Yg 2 wv r (Qc xs ys)]):=by
 refine Zf func302 ntmps302 λw0 sc D f=>?_;have N:=B.len;have I:=z.len;have V:=Pd B.sz;have W:=Pd z.sz;refine go 10 ?_;refine cl 2 [1] (Yz ‹_›) λ_ _=>go 3 ?_;refine It 2 [2] (Yz ‹_›) λ_ _=>go 14<|Yn 23 J (λF=>?_) (λF=>?_)
 .refine go 15 ?_;exact Na f _ results302 J aA (Pj (Zd8 (p:=xs) (q:=ys) (by first|(left;omega)|(right;omega))) Za)
 .refine go 6<|Zc J (λg=>?_) (λg=>?_)
  .refine go 8 ?_;exact Na f _ results302 J aA (Pj (Zd8 (p:=xs) (q:=ys) (by first|(left;omega)|(right;omega))) Za)
  .have c:xs≠[]:=by intro e;subst e;simp_all
   have d:ys≠[]:=by intro e;subst e;simp_all
   have R:0<xs.length:=aG.2 c;have S:0<ys.length:=aG.2 d;refine go 13 ⟨O,O,?_⟩;refine Yn 35 J (λH=>?_) (λH=>?_)
   .exfalso;exact M ⟨c,d,.inl O⟩
   .refine go 1 ?_;refine It 2 [1] (Od (by first|exact B.sz|exact z.sz)) λ_ _=>go 1 ?_;refine It 2 [2] (Od (by first|exact B.sz|exact z.sz)) λ_ _=>?_;refine go 6 ⟨O,O,?_⟩;refine Zc J (λk=>?_) (λk=>?_)
    .exfalso;exact M ⟨c,d,by first|(left;omega)|(right;omega)⟩
    .have Y:Qk xs+Qk ys+5<=65536:=O;have s:∀i j,bl (cf xs i*cf ys j).natAbs<=65536:=λi j=>by have:=Xg (cf xs i) (cf ys j);have:=Lf xs i;have:=Lf ys j;omega
     have n:∀i j t,i<25->bl (Ac xs ys i j t).natAbs<=65536:=λi j t hi=>by have:=Yjn (i:=i) (j:=j) (t:=t) (Lf xs) (Lf ys) O;omega
     have o:∀t,bl (acc xs ys xs.length t).natAbs<=65536:=λt=>by have:=bl_acc (i:=xs.length) (t:=t) (Lf xs) (Lf ys) O;omega
     have w:∀i j,i<25->bl (Ac xs ys i j (i+j)+cf xs i*cf ys j).natAbs<=65536:=λi j hi=>by rw [<-Zym];exact n i (j+1) _ hi
     refine go 4<|Ym (Yd 3) λb _=>?_;refine go 10 ⟨O,O,?_⟩;refine tt (Gt 4 (xs.length+ys.length-1) 24 (enc:=wv) 0 J J J J Qo ti144 J pV.cells pV.pos J J J D.h) λv _=>go 12 ?_;refine lp (G:=Nat) [1,6,7,51,52] [0,1,2,3] (λi=>[(53,.int .i64 (i:Int))]) (λi=>[(4,Pt 2 144 wv v (mk (xs.length+ys.length-1) (acc xs ys i)))]) (λi=>i<=xs.length) (λi=>xs.length-i) 0 O1 K1 ⟨by rw [Zry];rfl,aA⟩ ?_;rintro i hi;refine go 6<|Zc J (λl=>?_) (λl=>?_)
     .refine go 9 ⟨O2,O2,?_⟩;refine Ym (Yd 5) λP _=>go 12 ?_;refine lp (G:=Nat) [1,6,7,8,9,51,52,53,58,59] [0,1,2,3,5] (λj=>[(60,.int .i64 (j:Int))]) (λj=>[(4,Pt 2 144 wv v (mk (xs.length+ys.length-1) (Ac xs ys i j)))]) (λj=>j<=ys.length) (λj=>ys.length-j) 0 O1 K1 ⟨by rw [Zyl];rfl,aA⟩ ?_;rintro j Z;have a:i+j<xs.length+ys.length-1->(mk (xs.length+ys.length-1) (Ac xs ys i j)).getD (i+j) 0=Ac xs ys i j (i+j):=λh=>Zb8 h;refine go 6<|Zc J (λm=>?_) (λm=>?_)
      .refine go 9 ⟨O2,O2,?_⟩;refine Ym (Yd 6) λQ _=>go 4<|Qj (λx=>x=b) [(0,0),(1,0),(2,0),(3,0),(4,0),(5,0),(6,0),(7,0),(8,0),(9,0),(10,0),(11,0),(12,1),(13,1),(14,0),(15,3)]<|go 8 ⟨O,O,?_⟩;refine Xp J J (st1 3 J (Yh 4 (i+j) J J J J (Yc pV) Qo Pe O (by rw [Yo];omega)))<|go 3 ⟨by rw [Yo];omega,?_⟩;refine Eh J (Xu 6 3 (Fc (B.sz _) (z.sz _) (s i j)) J J J K3 call218 J O3 Zu J D.h J) (λ_ _=>?_);refine Eh J (Xu 6 3 (Zja (by rw [a O];exact n i j _ O) (s i j) (by rw [a O];exact w i j O)) J J J K3 call219 J O3 Zu J D.h J) (λ_ _=>?_);refine Xp J J (st1 3 J (Yh 4 (i+j) J J J J (Yc pV) Qo Pe O (by rw [Yo];omega)))<|r3' J (Lk 4 (enc:=wv) J J J J J J pV J D.h O3 (by rw [Yo];omega)) (λ_ _=>?_);refine go 7 ⟨O,?_⟩;exact Yv (j+1) O1 O1 K1 ⟨by rw [<-Ye2 O,<-a O];rfl,aA⟩
      .refine go 10 ⟨O,?_⟩;obtain rfl:j=ys.length:=O;exact Yv (i+1) O1 O1 K1 ⟨by rw [<-Ye3];rfl,aA⟩
     .refine go 6 ?_;obtain rfl:i=xs.length:=O;refine Zl (Xj 4 J J pV)<|go 2 ?_;refine tt (Xu 7 3 (Bv (Zei λt _=>o t)) J J J K2 call220 J O3 (Zx 4 J J J Zu) J D.h aA) λ_ _=>go 7 ?_;exact Na f _ results302 J aA (Oz 7 Za (by rw [Yaz]<;>rfl))
end Go.Sky

