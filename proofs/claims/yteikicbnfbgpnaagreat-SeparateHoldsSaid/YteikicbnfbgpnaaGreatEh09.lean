/- Rules, arithmetic and contracts: part 10. No conditions but those that each theorem names. -/
import Derived.Test.YteikicbnfbgpnaaGreatEh08
set_option linter.all false
set_option maxHeartbeats 4000000
namespace Go.Sky
open Go.Proofs.Tryz
open Go.Proofs
set_option synthInstance.maxHeartbeats 0
set_option synthInstance.maxSize 100000
set_option maxRecDepth 20000
set_option linter.unusedSimpArgs false
variable{b:Bool}{x y:Int}{t:TypeId}{v u:Value}{xs ys:List Int}{bd:Nat}
theorem Za2{s:ByteArray}:Xy prog 178 #[.agg #[.bool b,.string s]] [] (.bool (okW b s)):=by
 refine Zg func178 ntmps178 λg f e c=>go 2 ?_;refine Yk (Ym 1) λb _=>go 8 ?_;refine dt (Zxh J J J J)<|go 2 ?_;refine Zc J (λa=>?_) (λa=>?_)
 .refine go 10 ?_;exact Xn c () results178 (by unfold okW;rw [aK a]) aA Za
 .refine go 6 ?_;refine dt (Yj2 (i:=0) J J J uT9 J)<|go 2 ?_;refine Xf 13 J (λd=>?_) (λd=>?_)
  .refine go 9 ?_;exact Xn c () results178 (by unfold okW;rw [aH a];simp_all<;>omega) aA Za
  .refine go 9 ?_;exact Xn c () results178 (by unfold okW;rw [aH a];simp_all<;>omega) aA Za
def Lz(a:bl x.natAbs<=65536):Cal prog 178 #[wv x] [] false (G:=Unit) (λ_=>True) (λ_=> .bool true) (λ_=>[]):=Zcd a▸Za2
theorem Zmz(b:Bool)(s:ByteArray)(c:Bool)(t:ByteArray):Xy prog 228 #[.agg #[.bool b,.string s],.agg #[.bool c,.string t]] [] (.bool (okW b s && okW c t)):=by
 refine Zg func228 ntmps228 λh g f a=>go 2 ?_;refine Yk (Ym 1) λb _=>Yk (Ym 2) λe _=>go 6 ?_;refine cl 2 [] Za2 λ_ _=>go 1 ?_;refine Zga 7 J (λd=>?_) (λd=>?_)
 .refine go 1 ?_;refine Kf 2 [] Za2 λ_ _=>go 5 ?_;exact Xn a () results228 (by simp_all) aA Za
 .refine go 7 ?_;exact Xn a () results228 (by simp_all) aA Za
theorem Ig(a:bl x.natAbs<=65536)(c:bl y.natAbs<=65536):Xy prog 228 #[wv x,wv y] [] (.bool true):=by have h:=Zmz (decide (x<0)) (Qe x.natAbs) (decide (y<0)) (Qe y.natAbs);rw [Zcd a,Zcd c]at h;exact h
theorem Iu(e:bl x.natAbs<=65536):Xy prog 237 #[wv x] [] (.int .i64 x.sign):=by refine Zg func237 ntmps237 λh f d a=>go 2 ?_;refine Yk (Ym 1) λb _=>go 7 ?_;refine cl 1 [] (Lz ‹_›) λ_ _=>go 9 ?_;refine cl 2 [] (Ol (Qg _)) λg c=>cl 2 [2] (Zk2 ‹_›) λ_ _=>go 4 ?_;exact Xn a () results237 J aA Za
theorem Zjx(d:bl x.natAbs<=65536):Xy prog 240 #[wv x] [] (.int .i64 (bl x.natAbs:Int)):=by refine Zg func240 ntmps240 λf e c a=>go 2 ?_;refine Yk (Ym 1) λb _=>go 7 ?_;refine cl 1 [] (Lz ‹_›) λ_ _=>go 10 ?_;refine cl 2 [] Zc3 λv _=>cl 2 [2] Zk4 λ_ _=>go 4 ?_;exact Xn a () results240 J aA Za
theorem Zr2(m:bl x.natAbs<=65536)(n:bl y.natAbs<=65536):Xy prog 180 #[wv x,wv y] [] (Zb1 (x+y)):=by refine Zg func180 ntmps180 λp o l a=>?_;have j:=Lx x y;refine go 2 ?_;refine Yk (Ym 1) λb _=>Yk (Ym 2) λe _=>Yk (Zw 3) λf _=>go 8 ?_;refine cl 3 [] (Ig ‹_› ‹_›) λ_ _=>go 7 ?_;refine Xu (λ_=>False) [(0,0),(2,0),(1,1),(3,1),(4,1),(5,1),(6,0),(7,0),(8,3),(9,3)]<|go 2 ?_;refine Xe (Zj 4 [] (Ol (Qg _))) λg k=>Xe (Zj 5 [] (Ol (Qg _))) λh c=>Xe (Zj 6 [4,5] (Zf3 ‹_› ‹_›)) λi d=>Xe (Zj 6 [6] (Hg ‹_›)) λ_ _=>go 7 ?_;exact Ma a () results180 J aA Za
theorem Yei(p:bl x.natAbs<=65536)(q:bl y.natAbs<=65536):Xy prog 239 #[wv x,wv y] [] (Zb1 (x-y)):=by refine Zg func239 ntmps239 λs r o a=>?_;have m:=Cr x y;have l:=Zrn y;refine go 2 ?_;refine Yk (Ym 1) λb _=>Yk (Ym 2) λf _=>Yk (Zw 3) λh _=>go 8 ?_;refine cl 3 [] (Ig ‹_› ‹_›) λ_ _=>go 7 ?_;refine Xu (λ_=>False) [(0,0),(2,0),(1,1),(3,1),(4,1),(5,1),(6,1),(7,0),(8,0),(9,3),(10,3)]<|go 2 ?_;refine Xe (Zj 4 [] (Ol (Qg _))) λg n=>Xe (Zj 5 [] (Ol (Qg _))) λi c=>Xe (Zj 6 [5] (Zpr ‹_›)) λj d=>Xe (Zj 7 [4,6] (Zf3 ‹_› ‹_›)) λk e=>Xe (Zj 7 [7] (Hg ‹_› (by rw [<-fK];omega))) λ_ _=>go 7 ?_;exact Ma a () results239 (by rw [fK]<;>rfl) aA Za
theorem Zrz(m:bl x.natAbs<=65536)(n:bl y.natAbs<=65536):Xy prog 234 #[wv x,wv y] [] (Zb1 (x*y)):=by refine Zg func234 ntmps234 λp o l a=>?_;have j:=Ya x y;refine go 2 ?_;refine Yk (Ym 1) λb _=>Yk (Ym 2) λe _=>Yk (Zw 3) λf _=>go 8 ?_;refine cl 3 [] (Ig ‹_› ‹_›) λ_ _=>go 7 ?_;refine Xu (λ_=>False) [(0,0),(2,0),(1,1),(3,1),(4,1),(5,1),(6,0),(7,0),(8,3),(9,3)]<|go 2 ?_;refine Xe (Zj 4 [] (Ol (Qg _))) λg k=>Xe (Zj 5 [] (Ol (Qg _))) λh c=>Xe (Zj 6 [4,5] (Zdc ‹_› ‹_›)) λi d=>Xe (Zj 6 [6] (Hg ‹_›)) λ_ _=>go 7 ?_;exact Ma a () results234 J aA Za
theorem Zr1(x y:Int)(j:bl x.natAbs<=65536)(k:bl y.natAbs<=65536):Xy prog 188 #[wv x,wv y] [] (Zb1 (Int.gcd x y:Int)):=by refine Zg func188 ntmps188 λm l i c=>?_;have h:=Zmd x.natAbs y.natAbs;refine go 2 ?_;refine Yk (Ym 1) λb _=>Yk (Ym 2) λd _=>Yk (Zw 3) λe _=>go 8 ?_;refine cl 3 [] (Ig ‹_› ‹_›) λ_ _=>go 7 ?_;refine Xu (λ_=>False) [(0,0),(1,0),(3,0),(4,0),(2,1),(5,1),(6,1),(7,0),(8,1),(9,0),(10,0),(11,3),(12,3)]<|go 4 ?_;refine Xe (Zj 4 [] Zc3) λv _=>Xe (Zj 5 [] Zc3) λf _=>Xe (Zj 6 [4,5] Zpx) λg _=>?_;refine Xg J J (Xd (Qa [(0,_),(1,_)] J K4 (λa w hs=>Kn ((Yi J) a w hs) ((Ob 6 J Zl) a w hs))))<|Xe (Zj 6 [6] (Hg (s:=false) (x:=(Int.gcd x y:Int)) (by simp [sg]) (by show bl (Nat.gcd x.natAbs y.natAbs)<=_;omega))) λ_ _=>go 7 ?_;exact Ma c () results188 J aA Za
theorem Cy(H:bl x.natAbs<=65536)(I:bl y.natAbs<=65536)(c:y≠0):Xy prog 179 #[wv x,wv y] [] (.tuple #[wv (Zat (x/y)),wv (Zat (x%y)),.int .i64 0]):=by
 refine Zg func179 ntmps179 λQ P w d=>?_;have D:=Zjv x y;have o:=Ybt x y c;refine go 2 ?_;refine Yk (Ym 1) λb _=>Yk (Ym 2) λh _=>Yk (Zw 3) λi _=>Yk (Zw 4) λj _=>go 8 ?_;refine cl 4 [] (Ig ‹_› ‹_›) λ_ _=>go 11 ?_;refine dt (Zxh J J J J)<|go 2 ?_;refine Zc J (λa=>?_) (λa=>?_)
 .rw [Db]at a;exfalso;exact c (by have:=(Pv (by omega:2<=256) y.natAbs).1 a;omega)
 .refine go 2 ?_;refine jn (G:=Bool×Value×Value×Nat×Nat) [4,5] [0,1,2,3,4] (λq=>[(7,.pointer (some ⟨q.2.2.2.1,0,none⟩)),(8,.pointer (some ⟨q.2.2.2.2,0,none⟩))]) (λq=>[(84,Ek q.2.1 (x/y).natAbs),(85,Ek q.2.2.1 (x%y).natAbs),(86,box q.2.2.2.1 219 #[.bool q.1,q.2.1]),(87,box q.2.2.2.2 219 #[.bool false,q.2.2.1])]) (λq=>sg q.1 (x/y)) ?_ ?_
  .refine Lb [1,2] [11]<|Zt 10 [(0,0),(2,0)]<|go 3 ?_
   repeat' first|refine bq 1 ?_;refine Lh (Zj 81 [] (Ol (Qg _))) λg F=>?_|refine bq 3 ?_;refine Lh (Zj 82 [] (Ol (Qg _))) λm e=>?_|refine bq 4 ?_;refine Lh (Zj 84 [81,82] (Zf2 _ _ ‹_› ‹_› O1 c)) λn f=>?_|refine bq 8 ?_;refine Lh (Lq 86) λk p=>?_|refine bq 9 ?_;refine Lh (Lq 87) λl r=>?_|refine bq 10 ?_;refine Ce rfl rfl (t_stw 86 rfl rfl rfl rfl rfl rfl sizeOf219 rfl rfl ⟨Yi rfl,Ob 84 rfl Zl,aA⟩ rfl w.h p.h) (λ_ _=>?_)|refine Zx6 1 8 9 O6 ?_ ?_ ?_|refine Br 1 8 O6 ?_ ?_|refine Bw 1 O6 ?_|refine Bw 3 O6 ?_|refine Bw 4 O6 ?_|refine Bw 10 O6 ?_|refine Br 3 8 O6 ?_ ?_|refine Br 4 8 O6 ?_ ?_|refine Bw 8 O6 ?_|refine Br 1 9 O6 ?_ ?_|refine Br 3 9 O6 ?_ ?_|refine Br 4 9 O6 ?_ ?_|refine Bw 9 O6 ?_|refine Zx6 3 8 9 O6 ?_ ?_ ?_|refine Zx6 4 8 9 O6 ?_ ?_ ?_|refine Br 8 9 O6 ?_ ?_|refine Zbx 5 0 O6 ?_;refine go 2 ?_|refine Zbx 6 0 O6 ?_;refine go 2 ?_|refine Zbx 7 0 O6 ?_;refine go 2 ?_|refine Zbx 11 3 O6 ?_;refine go 2 ?_|refine Yl ?_ O6;exact Nb (_,_,_,_,_) ‹_› ⟨rfl,rfl,aA⟩ ⟨rfl,rfl,rfl,rfl,aA⟩
  .rintro⟨M,qv,N,z,B⟩ s;dsimp only at s;dsimp only;refine go 3 ?_;refine cl 4 [84] (Hg ‹_›) λ_ _=>go 9 ?_;refine cl 4 [85] (Hg (Ymq x c)) λ_ _=>go 7 ?_;refine Lb [4] [3,4]<|Zt 0 [(1,0),(0,1),(2,1),(3,3),(4,3)]<|go 6 ?_;refine Yl<|go 2 ?_;exact xe3 d () results179 J aA Za
theorem Zb0{s t:Bool}{w:Value}(hs:sg s x)(m:sg t y)(k:y≠0)(Y:bl x.natAbs<=1000000000:=by omega)(Z:bl y.natAbs<=1000000000:=by omega):Xy prog 165 #[.agg #[.bool s,v],.agg #[.bool t,w]] [Ek v x.natAbs,Ek w y.natAbs] (Za8 x y):=by
 refine Zg func165 ntmps165 λw0 sc W c=>?_;have S:=Zmd x.natAbs y.natAbs;have e:Xs x y≠0:=Zz8 k;have h:sg t (Xs x y):=Ymo m k;have f:=Zam x y;have P:=Zjv x (Xs x y);have Q:=Zjv y (Xs x y);refine go 2 ?_;refine Yk (Ym 3) λb _=>Yk (Ym 4) λq _=>Yk (Zw 5) λr _=>go 4 ?_;refine Lv (λ_=>False) [9]<|Zt 4 [(0,0),(1,0),(2,0),(3,0),(4,0),(5,0)]<|go 7 ?_;refine Na 3 6 8 ?_ ?_
 .refine Lh (Zj 81 [1,2] Zpx) λv _=>?_;refine Zt 0 [(7,0),(8,1),(9,3)]<|Xg J J (Xd (Qa [(0,_),(1,_)] J K4 (λa w hs=>Kn ((Yi J) a w hs) ((Ob 81 J Zl) a w hs))))<|Xe (Zw 82) λz _=>go 2 ?_;refine Yl<|go 2 ?_;refine Zh (On 81 (Zz7 x y) J J)<|go 3 ?_;refine cl 6 [1,81] (Zf2 x (Xs x y) hs h (by rw [f];omega) e) λg V=>go 10 ?_;refine cl 8 [2,81] (Zf2 y (Xs x y) m h (by rw [f];omega) e) λI n=>go 9 ?_;refine cl 9 [6] (Hg ‹_›) λ_ _=>go 3 ?_;refine Yk (Zw 10) λB _=>go 7 ?_;refine cl 10 [8] (Hg ‹_›) λ_ _=>go 3 ?_;refine Yk (Zw 11) λD _=>go 10 ?_;refine Xf 43 J (λl=>?_) (λl=>?_)
  .refine go 8 ?_;refine dt (Qa [] J aA (λa w hs=>Yd7))<|go 6 ?_;exact Ma c () results165 (Za7 (by unfold Kq;first|exact .inl (Al ‹_›)|exact .inr (Al ‹_›))) aA Za
  .refine go 5 ?_;refine Zc J (λj=>?_) (λj=>?_)
   .refine go 2 ?_;refine dt (Qa [] J aA (λa w hs=>Yd7))<|go 6 ?_;exact Ma c () results165 (Za7 (by unfold Kq;first|exact .inl (Al ‹_›)|exact .inr (Al ‹_›))) aA Za
   .refine go 6 ?_;refine dt (Qa [(0,_),(1,_)] J K4 (λa w hs=>Zmg))<|go 5 ?_;exact Ma c () results165 (Zs3 (cN ‹_›) (cN ‹_›)) aA Za
 .refine Lh (Zw 82) λF _=>?_;refine Zt 0 [(6,1),(7,0),(9,3)]<|Xe (Zj 81 [1,2] Zpx) λR _=>?_;refine Xg J J (Xd (Qa [(0,_),(1,_)] J K4 (λa w hs=>Kn ((Yi J) a w hs) ((Ob 81 J Zl) a w hs))))<|go 2 ?_;refine Yl<|go 2 ?_;refine Zh (On 81 (Zz7 x y) J J)<|go 3 ?_;refine cl 12 [1,81] (Zf2 x (Xs x y) hs h (by rw [f];omega) e) λM o=>go 10 ?_;refine cl 14 [2,81] (Zf2 y (Xs x y) m h (by rw [f];omega) e) λN p=>go 9 ?_;refine cl 15 [12] (Hg ‹_›) λ_ _=>go 3 ?_;refine Yk (Zw 16) λG _=>go 7 ?_;refine cl 16 [14] (Hg ‹_›) λ_ _=>go 3 ?_;refine Yk (Zw 17) λH _=>go 10 ?_;refine Xf 43 J (λi=>?_) (λi=>?_)
  .refine go 8 ?_;refine dt (Qa [] J aA (λa w hs=>Yd7))<|go 6 ?_;exact Ma c () results165 (Za7 (by unfold Kq;first|exact .inl (Al ‹_›)|exact .inr (Al ‹_›))) aA Za
  .refine go 5 ?_;refine Zc J (λd=>?_) (λd=>?_)
   .refine go 2 ?_;refine dt (Qa [] J aA (λa w hs=>Yd7))<|go 6 ?_;exact Ma c () results165 (Za7 (by unfold Kq;first|exact .inl (Al ‹_›)|exact .inr (Al ‹_›))) aA Za
   .refine go 6 ?_;refine dt (Qa [(0,_),(1,_)] J K4 (λa w hs=>Zmg))<|go 5 ?_;exact Ma c () results165 (Zs3 (cN ‹_›) (cN ‹_›)) aA Za
theorem Zd7(l:bl x.natAbs<=65536)(m:bl y.natAbs<=65536)(c:y≠0:=by omega):Xy prog 221 #[wv x,wv y] [] (Za8 x y):=by
 refine Zg func221 ntmps221 λo n k d=>go 2 ?_;refine Yk (Ym 1) λb _=>Yk (Ym 2) λf _=>Yk (Zw 3) λh _=>go 8 ?_;refine cl 3 [] (Ig ‹_› ‹_›) λ_ _=>go 11 ?_;refine dt (Zxh J J J J)<|go 2 ?_;refine Zc J (λa=>?_) (λa=>?_)
 .rw [Db]at a;exfalso;exact c (by have:=(Pv (by omega:2<=256) y.natAbs).1 a;omega)
 .refine go 3 ?_;refine Xu (λ_=>False) [(0,0),(2,0),(1,1),(3,1),(4,1),(5,0),(6,0),(7,3),(8,3)]<|go 2 ?_;refine Xe (Zj 4 [] (Ol (Qg _))) λg j=>Xe (Zj 5 [] (Ol (Qg _))) λi e=>Xe (Zj 5 [4,5] (Zb0 ‹_› ‹_› c)) λ_ _=>go 7 ?_;exact Ma d () results221 J aA Za
theorem Zin{s:ByteArray}{c:Bool}{t:ByteArray}:Xy prog 216 #[.agg #[.bool b,.string s,.bool c,.string t]] [] (.bool (okR b s c t)):=by
 refine Zg func216 ntmps216 λl k j g=>go 2 ?_;refine Yk (Ym 1) λb _=>go 9 ?_;refine cl 1 [] (Zmz _ _ _ _) λ_ _=>go 1 ?_;refine Zga 8 J (λh=>?_) (λh=>?_)
 .have i:okW c t=true:=by simp_all
  have d:=Zpo i;obtain⟨a,e,f⟩:=kY d;generalize Classical.choose d=z at a e f ⊢;subst e;subst f
  try clear d
  refine go 2 ?_;refine Kf 1 [] (Iu (x:=z) a) λ_ _=>go 6 ?_;exact Xn g () results216 (by first|rw [Ztj (by simp_all) a]|(unfold okR;simp_all)) aA Za
 .refine go 9 ?_;exact Xn g () results216 (by first|rw [Ztj (by simp_all) a]|(unfold okR;simp_all)) aA Za
def Li(c:bl x.natAbs<=65536)(d:bl y.natAbs<=65536)(a:0<y):Cal prog 216 #[rX x y] [] false (G:=Unit) (λ_=>True) (λ_=> .bool true) (λ_=>[]):=okR_wv c d a▸Zin
theorem Zs(x:Int)(f:Oc x:=by exact⟨O1,O1⟩):Xy prog 131 #[.int .i64 x] [] (wv x):=by
 refine Zg func131 ntmps131 λm l h e=>?_;have i:=f.1;have j:=f.2;have d:x.natAbs<U:=by simp only [U];omega
 have k:bl x.natAbs<=64:=(Qi 64 _).2 (by rw [<-Yli];exact d);refine go 2 ?_;refine Yk (Zw 1) λb _=>go 5 ?_;refine dt (Yo4 (r:=x%18446744073709551616) J J uT3 Zab J)<|go 3 ?_;refine jn (G:=Unit) [0,2] [0,1] (λ_=>[(3,.int .u64 ((x.natAbs:Nat):Int))]) (λ_=>[]) (λ_=>True) ?_ ?_
 .refine go 6 ?_;refine Zc J (λc=>?_) (λc=>?_)
  .refine go 2 ?_;refine dt (Yer x.natAbs J J O1)<|go 2 ?_;exact Nb () aA ⟨by first|rfl|(rw [show x%18446744073709551616=((x.natAbs:Nat):Int) by omega];rfl),aA⟩ aA
  .refine go 1 ?_;exact Nb () aA ⟨by first|rfl|(rw [show x%18446744073709551616=((x.natAbs:Nat):Int) by omega];rfl),aA⟩ aA
 .rintro _ -;refine go 5 ?_;refine tt (Qs [(0,_)] 2 (enc:=Mj) [x.natAbs] J J K2 Ps ti232 J J J J J pU.cells J J h.h) λv _=>cl 2 [2] Py λ_ _=>?_;refine Xh (Zbz 2 J J pU)<|Xh (Zh6 2 (Zgy d) J J)<|dt (Qa [(0,_),(1,_)] J K4 (λa w hs=>Kn ((Yi J) a w hs) ((Ob 2 J (Zy pU)) a w hs)))<|cl 2 [2] (Hg (x:=x) (Qg _)) λ_ _=>go 3 ?_;refine Yk (Zw 3) λg _=>go 11 ?_;exact Xn e () results131 (by rw [Ik O1]<;>rfl) aA Za
theorem Zc9(hs:Sz 65536 xs):Cal prog 189 #[v] [Yw 2 wv v xs] true (G:=Unit) (λ_=>True) (λ_=>Kb v (tzl xs).length) (λ_=>[Yw 2 wv (Kb v (tzl xs).length) (tzl xs)]):=by
 refine Zg func189 ntmps189 λp o n d=>?_;refine Of (Zw6 (i:=1) J Zl) (λa=>?_);refine Of (Ir (i:=1) J Zl) λm=>go 7 ?_;refine lp (G:=Nat) [] [0] (λk=>[(0,Kb v k)]) (λk=>[(1,Yw 2 wv (Kb v k) (xs.take k))]) (λk=>(k<=xs.length)/\(tzl (xs.take k)=tzl xs)) (λk=>k) xs.length ⟨aI _,by rw [bO]⟩ ⟨by rw [a];rfl,aA⟩ ⟨by rw [a,bO];rfl,aA⟩ ?_;rintro k ⟨h,j⟩;have f:(xs.take k).length=k:=by rw [aR];omega
 refine go 7 ?_;refine Xf 6 J (λl=>?_) (λl=>?_)
 .refine go 4 ⟨O1,?_⟩;refine Kl (Zq 1 (k-1) J J J J Zl Mc Lm) J J<|go 1 ⟨O1,?_⟩;refine Kf 1 [] (Iu ((hs.take _).getD _)) λ_ _=>go 4 ?_;refine Zc J (λg=>?_) (λg=>?_)
  .have c:=Zr8 h O1 (Zj8 k O1 (fQ.1 ‹_›):cf xs (k-1)=0);refine go 8 ⟨O1,?_⟩;refine dt (Ya5 1 (k-1) J J J J Zl Mc Lm)<|go 3 ?_;exact Zv (Yga 1 1 (k-1) J J)<|Yu (k-1) ⟨O2,by rw [<-j,<-c]⟩ O2 ⟨by rw [<-Fe v k (k-1)];rfl,aA⟩ ⟨by rw [Fe,jB,dM O1];rfl,aA⟩
  .refine go 12 ?_;have e:tzl xs=xs.take k:=by rw [<-j];exact Ze7 h (by first|(left;omega)|(right;exact Zfb k O1 ‹_›))
   exact Xn d () results189 (by rw [e,f]) aA (Oi 1 Za (by rw [e,f]))
 .refine go 24 ?_;have e:tzl xs=xs.take k:=by rw [<-j];exact Ze7 h (by first|(left;omega)|(right;exact Zfb k O1 ‹_›))
  exact Xn d () results189 (by rw [e,f]) aA (Oi 1 Za (by rw [e,f]))
theorem Zwh(v:Value)(r:List (Bool×ByteArray)):Xy prog 190 #[v] [Yw 2 Zxc v r] (.bool (okP r)):=by
 refine Zg func190 ntmps190 λz s p a=>?_;refine Of (Ir (i:=1) J Zl) λg=>go 14 ?_;refine lp (G:=Nat) [0,5,6] [0,1] (λk=>[(7,.int .i64 (k:Int))]) (λk=>[]) (λk=>(k<=r.length)/\((r.take k).all (λw=>okW w.1 w.2)=true)) (λk=>r.length-k) 0 ⟨O2,O8⟩ K1 aA ?_;rintro k ⟨o,l⟩;refine go 6 ?_;refine Zc J (λj=>?_) (λj=>?_)
 .refine go 7 ⟨O4,?_⟩;refine dt (Xw 1 (false,⟨#[]⟩) J J J Zl pW O4)<|Yk (Zw 2) λb _=>go 6 ?_;refine cl 2 [] Za2 λ_ _=>go 3 ?_;refine Nh J (λf=>?_) (λf=>?_)
  .refine go 11 ?_;exact Xn a () results190 (by rw [Ynm (Ze (i:=k) (d:=(false,⟨#[]⟩))) (by simp_all)]) aA Za
  .refine go 7 ⟨O1,?_⟩;exact Yu (k+1) ⟨O2,by rw [Po (false,⟨#[]⟩) _ O1,List.all_append,l];simpa using f⟩ O2 K1 aA
 .refine go 6 ?_;obtain rfl:k=r.length:=O1;rw [bO]at l;obtain⟨xs,c,rfl⟩:=Zti (cI.1 l);have m:=Sz.of_mem c;rw [aP]at g;refine Zh (Zo0 1 (q:=Yw 2 wv v xs) J J (Ymg v xs) (λ_ h=>fpn h) J)<|go 5 ?_;refine Xf 18 J (λn=>?_) (λn=>?_)
  .refine go 4 ?_;refine Xf 22 J (λe=>?_) (λe=>?_)
   .refine go 14 ?_;exact Xn a () results190 (by rw [Zpp c];first|(simp_all;done)|(simp_all;omega)) aA Za
   .refine go 4 ⟨O1,?_⟩;refine Kl (Zq 1 (xs.length-1) J J J J Zl Mc Lm) J J<|go 1 ⟨O1,?_⟩;refine Kf 2 [] (Iu (m.getD _)) λ_ _=>go 7 ?_;exact Xn a () results190 (by rw [Zpp c];first|(simp_all;done)|(simp_all;omega)) aA Za
  .refine go 18 ?_;exact Xn a () results190 (by rw [Zpp c];first|(simp_all;done)|(simp_all;omega)) aA Za
def Xj(h:Vp xs):Cal prog 190 #[v] [Yw 2 wv v xs] false (G:=Unit) (λ_=>True) (λ_=> .bool true) (λ_=>[]):=okP_wr h▸(Zwh v (xs.map wr)).imp (Zv0 v xs) (λ_ h=>fpm h)
theorem Nm(hs:Sz 65536 xs):Xy prog 195 #[v] [Yw 2 wv v xs] (.int .i64 (Qx xs:Int)):=by
 refine Zg func195 ntmps195 λh g f c=>?_;refine Of (Ir (i:=1) J Zl) λd=>go 19 ?_;refine lp (G:=Nat) [6,7] [0,1] (λk=>[(8,.int .i64 (k:Int)),(3,.int .i64 (Qx (xs.take k):Int))]) (λk=>[]) (λk=>k<=xs.length) (λk=>xs.length-k) 0 O2 K2 aA ?_;rintro k e;refine go 6 ?_;refine Zc J (λa=>?_) (λa=>?_)
 .refine go 8 ⟨O4,O4,?_⟩;refine Yk (Zw 2) λb _=>go 6 ?_;refine cl 2 [] (Zjx (hs.getD _)) λ_ _=>?_;refine dt (Zd3 J J J)<|go 8 ⟨O1,?_⟩;exact Yu (k+1) O2 O2 ⟨J,by rw [Po 0 _ O1,Yh2];exact aL some (Zcj O1),aA⟩ aA
 .refine go 12 ?_;exact Xn c () results195 (by rw [cE O1]) aA Za
theorem Zqn{e f:Int}{n:Bool}{s:ByteArray}:Zc1 prog 238 #[.pointer (some ⟨bd,0,none⟩),.agg #[.bool n,.string s],.int .i64 f] [] false bd t #[.int .i64 e] (G:=Unit) (λ_=>True) (λ_=> .agg #[.bool n,.string s]) (λ_=>#[.int .i64 (if e=0 then f else e)]) (λ_=>[]):=by
 refine Eg func238 J ntmps238 J aA ?_;intro j i g c;have g:=Hw.mk g;simp only [Qq,Yt];refine go 2 ?_;refine Yk (Ym 2) λb _=>Yk (Zw 3) λh _=>go 12 ?_;refine Zc J (λd=>?_) (λd=>?_)
 .refine go 15 ?_;exact El (.inl J) c () (λa w hs=>Za6 hs results238 (Fp 3 J J isAgg80 Lm J)) J aA 1 J (by simp_all [Gi]) J J Za
 .refine go 9 ?_;exact El (.inl J) c () (λa w hs=>Za6 hs results238 (Fp 3 J J isAgg80 Lm J)) J aA 1 J (by simp_all [Gi]) J J Za
theorem d_mul_(bd:Nat)(e x y:Int)(h:bl x.natAbs<=65536)(i:bl y.natAbs<=65536):Zc1 prog 191 #[.pointer (some ⟨bd,0,none⟩),wv x,wv y] [] false bd 250 #[.int .i64 e] (G:=Unit) (λ_=>True) (λ_=>wv (Zat (x*y))) (λ_=>#[.int .i64 (err e (x*y))]) (λ_=>[]):=by refine Eg func191 J ntmps191 J aA ?_;intro k j d c;have d:=Hw.mk d;simp only [Qq,Yt];refine go 2 ?_;refine Yk (Ym 2) λb _=>Yk (Ym 3) λf _=>Yk (Zw 4) λg _=>go 3 ?_;refine Xu (λx=>x=bd) [(0,0),(1,0),(2,0),(3,0),(4,0),(5,1),(6,0),(7,0),(8,1),(9,3)]<|go 5 ?_;refine Xe (Zj 4 [] (Zrz ‹_› ‹_›)) λ_ _=>go 2 ?_;refine Dg J (Ql 4 1 Zqn J J J K3 call238 J O3 Zr J d.h J) λ_ _=>go 4 ?_;exact El (.inl J) c () (λa w hs=>Za6 hs results191 (Fp 4 J J isAgg80 Lm J)) J aA 1 J J J J Za
theorem Ey(c:bl x.natAbs<=65536)(d:bl y.natAbs<=65536)(a:bl (x*y).natAbs<=65536):Zc1 prog 191 #[.pointer (some ⟨bd,0,none⟩),wv x,wv y] [] false bd 250 #[.int .i64 0] (G:=Unit) (λ_=>True) (λ_=>wv (x*y)) (λ_=>#[.int .i64 0]) (λ_=>[]):=by have h:=d_mul_ bd 0 x y c d;rw [Ik a,Zw9 a]at h;exact h
theorem d_add_(bd:Nat)(e x y:Int)(h:bl x.natAbs<=65536)(i:bl y.natAbs<=65536):Zc1 prog 196 #[.pointer (some ⟨bd,0,none⟩),wv x,wv y] [] false bd 250 #[.int .i64 e] (G:=Unit) (λ_=>True) (λ_=>wv (Zat (x+y))) (λ_=>#[.int .i64 (err e (x+y))]) (λ_=>[]):=by refine Eg func196 J ntmps196 J aA ?_;intro k j d c;have d:=Hw.mk d;simp only [Qq,Yt];refine go 2 ?_;refine Yk (Ym 2) λb _=>Yk (Ym 3) λf _=>Yk (Zw 4) λg _=>go 3 ?_;refine Xu (λx=>x=bd) [(0,0),(1,0),(2,0),(3,0),(4,0),(5,1),(6,0),(7,0),(8,1),(9,3)]<|go 5 ?_;refine Xe (Zj 4 [] (Zr2 ‹_› ‹_›)) λ_ _=>go 2 ?_;refine Dg J (Ql 4 1 Zqn J J J K3 call238 J O3 Zr J d.h J) λ_ _=>go 4 ?_;exact El (.inl J) c () (λa w hs=>Za6 hs results196 (Fp 4 J J isAgg80 Lm J)) J aA 1 J J J J Za
theorem Zlw(c:bl x.natAbs<=65536)(d:bl y.natAbs<=65536)(a:bl (x+y).natAbs<=65536):Zc1 prog 196 #[.pointer (some ⟨bd,0,none⟩),wv x,wv y] [] false bd 250 #[.int .i64 0] (G:=Unit) (λ_=>True) (λ_=>wv (x+y)) (λ_=>#[.int .i64 0]) (λ_=>[]):=by have h:=d_add_ bd 0 x y c d;rw [Ik a,Zw9 a]at h;exact h
theorem d_sub_(bd:Nat)(e x y:Int)(h:bl x.natAbs<=65536)(i:bl y.natAbs<=65536):Zc1 prog 194 #[.pointer (some ⟨bd,0,none⟩),wv x,wv y] [] false bd 250 #[.int .i64 e] (G:=Unit) (λ_=>True) (λ_=>wv (Zat (x-y))) (λ_=>#[.int .i64 (err e (x-y))]) (λ_=>[]):=by refine Eg func194 J ntmps194 J aA ?_;intro k j d c;have d:=Hw.mk d;simp only [Qq,Yt];refine go 2 ?_;refine Yk (Ym 2) λb _=>Yk (Ym 3) λf _=>Yk (Zw 4) λg _=>go 3 ?_;refine Xu (λx=>x=bd) [(0,0),(1,0),(2,0),(3,0),(4,0),(5,1),(6,0),(7,0),(8,1),(9,3)]<|go 5 ?_;refine Xe (Zj 4 [] (Yei ‹_› ‹_›)) λ_ _=>go 2 ?_;refine Dg J (Ql 4 1 Zqn J J J K3 call238 J O3 Zr J d.h J) λ_ _=>go 4 ?_;exact El (.inl J) c () (λa w hs=>Za6 hs results194 (Fp 4 J J isAgg80 Lm J)) J aA 1 J J J J Za
theorem Zxe(c:bl x.natAbs<=65536)(d:bl y.natAbs<=65536)(a:bl (x-y).natAbs<=65536):Zc1 prog 194 #[.pointer (some ⟨bd,0,none⟩),wv x,wv y] [] false bd 250 #[.int .i64 0] (G:=Unit) (λ_=>True) (λ_=>wv (x-y)) (λ_=>#[.int .i64 0]) (λ_=>[]):=by have h:=d_sub_ bd 0 x y c d;rw [Ik a,Zw9 a]at h;exact h
theorem Yj4(hs:Sz 65536 xs):Cal prog 192 #[.pointer (some ⟨bd,0,none⟩),v] [Ka bd 250 #[.int .i64 0],Yw 2 wv v xs] true (G:=Unit) (λ_=>True) (λ_=> .tuple #[Kb v (tzl xs).length,.int .i64 0]) (λ_=>[Yw 2 wv (Kb v (tzl xs).length) (tzl xs)]):=by
 refine Zg func192 ntmps192 λf e d c=>go 17 ?_;refine Zc J (λa=>?_) (λa=>?_)
 .exfalso;simp_all
 .refine go 5 ?_;refine cl 3 [2] (Zc9 ‹_›) λ_ _=>go 5 ?_;exact Ma c () results192 J aA (Oi 3 Za)
theorem Kc(c:Int)(g:Vp xs)(m:bl c.natAbs<=65536)(h:∀i,bl (cf xs i*c).natAbs<=65536):Cal prog 136 #[v,wv c] [Yw 2 wv v xs] true (G:=Value) (λr=>True) (λr=> .tuple #[r,.int .i64 0]) (λr=>[Yw 2 wv r (Zm xs c)]):=by
 refine Zg func136 ntmps136 λp o e d=>?_;have f:=g.len;refine go 2 ?_;refine Yk (Ym 2) λb _=>go 8 ?_;refine cl 2 [1] (Xj ‹_›) λ_ _=>go 3 ?_;refine Kf 2 [] (Lz ‹_›) λ_ _=>go 9 ?_;refine Yk (Zw 3) λj _=>go 6 ?_;refine tt (Fc 4 _ 24 (enc:=wv) 0 J J J J Mc ti80 J pV.cells pV.pos J J J e.h J J) λv _=>go 12 ?_;refine lp (G:=Nat) [3,6,7,21,22] [0,1,2,3] (λk=>[(23,.int .i64 (k:Int))]) (λk=>[(4,Pz 2 80 wv v (fill xs.length k (λi=>cf xs i*c)))]) (λk=>k<=xs.length) (λk=>xs.length-k) 0 O2 K1 ⟨by rw [Cw xs.length (λi=>cf xs i*c)];rfl,aA⟩ ?_;rintro k n;refine go 6 ?_;refine Zc J (λa=>?_) (λa=>?_)
 .refine go 9 ⟨O4,O4,?_⟩;refine Yk (Zw 5) λl _=>go 9 ?_;refine tt (Ql 5 3 (Ey (g.sz.getD _) m (h _)) J J J K3 call191 J O3 Zr J e.h aA) (λ_ _=>?_);refine dt (Zq 4 k J J J J (Zy pV) Mc Lm J (by rw [Pa];omega))<|tt (Lp 4 (enc:=wv) J J J J J J pV J e.h O3 (by rw [Pa];omega)) (λ_ _=>?_);refine go 7 ⟨O1,?_⟩;exact Yu (k+1) O2 O2 K1 ⟨by rw [<-Zcl O1];rfl,aA⟩
 .refine go 6 ?_;obtain rfl:k=xs.length:=O1;refine Zh (Qj 4 J J pV)<|Zh (Zee 3 J J)<|go 2 ?_;refine cl 6 [3,4] (Yj4 (by rw [Fz];exact Zcf λi _=>h i)) λ_ _=>go 7 ?_;exact Ma d _ results136 J aA (Oi 6 Za (by rw [Yc1]<;>rfl))
theorem Ag(e:Vp xs)(h:∀i,bl (cf xs (i+1)*((i:Int)+1)).natAbs<=65536):Cal prog 260 #[v] [Yw 2 wv v xs] true (G:=Value) (λr=>True) (λr=> .tuple #[r,.int .i64 0]) (λr=>[Yw 2 wv r (Xa xs)]):=by
 refine Zg func260 ntmps260 λo m f d=>?_;have g:=e.len;refine go 10 ?_;refine cl 1 [1] (Xj ‹_›) λ_ _=>go 14 ?_;refine Zc J (λa=>?_) (λa=>?_)
 .refine go 8 ?_;exact Ma d _ results260 J aA (Mr (Yhi O1) Za)
 .refine go 4 ?_;refine Yk (Zw 2) λb _=>?_;refine go 7 ⟨O1,?_⟩;refine tt (Fc 3 (xs.length-1) 24 (enc:=wv) 0 J J J J Mc ti80 J pV.cells pV.pos J J J f.h) λv _=>go 12 ?_;refine lp (G:=Nat) [0,4,5,18] [0,1,2] (λk=>[(19,.int .i64 (k:Int))]) (λk=>[(3,Pz 2 80 wv v (fill (xs.length-1) k (λi=>cf xs (i+1)*((i:Int)+1))))]) (λk=>k<=xs.length-1) (λk=>xs.length-1-k) 0 O2 K1 ⟨by rw [Cw (xs.length-1) (λi=>cf xs (i+1)*((i:Int)+1))];rfl,aA⟩ ?_;rintro k l;have j:(fill (xs.length-1) k (λi=>cf xs (i+1)*((i:Int)+1))).length=xs.length-1:=Pa _ _ _;refine go 6 ?_;refine Zc J (λc=>?_) (λc=>?_)
  .try rw [aX]at *
   refine go 10 ?_;refine Xu (λx=>x=b) [(0,0),(1,0),(2,0),(3,0),(4,0),(5,0),(6,0),(7,0),(8,0),(9,1),(10,1),(11,0),(12,3)]<|go 5 ⟨O1,?_⟩;refine Xg J J (st1 2 J (Zq 1 (k+1) J J J J Zl Mc Lm))<|go 3 ⟨O1,O1,?_⟩;refine Xe (Zj 3 [] (Zs _ (by first|assumption|exact⟨O1,O1⟩))) λ_ _=>?_;refine Dg J (Ql 3 2 (Ey (x:=cf xs (k+1)) (y:=((k:Int)+1)) (e.sz _) (aB (Pr (n:=32) O1) O3) (h k)) J J J K3 call191 J O3 Zr J f.h J) (λ_ _=>?_);refine Xg J J (st1 2 J (Zq 3 k J J J J (Zy pV) Mc Lm J (by rw [Pa];omega)))<|r3' J (Lp 3 (enc:=wv) J J J J J J pV J f.h O3 (by rw [Pa];omega)) (λ_ _=>?_);refine go 7 ⟨O1,?_⟩;exact Yu (k+1) O2 O2 K1 ⟨by rw [<-Zcl O1];rfl,aA⟩
  .try rw [aX]at *
   refine go 6 ?_;obtain rfl:k=xs.length-1:=O1;refine Zh (Qj 3 J J pV)<|Zh (Zee 2 J J)<|go 2 ?_;refine cl 4 [2,3] (Yj4 (by rw [Fz];exact Zcf λi _=>h i)) λ_ _=>go 7 ?_;exact Ma d _ results260 J aA (Oi 4 Za (by rw [Yni e.tr]<;>rfl))
theorem Zpg(j:Vp xs):Xy prog 197 #[v] [Yw 2 wv v xs] (.tuple #[wv (Yz xs),.int .i64 0]):=by
 refine Zg func197 ntmps197 λr q n i=>?_;have l:=j.len;have d:∀k,bl (Yz (xs.take k)).natAbs<=65536:=λk=>Zte _ (j.sz.take k);refine go 2 ?_;refine Yk (Zw 2) λb _=>go 7 ?_;refine cl 2 [1] (Xj ‹_›) λ_ _=>go 8 ?_;refine Yk (Zw 3) λf _=>go 4 ?_;refine Yk (Zw 4) λg _=>go 11 ?_;refine lp (G:=Nat) [2,4,5,12,13] [0,1,2] (λk=>[(14,.int .i64 (k:Int))]) (λk=>[(4,box g 80 #[.bool (decide (Yz (xs.take k)<0)),.string (Qe (Yz (xs.take k)).natAbs)]),(3,box f 250 #[.int .i64 0])]) (λk=>k<=xs.length) (λk=>xs.length-k) 0 O2 K1 K2 ?_;rintro k o;have e:=λh=>Iq (p:=xs) (k:=k) h;refine go 6 ?_;refine Zc J (λc=>?_) (λc=>?_)
 .refine go 8 ⟨O4,O4,?_⟩;refine Yk (Zw 5) λm _=>go 7 ?_;refine cl 5 [] (Zr1 (Yz (xs.take k)) (xs.getD k 0) (d _) (j.sz.getD _)) λ_ _=>go 2 ?_;refine tt (Ql 5 3 Zqn J J J K3 call238 J O3 Zr J n.h aA) (λ_ _=>?_);refine go 8 ⟨O1,?_⟩;have a:=d (k+1);rw [e O1]at a;exact Yu (k+1) O2 O2 K1 ⟨by rw [e O1];simp only [Ik a];rfl,by simp only [Zqf a];rfl,aA⟩
 .refine go 6 ?_;refine Lb [3,4] [5]<|Zt 0 [(0,0),(1,0),(2,0),(3,0),(4,1),(5,3)]<|go 7 ?_;refine Yl<|go 2 ?_;exact Ma i () results197 (by rw [show k=xs.length by omega,bO]<;>rfl) aA Za
theorem Zmv{c:Int}(l:Sz 65536 xs)(j:xs.length<=1000)(q:bl c.natAbs<=65536)(s:∀i,c∣cf xs i)(f:xs≠[]->c≠0):Cal prog 198 #[v,wv c] [Yw 2 wv v xs] true (G:=Value) (λr=>True) (λr=> .tuple #[r,.int .i64 0]) (λr=>[Yw 2 wv r (xs.map (· / c))]):=by
 refine Zg func198 ntmps198 λB z m h=>go 2 ?_;refine Yk (Ym 2) λb _=>go 8 ?_;refine tt (Fc 3 _ 24 (enc:=wv) 0 J J J J Mc ti80 J pV.cells pV.pos J J J m.h J J) λv _=>go 12 ?_;refine lp (G:=Nat) [3,6,15,16] [0,1,2] (λk=>[(17,.int .i64 (k:Int))]) (λk=>[(3,Pz 2 80 wv v (fill xs.length k (λi=>cf xs i/c)))]) (λk=>k<=xs.length) (λk=>xs.length-k) 0 O2 K1 ⟨by rw [Cw xs.length (λi=>cf xs i/c)];rfl,aA⟩ ?_;rintro k w;have g:Zat (xs.getD k 0/c)=cf xs k/c:=Ik (Zbl (s k) (l k));refine go 6 ?_;refine Zc J (λa=>?_) (λa=>?_)
 .refine go 9 ⟨O4,O4,?_⟩;refine Yk (Zw 4) λn _=>go 8 ?_;refine cl 4 [] (Cy (l.getD _) q (f (by intro e;rw [e]at a;simp at a;omega))) λ_ _=>go 4 ?_;refine Yk (Zw 5) λo _=>Yk (Zw 6) λp _=>go 12 ?_;refine Zc J (λd=>?_) (λd=>?_)
  .exfalso;simp_all
  .refine go 6 ?_;refine dt (Zq 3 k J J J J (Zy pV) Mc Lm J (by rw [Pa];omega))<|tt (Lp 3 (enc:=wv) J J J J J J pV J m.h O3 (by rw [Pa];omega)) (λ_ _=>?_);refine go 7 ⟨O1,?_⟩;exact Yu (k+1) O2 O2 K1 ⟨by rw [<-Zcl O1];simp only [g];rfl,aA⟩
 .refine go 13 ?_;obtain rfl:k=xs.length:=O1;exact Ma h _ results198 J aA (gow 3 Za (by rw [Fz,Yh3 xs (· / c)]<;>rfl))
theorem Me(c:Vp xs):Cal prog 140 #[v] [Yw 2 wv v xs] true (G:=Value) (λr=>True) (λr=> .tuple #[r,.int .i64 0]) (λr=>[Yw 2 wv r (Zx xs)]):=by
 refine Zg func140 ntmps140 λh g f d=>?_;have e:=c.len;refine go 9 ?_;refine cl 1 [1] (Zpg ‹_›) λ_ _=>go 3 ?_;refine Yk (Zw 2) λb _=>go 11 ?_;refine Zc J (λa=>?_) (λa=>?_)
 .exfalso;simp_all
 .refine go 6 ?_;refine cl 3 [1] (Zmv c.sz O1 (Zte _ c.sz) (Lg _) c.ne) λ_ _=>go 7 ?_;exact Ma d _ results140 J aA (Oi 3 Za J)
theorem Yc4(n:Vp xs)(S:bl x.natAbs<=65536)(hy:bl y.natAbs<=65536)(a8:0<y):Xy prog 308 #[v,rX x y] [Yw 2 wv v xs] (.tuple #[wv (evv xs x y),.int .i64 (eve xs x y)]):=by
 refine Zg func308 ntmps308 λw0 sc p o=>?_;have c:=n.len;refine go 2 ?_;refine Yk (Ym 2) λb _=>Yk (Zw 3) λZ _=>go 7 ?_;refine cl 3 [1] (Xj ‹_›) λ_ _=>go 3 ?_;refine Kf 3 [] (Li ‹_› ‹_› ‹_›) λ_ _=>go 15 ?_;refine Zc J (λj=>?_) (λj=>?_)
 .refine go 2 ?_;refine dt (Qa [] J aA (λa w hs=>b80_))<|go 6 ?_;exact Ma o () results308 (by rw [aF (l:=xs) O1];rfl) aA Za
 .have M:xs≠[]:=λe=>by rw [e]at j;simp at j
  have a6:=Pu n.sz;have g:Sz 65536 [x,y]:=Sz.of_mem (by intro z V;simp at V;rcases V with rfl|rfl<;>assumption);have I:=Pu g;have a7:(xs.length-1)*Qx [x,y]<=24*65536:=bA O1 I;have f:((xs.length:Int)-1)*(Qx [x,y]:Int)=(((xs.length-1)*Qx [x,y]:Nat):Int):=by rw [fL];congr 1;omega
  refine go 3 ?_;refine jn (G:=Unit) [0,3,4] [0,1,2,3] (λ_=>[(37,.bool (decide ((65536:Int)<(Qx xs:Int)+((xs.length:Int)-1)*(Qx [x,y]:Int)+8)))]) (λ_=>[]) (λ_=>True) ?_ ?_
  .refine Lv (λ_=>False) []<|Zt 7 [(0,0),(2,0),(3,0),(4,0),(5,0),(6,0),(7,0),(8,0)]<|go 9 ⟨O1,?_⟩;refine Na 6 1 9 ?_ ?_
   .refine Lh (Zj 3 [1] (Nm (by first|exact n.sz|exact g))) λ_ _=>?_;refine Zt 0 [(9,1),(10,1),(11,0),(12,0),(13,0),(14,0)]<|Dg J (Qs [(0,_),(1,_)] 90 (enc:=wv) [x,y] J J K4 Ylz ti80 J J J J J pV.cells J J p.h) λv _=>Xe (Zj 3 [90] (Nm (by first|exact n.sz|exact g))) λ_ _=>?_;refine go 5 ⟨by rw [f];exact⟨O1,O1⟩,by rw [f];exact⟨O1,O1⟩,by rw [f];exact⟨O1,O1⟩,?_⟩;exact Yl<|Nb () aA K1 aA
   .refine Ce J J (Qs [(0,_),(1,_)] 90 (enc:=wv) [x,y] J J K4 Ylz ti80 J J J J J pV.cells J J p.h) (λa9 _=>?_);refine Zt 0 [(1,1),(10,1),(11,0),(12,0),(13,0),(14,0)]<|Xe (Zj 3 [1] (Nm (by first|exact n.sz|exact g))) λ_ _=>Xe (Zj 3 [90] (Nm (by first|exact n.sz|exact g))) λ_ _=>?_;refine go 5 ⟨by rw [f];exact⟨O1,O1⟩,by rw [f];exact⟨O1,O1⟩,by rw [f];exact⟨O1,O1⟩,?_⟩;exact Yl<|Nb () aA K1 aA
  .rintro _ -;refine Zc J (λm=>?_) (λm=>?_)
   .have B:Ke xs x y:=⟨M,by rw [f]at m;omega⟩;refine go 2 ?_;refine dt (Qa [] J aA (λa w hs=>b80_))<|go 6 ?_;exact Ma o () results308 (by unfold evv eve;rw [aK B,aK B]<;>rfl) aA Za
   .have i:Qx xs+(xs.length-1)*Qx [x,y]+8<=65536:=by rw [f]at m;omega
    refine go 4 ?_;refine Yk (Zw 4) λH _=>go 2 ?_;refine jn (G:=Nat×Nat) [0,3,4,6] [0,1,2,3,4] (λq=>[(7,.pointer (some ⟨q.1,0,none⟩)),(8,.pointer (some ⟨q.2,0,none⟩))]) (λq=>[(97,box q.1 80 (wc (xs.getD (xs.length-1) 0))),(98,box q.2 80 (wc 1))]) (λq=>True) ?_ ?_
    .refine Lv (λ_=>False) [9,10]<|Zt 5 [(0,0),(1,0),(2,0),(3,0),(4,0),(5,0)]<|go 4 ⟨O1,?_⟩;refine Xg J J (Xd (Zq 1 (xs.length-1) J J J J Zl Mc Lm))<|go 2 ⟨O1,?_⟩;refine Yb7 4 6 7 8 ?_ ?_ ?_
     .refine Lh (Zj 4 [] (Zs _ (by first|assumption|exact⟨O1,O1⟩))) λ_ _=>?_;refine Na 3 7 8 ?_ ?_
      .refine Lh (Zw 97) λa0 _=>?_;refine Zt 0 [(8,1),(9,3),(10,3)]<|Xe (Zw 98) λa1 _=>go 3 ?_;exact Yl<|Nb (_,_) aA K2 K2
      .refine Lh (Zw 98) λa2 _=>?_;refine Zt 0 [(7,1),(9,3),(10,3)]<|Xe (Zw 97) λa3 _=>go 3 ?_;exact Yl<|Nb (_,_) aA K2 K2
     .refine Lh (Zw 97) λa4 _=>?_;refine Na 3 6 8 ?_ ?_
      .refine Lh (Zj 4 [] (Zs _ (by first|assumption|exact⟨O1,O1⟩))) λ_ _=>?_;refine Zt 0 [(8,1),(9,3),(10,3)]<|Xe (Zw 98) λa5 _=>go 3 ?_;exact Yl<|Nb (_,_) aA K2 K2
      .refine Lh (Zw 98) λN _=>?_;refine Zt 0 [(6,1),(9,3),(10,3)]<|Xe (Zj 4 [] (Zs _ (by first|assumption|exact⟨O1,O1⟩))) λ_ _=>go 3 ?_;exact Yl<|Nb (_,_) aA K2 K2
     .refine Lh (Zw 98) λP _=>?_;refine Na 3 6 7 ?_ ?_
      .refine Lh (Zj 4 [] (Zs _ (by first|assumption|exact⟨O1,O1⟩))) λ_ _=>?_;refine Zt 0 [(7,1),(9,3),(10,3)]<|Xe (Zw 97) λQ _=>go 3 ?_;exact Yl<|Nb (_,_) aA K2 K2
      .refine Lh (Zw 97) λR _=>?_;refine Zt 0 [(6,1),(9,3),(10,3)]<|Xe (Zj 4 [] (Zs _ (by first|assumption|exact⟨O1,O1⟩))) λ_ _=>go 3 ?_;exact Yl<|Nb (_,_) aA K2 K2
    .rintro⟨W,Y⟩ -;dsimp only;refine go 10 ⟨O1,?_⟩;refine lp (G:=Nat) [0,3,4,6,7,8] [0,1,2,3,4] (λk=>[(9,.int .i64 ((k:Int)-1))]) (λk=>[(97,box W 80 (wc (Kh xs x y k))),(98,box Y 80 (wc (y^(xs.length-1-k))))]) (λk=>k<=xs.length-1) (λk=>k) (xs.length-1) O2 ⟨by rw [show((xs.length-1:Nat):Int)-1=(xs.length:Int)-2 by omega];rfl,aA⟩ ⟨by rw [Yof x y O1];rfl,by rw [iF,cT];rfl,aA⟩ ?_;rintro k D;refine go 7 ?_;refine Zc J (λr=>?_) (λr=>?_)
     .have d:y^(xs.length-1-k)*y=y^(xs.length-1-(k-1)):=Yg7 y O1 D;have F:Kh xs x y k*x+xs.getD (k-1) 0*y^(xs.length-1-(k-1))=Kh xs x y (k-1):=Ydn x y O1 D;refine go 9 ?_;refine tt (Ql 4 4 (Ey (Zqp i) hy (by rw [d];exact Zqp i)) J J J K3 call191 J O3 Zr J p.h aA) λ_ _=>go 3 ?_;refine Xu (λx=>x=H) [(0,0),(1,0),(2,0),(4,0),(5,0),(6,0),(7,0),(8,0),(3,1),(9,1),(10,1),(11,3)]<|go 5 ?_;refine Xg J J (st1 4 J (Zq 1 (k-1) J J J J Zl Mc Lm))<|go 2 ⟨O1,?_⟩;refine Dg J (Ql 4 4 (Ey (by first|exact Zqq i c _|exact n.sz.getD _) (by first|exact S|(rw [d];exact Zqp i)) (by first|exact Zw8 i c O1 D|(rw [d];exact Zqo i))) J J J K3 call191 J O3 Zr J p.h J) (λ_ _=>?_);refine Dg J (Ql 4 4 (Ey (by first|exact Zqq i c _|exact n.sz.getD _) (by first|exact S|(rw [d];exact Zqp i)) (by first|exact Zw8 i c O1 D|(rw [d];exact Zqo i))) J J J K3 call191 J O3 Zr J p.h J) (λ_ _=>?_);refine Dg J (Ql 4 4 (Zlw (Zw8 i c O1 D) (by rw [d];exact Zqo i) (by rw [d,F];exact Zqq i c _)) J J J K3 call196 J O3 Zr J p.h J) (λ_ _=>?_);refine go 9 ⟨O1,?_⟩;exact Yu (k-1) O2 O2 ⟨by rw [show((k-1:Nat):Int)-1=(k:Int)-1-1 by omega];rfl,aA⟩ ⟨by rw [d,F];rfl,by rw [d];rfl,aA⟩
     .refine go 14 ?_;refine Zc J (λs=>?_) (λs=>?_)
      .exfalso;simp_all
      .refine go 10 ?_;obtain rfl:k=0:=O1;have B:¬Ke xs x y:=λh=>by have:=h.2;omega
       exact Ma o () results308 (by unfold evv eve;rw [aH B,aH B,<-Zt9]<;>rfl) aA Za
theorem Zs9(e:Vp xs)(g:bl x.natAbs<=65536)(h:bl y.natAbs<=65536)(d:0<y):Xy prog 291 #[v,rX x y] [Yw 2 wv v xs] (.tuple #[.int .i64 (evv xs x y).sign,.int .i64 (eve xs x y)]):=by refine Zg func291 ntmps291 λk j i c=>?_;have a:=e.len;refine go 2 ?_;refine Yk (Ym 2) λb _=>go 8 ?_;refine cl 2 [1] (Yc4 e g h d) λ_ _=>go 3 ?_;refine Yk (Zw 3) λf _=>go 7 ?_;refine cl 3 [] (Iu (evv_bl a)) λ_ _=>go 6 ?_;exact Ma c () results291 J aA Za
theorem Zas(hs:Sz 65536 xs):Zc1 prog 192 #[.pointer (some ⟨bd,0,none⟩),v] [Yw 2 wv v xs] true bd 250 #[.int .i64 0] (G:=Unit) (λ_=>True) (λ_=> .tuple #[Kb v (tzl xs).length,.int .i64 0]) (λ_=>#[.int .i64 0]) (λ_=>[Yw 2 wv (Kb v (tzl xs).length) (tzl xs)]):=by
 refine Eg func192 J ntmps192 J K1 ?_;intro g f e d;have e:=Hw.mk e;simp only [Qq,Yt];refine go 17 ?_;refine Zc J (λc=>?_) (λc=>?_)
 .exfalso;simp_all
 .refine go 5 ?_;refine cl 3 [2] (Zc9 ‹_›) λ_ _=>go 5 ?_;exact El (.inl J) d () (λa w hs=>Ycz hs results192 J J) J aA 1 J J J J (Hz 3 J J J Za)
theorem Ybh(h:xs.length*24<=140737488355328:=by omega):Yeb prog 305 #[v] [Yw 2 wv v xs] (G:=Value) (λr=>True) (λr=>r) (λr=>Pz 2 80 wv r xs):=by
 refine Zjq func305 J ntmps305 J K1 ?_;intro k j e f;have e:=Hw.mk e;simp only [Qq,Yt];refine Of (Yje (i:=1) J Zl) λd=>go 9 ?_;refine dt (Zq0 J J J (i:=1) J Zl Mc)<|go 2 ?_;refine Nh J (λc=>?_) (λc=>?_)
 .refine go 7 ?_;obtain rfl:xs=[]:=d (by simpa using c);exact Zv (Pt 9 2 80 wv)<|Zd6 (.inl J) (.slice none 0 0) (λa w hs=>Za6 hs results305 J) J aA J 9 J J J
 .refine go 4 ?_;refine tt (Ye0 2 (enc:=wv) J J J Mc pV J e.h) λv _=>go 1 ?_;refine tt (My 2 1 24 J J J J J J O3 J Zl Mc ti80 J pV J J J O9 O3 J e.h) λg _=>go 4 ?_;exact Zd6 (.inl J) _ (λa w hs=>Za6 hs results305 J) J aA J 2 J (by rfl) J
theorem Zia(d:Vp xs):Xy prog 301 #[v] [Yw 2 wv v xs] (.tuple #[.int .i64 ((xs.length:Int)-1),.int .i64 0]):=by refine Zg func301 ntmps301 λg f e a=>?_;have c:=d.len;refine go 10 ?_;refine cl 1 [1] (Xj ‹_›) λ_ _=>?_;refine go 16 ⟨O1,?_⟩;exact Ma a () results301 J aA Za
theorem Znu(c:Vp xs):Xy prog 302 #[v] [Yw 2 wv v xs] (.tuple #[.int .i64 (Qx xs:Int),.int .i64 0]):=by refine Zg func302 ntmps302 λf e d a=>go 10 ?_;refine cl 1 [1] (Xj ‹_›) λ_ _=>go 9 ?_;refine cl 1 [1] (Nm c.sz) λ_ _=>go 5 ?_;exact Ma a () results302 J aA Za
theorem Zuw(n:Vp xs)(m:Vp ys)(o:∀i,bl (cf xs i+cf ys i).natAbs<=65536):Zc1 prog 193 #[v,u,.pointer (some ⟨bd,0,none⟩),.func (.func 196) #[.pointer (some ⟨bd,0,none⟩)] #[]] [Yw 2 wv v xs,Yw 2 wv u ys] true bd 250 #[.int .i64 0] (G:=Value) (λr=>True) (λr=> .tuple #[r,.int .i64 0]) (λr=>#[.int .i64 0]) (λr=>[Yw 2 wv r (Ax xs ys)]):=by
 refine Eg func193 J ntmps193 J K2 ?_;intro B z c j;have c:=Hw.mk c;simp only [Qq,Yt];have l:=n.len;have h:=m.len;refine go 10 ?_;refine cl 3 [2] (Xj ‹_›) λ_ _=>go 3 ?_;refine Kf 3 [3] (Xj ‹_›) λ_ _=>go 13 ?_;refine dt (Zd3 J J J)<|tt (Fc 4 (max xs.length ys.length) 24 (enc:=wv) 0 J J J J Mc ti80 J pV.cells pV.pos J J J c.h) λv _=>go 12 ?_;refine lp (G:=Nat) [0,1,2,3,10,29] [0,1,2,3] (λk=>[(30,.int .i64 (k:Int))]) (λk=>[(4,Pz 2 80 wv v (fill (max xs.length ys.length) k (λi=>cf xs i+cf ys i)))]) (λk=>k<=max xs.length ys.length) (λk=>max xs.length ys.length-k) 0 O2 K1 ⟨by rw [Cw (max xs.length ys.length) (λi=>cf xs i+cf ys i)];rfl,aA⟩ ?_;rintro k s;have q:(fill (max xs.length ys.length) k (λi=>cf xs i+cf ys i)).length=max xs.length ys.length:=Pa _ _ _;refine go 6 ?_;refine Zc J (λd=>?_) (λd=>?_)
 .try rw [aX]at *
  refine go 12 ?_;refine Yk (Zw 5) λb _=>Yk (Zw 6) λg _=>go 2 ?_;refine jn (G:=Unit) [0,1,2,3,10,11,12,13,29,30] [0,4,1,2,3,6] (λ_=>[]) (λ_=>[(5,box b 80 (wc (cf xs k)))]) (λ_=>True) ?_ ?_
  .refine go 8 ?_;refine Zc J (λe=>?_) (λe=>?_)
   .refine go 7 ⟨O4,O4,?_⟩;exact Nb () aA aA ⟨by first|rfl|(rw [Yr (p:=xs) O1];rfl),aA⟩
   .refine go 1 ?_;exact Nb () aA aA ⟨by first|rfl|(rw [Yr (p:=xs) O1];rfl),aA⟩
  .rintro _ -;refine jn (G:=Unit) [0,1,2,3,10,11,12,13,29,30] [0,5,4,1,2,3] (λ_=>[]) (λ_=>[(6,box g 80 (wc (cf ys k)))]) (λ_=>True) ?_ ?_
   .refine go 8 ?_;refine Zc J (λf=>?_) (λf=>?_)
    .refine go 7 ⟨O4,O4,?_⟩;exact Nb () aA aA ⟨by first|rfl|(rw [Yr (p:=ys) O1];rfl),aA⟩
    .refine go 1 ?_;exact Nb () aA aA ⟨by first|rfl|(rw [Yr (p:=ys) O1];rfl),aA⟩
   .rintro _ -;refine go 6 ?_;refine tt (Zsc 6 1 [_] [_,_] (Zlw (n.sz _) (m.sz _) (o _)) J J J J K2 call196 J O3 Zr J c.h aA) (λ_ _=>?_);refine dt (Zq 4 k J J J J (Zy pV) Mc Lm J (by rw [Pa];omega))<|tt (Lp 4 (enc:=wv) J J J J J J pV J c.h O3 (by rw [Pa];omega)) (λ_ _=>?_);refine go 7 ⟨O1,?_⟩;exact Yu (k+1) O2 O2 K1 ⟨by rw [<-Zcl O1];rfl,aA⟩
 .try rw [aX]at *
  refine go 6 ?_;obtain rfl:k=max xs.length ys.length:=O1;refine Zh (Qj 4 J J pV)<|go 3 ?_;refine tt (Ql 7 1 (Zas (by rw [Fz];exact Zcf λi _=>o i)) J J J K2 call192 J O3 (Zk 4 J J J Zr) J c.h aA) λ_ _=>go 7 ?_;exact El (.inl J) j _ (λa w hs=>Ycz hs results193 J J) J aA 1 J J J J (Zlk 7 J J J (by rw [Fz]<;>rfl) Za)
theorem Zuv(n:Vp xs)(m:Vp ys)(o:∀i,bl (cf xs i-cf ys i).natAbs<=65536):Zc1 prog 193 #[v,u,.pointer (some ⟨bd,0,none⟩),.func (.func 194) #[.pointer (some ⟨bd,0,none⟩)] #[]] [Yw 2 wv v xs,Yw 2 wv u ys] true bd 250 #[.int .i64 0] (G:=Value) (λr=>True) (λr=> .tuple #[r,.int .i64 0]) (λr=>#[.int .i64 0]) (λr=>[Yw 2 wv r (Aw xs ys)]):=by
 refine Eg func193 J ntmps193 J K2 ?_;intro B z c j;have c:=Hw.mk c;simp only [Qq,Yt];have l:=n.len;have h:=m.len;refine go 10 ?_;refine cl 3 [2] (Xj ‹_›) λ_ _=>go 3 ?_;refine Kf 3 [3] (Xj ‹_›) λ_ _=>go 13 ?_;refine dt (Zd3 J J J)<|tt (Fc 4 (max xs.length ys.length) 24 (enc:=wv) 0 J J J J Mc ti80 J pV.cells pV.pos J J J c.h) λv _=>go 12 ?_;refine lp (G:=Nat) [0,1,2,3,10,29] [0,1,2,3] (λk=>[(30,.int .i64 (k:Int))]) (λk=>[(4,Pz 2 80 wv v (fill (max xs.length ys.length) k (λi=>cf xs i-cf ys i)))]) (λk=>k<=max xs.length ys.length) (λk=>max xs.length ys.length-k) 0 O2 K1 ⟨by rw [Cw (max xs.length ys.length) (λi=>cf xs i-cf ys i)];rfl,aA⟩ ?_;rintro k s;have q:(fill (max xs.length ys.length) k (λi=>cf xs i-cf ys i)).length=max xs.length ys.length:=Pa _ _ _;refine go 6 ?_;refine Zc J (λd=>?_) (λd=>?_)
 .try rw [aX]at *
  refine go 12 ?_;refine Yk (Zw 5) λb _=>Yk (Zw 6) λg _=>go 2 ?_;refine jn (G:=Unit) [0,1,2,3,10,11,12,13,29,30] [0,4,1,2,3,6] (λ_=>[]) (λ_=>[(5,box b 80 (wc (cf xs k)))]) (λ_=>True) ?_ ?_
  .refine go 8 ?_;refine Zc J (λe=>?_) (λe=>?_)
   .refine go 7 ⟨O4,O4,?_⟩;exact Nb () aA aA ⟨by first|rfl|(rw [Yr (p:=xs) O1];rfl),aA⟩
   .refine go 1 ?_;exact Nb () aA aA ⟨by first|rfl|(rw [Yr (p:=xs) O1];rfl),aA⟩
  .rintro _ -;refine jn (G:=Unit) [0,1,2,3,10,11,12,13,29,30] [0,5,4,1,2,3] (λ_=>[]) (λ_=>[(6,box g 80 (wc (cf ys k)))]) (λ_=>True) ?_ ?_
   .refine go 8 ?_;refine Zc J (λf=>?_) (λf=>?_)
    .refine go 7 ⟨O4,O4,?_⟩;exact Nb () aA aA ⟨by first|rfl|(rw [Yr (p:=ys) O1];rfl),aA⟩
    .refine go 1 ?_;exact Nb () aA aA ⟨by first|rfl|(rw [Yr (p:=ys) O1];rfl),aA⟩
   .rintro _ -;refine go 6 ?_;refine tt (Zsc 6 1 [_] [_,_] (Zxe (n.sz _) (m.sz _) (o _)) J J J J K2 call194 J O3 Zr J c.h aA) (λ_ _=>?_);refine dt (Zq 4 k J J J J (Zy pV) Mc Lm J (by rw [Pa];omega))<|tt (Lp 4 (enc:=wv) J J J J J J pV J c.h O3 (by rw [Pa];omega)) (λ_ _=>?_);refine go 7 ⟨O1,?_⟩;exact Yu (k+1) O2 O2 K1 ⟨by rw [<-Zcl O1];rfl,aA⟩
 .try rw [aX]at *
  refine go 6 ?_;obtain rfl:k=max xs.length ys.length:=O1;refine Zh (Qj 4 J J pV)<|go 3 ?_;refine tt (Ql 7 1 (Zas (by rw [Fz];exact Zcf λi _=>o i)) J J J K2 call192 J O3 (Zk 4 J J J Zr) J c.h aA) λ_ _=>go 7 ?_;exact El (.inl J) j _ (λa w hs=>Ycz hs results193 J J) J aA 1 J J J J (Zlk 7 J J J (by rw [Fz]<;>rfl) Za)
theorem Yg9(xs ys:List Int)(e:Vp xs)(d:Vp ys)(f:∀i,bl (cf xs i+cf ys i).natAbs<=65536):Cal prog 139 #[v,u] [Yw 2 wv v xs,Yw 2 wv u ys] true (G:=Value) (λr=>True) (λr=> .tuple #[r,.int .i64 0]) (λr=>[Yw 2 wv r (Ax xs ys)]):=by refine Zg func139 ntmps139 λh g c a=>go 8 ?_;refine Yk (Zw 3) λb _=>go 6 ?_;refine dt (d_mkf [_] J K1)<|tt (Ql 4 3 (Zuw ‹_› ‹_› ‹_›) J J J K4 call193 J O3 (Zk 1 J J J (Zk 2 J J J Zr)) J c.h aA) λ_ _=>go 7 ?_;exact Ma a _ results139 J aA (Oi 4 Za)
theorem Yg8(xs ys:List Int)(e:Vp xs)(d:Vp ys)(f:∀i,bl (cf xs i-cf ys i).natAbs<=65536):Cal prog 137 #[v,u] [Yw 2 wv v xs,Yw 2 wv u ys] true (G:=Value) (λr=>True) (λr=> .tuple #[r,.int .i64 0]) (λr=>[Yw 2 wv r (Aw xs ys)]):=by refine Zg func137 ntmps137 λh g c a=>go 8 ?_;refine Yk (Zw 3) λb _=>go 6 ?_;refine dt (d_mkf [_] J K1)<|tt (Ql 4 3 (Zuv ‹_› ‹_› ‹_›) J J J K4 call193 J O3 (Zk 1 J J J (Zk 2 J J J Zr)) J c.h aA) λ_ _=>go 7 ?_;exact Ma a _ results137 J aA (Oi 4 Za)
theorem Zta(xs ys:List Int)(B:Vp xs)(z:Vp ys)(M:¬Ah xs ys):Cal prog 138 #[v,u] [Yw 2 wv v xs,Yw 2 wv u ys] true (G:=Value) (λr=>True) (λr=> .tuple #[r,.int .i64 0]) (λr=>[Yw 2 wv r (Qn xs ys)]):=by
 refine Zg func138 ntmps138 λw0 sc D f=>?_;have N:=B.len;have I:=z.len;have V:=Pu B.sz;have W:=Pu z.sz;refine go 10 ?_;refine cl 2 [1] (Xj ‹_›) λ_ _=>go 3 ?_;refine Kf 2 [2] (Xj ‹_›) λ_ _=>go 14 ?_;refine Xf 23 J (λF=>?_) (λF=>?_)
 .refine go 15 ?_;exact Ma f _ results138 J aA (Mr (Zfv (p:=xs) (q:=ys) (by first|(left;omega)|(right;omega))) Za)
 .refine go 6 ?_;refine Zc J (λg=>?_) (λg=>?_)
  .refine go 8 ?_;exact Ma f _ results138 J aA (Mr (Zfv (p:=xs) (q:=ys) (by first|(left;omega)|(right;omega))) Za)
  .have c:xs≠[]:=by intro e;subst e;simp_all
   have d:ys≠[]:=by intro e;subst e;simp_all
   have R:0<xs.length:=aG.2 c;have S:0<ys.length:=aG.2 d;refine go 13 ⟨O1,O1,?_⟩;refine Xf 35 J (λH=>?_) (λH=>?_)
   .exfalso;exact M ⟨c,d,.inl O1⟩
   .refine go 1 ?_;refine Kf 2 [1] (Nm (by first|exact B.sz|exact z.sz)) λ_ _=>go 1 ?_;refine Kf 2 [2] (Nm (by first|exact B.sz|exact z.sz)) λ_ _=>?_;refine go 6 ⟨O1,O1,?_⟩;refine Zc J (λk=>?_) (λk=>?_)
    .exfalso;exact M ⟨c,d,by first|(left;omega)|(right;omega)⟩
    .have Y:Qx xs+Qx ys+5<=65536:=O1;have s:∀i j,bl (cf xs i*cf ys j).natAbs<=65536:=λi j=>by have:=Ya (cf xs i) (cf ys j);have:=Ku xs i;have:=Ku ys j;omega
     have n:∀i j t,i<25->bl (Zaw xs ys i j t).natAbs<=65536:=λi j t hi=>by have:=Yp3 (i:=i) (j:=j) (t:=t) (Ku xs) (Ku ys) O1;omega
     have o:∀t,bl (acc xs ys xs.length t).natAbs<=65536:=λt=>by have:=bl_acc (i:=xs.length) (t:=t) (Ku xs) (Ku ys) O1;omega
     have w:∀i j,i<25->bl (Zaw xs ys i j (i+j)+cf xs i*cf ys j).natAbs<=65536:=λi j hi=>by rw [<-Yea];exact n i (j+1) _ hi
     refine go 4 ?_;refine Yk (Zw 3) λb _=>?_;refine go 10 ⟨O1,O1,?_⟩;refine tt (Fc 4 (xs.length+ys.length-1) 24 (enc:=wv) 0 J J J J Mc ti80 J pV.cells pV.pos J J J D.h) λv _=>go 12 ?_;refine lp (G:=Nat) [1,6,7,51,52] [0,1,2,3] (λi=>[(53,.int .i64 (i:Int))]) (λi=>[(4,Pz 2 80 wv v (mk (xs.length+ys.length-1) (acc xs ys i)))]) (λi=>i<=xs.length) (λi=>xs.length-i) 0 O2 K1 ⟨by rw [Zwb];rfl,aA⟩ ?_;rintro i hi;refine go 6 ?_;refine Zc J (λl=>?_) (λl=>?_)
     .refine go 9 ⟨O4,O4,?_⟩;refine Yk (Zw 5) λP _=>go 12 ?_;refine lp (G:=Nat) [1,6,7,8,9,51,52,53,58,59] [0,1,2,3,5] (λj=>[(60,.int .i64 (j:Int))]) (λj=>[(4,Pz 2 80 wv v (mk (xs.length+ys.length-1) (Zaw xs ys i j)))]) (λj=>j<=ys.length) (λj=>ys.length-j) 0 O2 K1 ⟨by rw [Yd9];rfl,aA⟩ ?_;rintro j Z;have a:i+j<xs.length+ys.length-1->(mk (xs.length+ys.length-1) (Zaw xs ys i j)).getD (i+j) 0=Zaw xs ys i j (i+j):=λh=>Zdm h;refine go 6 ?_;refine Zc J (λm=>?_) (λm=>?_)
      .refine go 9 ⟨O4,O4,?_⟩;refine Yk (Zw 6) λQ _=>go 4 ?_;refine Xu (λx=>x=b) [(0,0),(1,0),(2,0),(3,0),(4,0),(5,0),(6,0),(7,0),(8,0),(9,0),(10,0),(11,0),(12,1),(13,1),(14,0),(15,3)]<|go 8 ⟨O1,O1,?_⟩;refine Xg J J (st1 3 J (Zq 4 (i+j) J J J J (Zy pV) Mc Lm O1 (by rw [Yp];omega)))<|go 3 ⟨by rw [Yp];omega,?_⟩;refine Dg J (Ql 6 3 (Ey (B.sz _) (z.sz _) (s i j)) J J J K3 call191 J O3 Zr J D.h J) (λ_ _=>?_);refine Dg J (Ql 6 3 (Zlw (by rw [a O1];exact n i j _ O1) (s i j) (by rw [a O1];exact w i j O1)) J J J K3 call196 J O3 Zr J D.h J) (λ_ _=>?_);refine Xg J J (st1 3 J (Zq 4 (i+j) J J J J (Zy pV) Mc Lm O1 (by rw [Yp];omega)))<|r3' J (Lp 4 (enc:=wv) J J J J J J pV J D.h O3 (by rw [Yp];omega)) (λ_ _=>?_);refine go 7 ⟨O1,?_⟩;exact Yu (j+1) O2 O2 K1 ⟨by rw [<-Ylc O1,<-a O1];rfl,aA⟩
      .refine go 10 ⟨O1,?_⟩;obtain rfl:j=ys.length:=O1;exact Yu (i+1) O2 O2 K1 ⟨by rw [<-Yld];rfl,aA⟩
     .refine go 6 ?_;obtain rfl:i=xs.length:=O1;refine Zh (Qj 4 J J pV)<|go 2 ?_;refine tt (Ql 7 3 (Zas (Zcf λt _=>o t)) J J J K2 call192 J O3 (Zk 4 J J J Zr) J D.h aA) λ_ _=>go 7 ?_;exact Ma f _ results138 J aA (Oi 7 Za (by rw [Yhc]<;>rfl))
end Go.Sky

