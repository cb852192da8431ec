/- Rules, arithmetic and contracts: part 16. No conditions but those that each theorem names. -/
import Derived.Test.YtpmihempjefadaaGreatAo14
set_option linter.all false
set_option maxHeartbeats 4000000
namespace Go.Sky
open Go.Proofs.Tryz
open Go.Proofs
set_option synthInstance.maxHeartbeats 0
set_option synthInstance.maxSize 100000
set_option maxRecDepth 20000
set_option linter.unusedSimpArgs false
variable{b:Bool}{x y:Int}{t:TypeId}{v u:Value}{xs ys:List Int}{bd:Nat}
theorem Zbf{s:ByteArray}:Xk prog 176 #[.agg #[.bool b,.string s]] [] (.bool (okW b s)):=by
 refine Zd func176 ntmps176 λg f e c=>go 2 ?_;refine Zz (Zu 1) λb _=>go 8 ?_;refine dt (Zwb J J J J)<|go 2 ?_;refine Zc J (λa=>?_) (λa=>?_)
 .refine go 10 ?_;exact Yx c () results176 (by unfold okW;rw [aF a]) aA Za
 .refine go 6 ?_;refine dt (Yhw (i:=0) J J J uT9 J)<|go 2 ?_;refine Zj 13 J (λd=>?_) (λd=>?_)
  .refine go 9 ?_;exact Yx c () results176 (by unfold okW;rw [aD a];simp_all<;>omega) aA Za
  .refine go 9 ?_;exact Yx c () results176 (by unfold okW;rw [aD a];simp_all<;>omega) aA Za
def Lz(a:bl x.natAbs<=65536):Cal prog 176 #[wv x] [] false (G:=Unit) (λ_=>True) (λ_=> .bool true) (λ_=>[]):=Zcm a▸Zbf
theorem Zme(b:Bool)(s:ByteArray)(c:Bool)(t:ByteArray):Xk prog 232 #[.agg #[.bool b,.string s],.agg #[.bool c,.string t]] [] (.bool (okW b s && okW c t)):=by
 refine Zd func232 ntmps232 λh g f a=>go 2 ?_;refine Zz (Zu 1) λb _=>Zz (Zu 2) λe _=>go 6 ?_;refine cl 2 [] Zbf λ_ _=>go 1<|Xx 7 J (λd=>?_) (λd=>?_)
 .refine go 1 ?_;refine Lh 2 [] Zbf λ_ _=>go 5 ?_;exact Yx a () results232 (by simp_all) aA Za
 .refine go 7 ?_;exact Yx a () results232 (by simp_all) aA Za
theorem Ic(a:bl x.natAbs<=65536)(c:bl y.natAbs<=65536):Xk prog 232 #[wv x,wv y] [] (.bool true):=by have h:=Zme (decide (x<0)) (Xo x.natAbs) (decide (y<0)) (Xo y.natAbs);rw [Zcm a,Zcm c]at h;exact h
theorem Iw(e:bl x.natAbs<=65536):Xk prog 235 #[wv x] [] (.int .i64 x.sign):=by refine Zd func235 ntmps235 λh f d a=>go 2 ?_;refine Zz (Zu 1) λb _=>go 7 ?_;refine cl 1 [] (Lz ‹_›) λ_ _=>go 9 ?_;refine cl 2 [] (Oj Mm) λg c=>cl 2 [2] (Zkj ‹_›) λ_ _=>go 4 ?_;exact Yx a () results235 J aA Za
theorem Zjg(d:bl x.natAbs<=65536):Xk prog 298 #[wv x] [] (.int .i64 (bl x.natAbs:Int)):=by refine Zd func298 ntmps298 λf e c a=>go 2 ?_;refine Zz (Zu 1) λb _=>go 7 ?_;refine cl 1 [] (Lz ‹_›) λ_ _=>go 10 ?_;refine cl 2 [] Zdf λv _=>cl 2 [2] Zko λ_ _=>go 4 ?_;exact Yx a () results298 J aA Za
theorem Zq1(m:bl x.natAbs<=65536)(n:bl y.natAbs<=65536):Xk prog 179 #[wv x,wv y] [] (Zb9 (x+y)):=by refine Zd func179 ntmps179 λp o l a=>?_;have j:=Dz x y;refine go 2<|Zz (Zu 1) λb _=>Zz (Zu 2) λe _=>Zz (Zw 3) λf _=>go 8 ?_;refine cl 3 [] (Ic ‹_› ‹_›) λ_ _=>go 7<|Ph (λ_=>False) [(0,0),(2,0),(1,1),(3,1),(4,1),(5,1),(6,0),(7,0),(8,3),(9,3)]<|go 2<|Qn (Zx 4 [] (Oj Mm)) λg k=>Qn (Zx 5 [] (Oj Mm)) λh c=>Qn (Zx 6 [4,5] (Zfy ‹_› ‹_›)) λi d=>Qn (Zx 6 [6] (Ht ‹_›)) λ_ _=>go 7 ?_;exact Oy a () results179 J aA Za
theorem Ycq(p:bl x.natAbs<=65536)(q:bl y.natAbs<=65536):Xk prog 359 #[wv x,wv y] [] (Zb9 (x-y)):=by refine Zd func359 ntmps359 λs r o a=>?_;have m:=Zjc x y;have l:=Zwr y;refine go 2<|Zz (Zu 1) λb _=>Zz (Zu 2) λf _=>Zz (Zw 3) λh _=>go 8 ?_;refine cl 3 [] (Ic ‹_› ‹_›) λ_ _=>go 7<|Ph (λ_=>False) [(0,0),(2,0),(1,1),(3,1),(4,1),(5,1),(6,1),(7,0),(8,0),(9,3),(10,3)]<|go 2<|Qn (Zx 4 [] (Oj Mm)) λg n=>Qn (Zx 5 [] (Oj Mm)) λi c=>Qn (Zx 6 [5] (Zoz ‹_›)) λj d=>Qn (Zx 7 [4,6] (Zfy ‹_› ‹_›)) λk e=>Qn (Zx 7 [7] (Ht ‹_› (by rw [<-dE];omega))) λ_ _=>go 7 ?_;exact Oy a () results359 (by rw [dE]<;>rfl) aA Za
theorem Zjf(x y:Int)(m:bl x.natAbs<=65536)(n:bl y.natAbs<=65536):Xk prog 268 #[wv x,wv y] [] (Zb9 (x*y)):=by refine Zd func268 ntmps268 λp o l a=>?_;have j:=Xq x y;refine go 2<|Zz (Zu 1) λb _=>Zz (Zu 2) λe _=>Zz (Zw 3) λf _=>go 8 ?_;refine cl 3 [] (Ic ‹_› ‹_›) λ_ _=>go 7<|Ph (λ_=>False) [(0,0),(2,0),(1,1),(3,1),(4,1),(5,1),(6,0),(7,0),(8,3),(9,3)]<|go 2<|Qn (Zx 4 [] (Oj Mm)) λg k=>Qn (Zx 5 [] (Oj Mm)) λh c=>Qn (Zx 6 [4,5] (Zdo ‹_› ‹_›)) λi d=>Qn (Zx 6 [6] (Ht ‹_›)) λ_ _=>go 7 ?_;exact Oy a () results268 J aA Za
theorem Zq0(x y:Int)(j:bl x.natAbs<=65536)(k:bl y.natAbs<=65536):Xk prog 231 #[wv x,wv y] [] (Zb9 (Int.gcd x y:Int)):=by refine Zd func231 ntmps231 λm l i c=>?_;have h:=Zqm x.natAbs y.natAbs;refine go 2<|Zz (Zu 1) λb _=>Zz (Zu 2) λd _=>Zz (Zw 3) λe _=>go 8 ?_;refine cl 3 [] (Ic ‹_› ‹_›) λ_ _=>go 7<|Ph (λ_=>False) [(0,0),(1,0),(3,0),(4,0),(2,1),(5,1),(6,1),(7,0),(8,1),(9,0),(10,0),(11,3),(12,3)]<|go 4<|Qn (Zx 4 [] Zdf) λv _=>Qn (Zx 5 [] Zdf) λf _=>Qn (Zx 6 [4,5] Zo5) λg _=>?_;refine Qd J J (Pt (Xt [(0,_),(1,_)] J K4 (λa w hs=>Kp ((Zl J) a w hs) ((Om 6 J Zk) a w hs))))<|Qn (Zx 6 [6] (Ht (s:=false) (x:=(Int.gcd x y:Int)) (by simp [sg]) (by show bl (Nat.gcd x.natAbs y.natAbs)<=_;omega))) λ_ _=>go 7 ?_;exact Oy c () results231 J aA Za
theorem Bi(I:bl x.natAbs<=65536)(M:bl y.natAbs<=65536)(c:y≠0):Xk prog 178 #[wv x,wv y] [] (.tuple #[wv (Bw (x/y)),wv (Bw (x%y)),.int .i64 0]):=by
 refine Zd func178 ntmps178 λR Q z d=>?_;have F:=Zjd x y;have p:=Yac x y c;refine go 2<|Zz (Zu 1) λb _=>Zz (Zu 2) λh _=>Zz (Zw 3) λj _=>Zz (Zw 4) λk _=>go 8 ?_;refine cl 4 [] (Ic ‹_› ‹_›) λ_ _=>go 11 ?_;refine dt (Zwb J J J J)<|go 2 ?_;refine Zc J (λa=>?_) (λa=>?_)
 .rw [Fk]at a;exfalso;exact c (by have:=(Nu (by omega:2<=256) y.natAbs).1 a;omega)
 .refine go 2 ?_;refine jn (G:=Bool×Value×Value×Nat×Nat) [4,5] [0,1,2,3,4] (λq=>[(7,.pointer (some ⟨q.2.2.2.1,0,none⟩)),(8,.pointer (some ⟨q.2.2.2.2,0,none⟩))]) (λq=>[(84,Eu q.2.1 (x/y).natAbs),(85,Eu q.2.2.1 (x%y).natAbs),(86,box q.2.2.2.1 272 #[.bool q.1,q.2.1]),(87,box q.2.2.2.2 272 #[.bool false,q.2.2.1])]) (λq=>sg q.1 (x/y)) ?_ ?_
  .refine Ni [1,2] [11]<|Zv 10 [(0,0),(2,0)]<|go 3 ?_
   repeat' first|refine bq 1 ?_;refine Iz (Zx 81 [] (Oj Mm)) λg H=>?_|refine bq 3 ?_;refine Iz (Zx 82 [] (Oj Mm)) λn e=>?_|refine bq 4 ?_;refine Iz (Zx 84 [81,82] (Zfx _ _ ‹_› ‹_› O c)) λo f=>?_|refine bq 8 ?_;refine Iz (Nx 86) λl r=>?_|refine bq 9 ?_;refine Iz (Nx 87) λm s=>?_|refine bq 10 ?_;refine Zag rfl rfl (t_stw (i:=86) rfl rfl rfl rfl rfl rfl sizeOf272 rfl rfl ⟨Zl rfl,Om 84 rfl Zk,aA⟩ rfl z.h r.h) (λ_ _=>?_)|refine a_b3 1 8 9 O7 ?_ ?_ ?_|refine Zw6 1 8 O7 ?_ ?_|refine Yck 1 O7 ?_|refine Yck 3 O7 ?_|refine Yck 4 O7 ?_|refine Yck 10 O7 ?_|refine Zw6 3 8 O7 ?_ ?_|refine Zw6 4 8 O7 ?_ ?_|refine Yck 8 O7 ?_|refine Zw6 1 9 O7 ?_ ?_|refine Zw6 3 9 O7 ?_ ?_|refine Zw6 4 9 O7 ?_ ?_|refine Yck 9 O7 ?_|refine a_b3 3 8 9 O7 ?_ ?_ ?_|refine a_b3 4 8 9 O7 ?_ ?_ ?_|refine Zw6 8 9 O7 ?_ ?_|refine Yal 5 0 O7 ?_;refine go 2 ?_|refine Yal 6 0 O7 ?_;refine go 2 ?_|refine Yal 7 0 O7 ?_;refine go 2 ?_|refine Yal 11 3 O7 ?_;refine go 2 ?_|refine Ys ?_ O7;exact Gd (_,_,_,_,_) ‹_› ⟨rfl,rfl,aA⟩ ⟨rfl,rfl,rfl,rfl,aA⟩
  .rintro⟨N,qv,P,B,D⟩ w;dsimp only at w;dsimp only;refine go 3 ?_;refine cl 4 [84] (Ht ‹_›) λ_ _=>go 9 ?_;refine cl 4 [85] (Ht (Yko x c)) λ_ _=>go 7<|Ni [4] [3,4] ?_;refine Zv 0 [(1,0),(0,1),(2,1),(3,3),(4,3)]<|go 6 ?_;exact Ys<|go 2<|xe3 d () results178 J aA Za
theorem Zb8{s t:Bool}{w:Value}(hs:sg s x)(m:sg t y)(k:y≠0)(Y:bl x.natAbs<=1000000000:=by omega)(Z:bl y.natAbs<=1000000000:=by omega):Xk prog 269 #[.agg #[.bool s,v],.agg #[.bool t,w]] [Eu v x.natAbs,Eu w y.natAbs] (Zbm x y):=by
 refine Zd func269 ntmps269 λw0 sc W c=>?_;have S:=Zqm x.natAbs y.natAbs;have e:Mp x y≠0:=Zyt k;have h:sg t (Mp x y):=Ykm m k;have f:=Zco x y;have P:=Zjd x (Mp x y);have Q:=Zjd y (Mp x y);refine go 2<|Zz (Zu 3) λb _=>Zz (Zu 4) λq _=>Zz (Zw 5) λr _=>go 4<|Zad (λ_=>False) [9] ?_;refine Zv 4 [(0,0),(1,0),(2,0),(3,0),(4,0),(5,0)]<|go 7 ?_;refine Np 3 6 8 ?_ ?_
 .refine Iz (Zx 81 [1,2] Zo5) λv _=>?_;refine Zv 0 [(7,0),(8,1),(9,3)]<|Qd J J (Pt (Xt [(0,_),(1,_)] J K4 (λa w hs=>Kp ((Zl J) a w hs) ((Om 81 J Zk) a w hs))))<|Qn (Zw 82) λz _=>go 2 ?_;refine Ys<|go 2<|Zr (Qb 81 (Zys x y) J J)<|go 3 ?_;refine cl 6 [1,81] (Zfx x (Mp x y) hs h (by rw [f];omega) e) λg V=>go 10 ?_;refine cl 8 [2,81] (Zfx y (Mp x y) m h (by rw [f];omega) e) λI n=>go 9 ?_;refine cl 9 [6] (Ht ‹_›) λ_ _=>go 3<|Zz (Zw 10) λB _=>go 7 ?_;refine cl 10 [8] (Ht ‹_›) λ_ _=>go 3<|Zz (Zw 11) λD _=>go 10<|Zj 43 J (λl=>?_) (λl=>?_)
  .refine go 8 ?_;refine dt (Xt [] J aA (λa w hs=>Zue))<|go 6 ?_;exact Oy c () results269 (Zbl (by unfold La;first|exact .inl (Zab ‹_›)|exact .inr (Zab ‹_›))) aA Za
  .refine go 5<|Zc J (λj=>?_) (λj=>?_)
   .refine go 2 ?_;refine dt (Xt [] J aA (λa w hs=>Zue))<|go 6 ?_;exact Oy c () results269 (Zbl (by unfold La;first|exact .inl (Zab ‹_›)|exact .inr (Zab ‹_›))) aA Za
   .refine go 6 ?_;refine dt (Xt [(0,_),(1,_)] J K4 (λa w hs=>Zgp))<|go 5 ?_;exact Oy c () results269 (Zr1 (cM ‹_›) (cM ‹_›)) aA Za
 .refine Iz (Zw 82) λF _=>?_;refine Zv 0 [(6,1),(7,0),(9,3)]<|Qn (Zx 81 [1,2] Zo5) λR _=>?_;refine Qd J J (Pt (Xt [(0,_),(1,_)] J K4 (λa w hs=>Kp ((Zl J) a w hs) ((Om 81 J Zk) a w hs))))<|go 2 ?_;refine Ys<|go 2<|Zr (Qb 81 (Zys x y) J J)<|go 3 ?_;refine cl 12 [1,81] (Zfx x (Mp x y) hs h (by rw [f];omega) e) λM o=>go 10 ?_;refine cl 14 [2,81] (Zfx y (Mp x y) m h (by rw [f];omega) e) λN p=>go 9 ?_;refine cl 15 [12] (Ht ‹_›) λ_ _=>go 3<|Zz (Zw 16) λG _=>go 7 ?_;refine cl 16 [14] (Ht ‹_›) λ_ _=>go 3<|Zz (Zw 17) λH _=>go 10<|Zj 43 J (λi=>?_) (λi=>?_)
  .refine go 8 ?_;refine dt (Xt [] J aA (λa w hs=>Zue))<|go 6 ?_;exact Oy c () results269 (Zbl (by unfold La;first|exact .inl (Zab ‹_›)|exact .inr (Zab ‹_›))) aA Za
  .refine go 5<|Zc J (λd=>?_) (λd=>?_)
   .refine go 2 ?_;refine dt (Xt [] J aA (λa w hs=>Zue))<|go 6 ?_;exact Oy c () results269 (Zbl (by unfold La;first|exact .inl (Zab ‹_›)|exact .inr (Zab ‹_›))) aA Za
   .refine go 6 ?_;refine dt (Xt [(0,_),(1,_)] J K4 (λa w hs=>Zgp))<|go 5 ?_;exact Oy c () results269 (Zr1 (cM ‹_›) (cM ‹_›)) aA Za
theorem Dd(x y:Int)(l:bl x.natAbs<=65536)(m:bl y.natAbs<=65536)(c:y≠0):Xk prog 199 #[wv x,wv y] [] (Zbm x y):=by
 refine Zd func199 ntmps199 λo n k d=>go 2 ?_;refine Zz (Zu 1) λb _=>Zz (Zu 2) λf _=>Zz (Zw 3) λh _=>go 8 ?_;refine cl 3 [] (Ic ‹_› ‹_›) λ_ _=>go 11 ?_;refine dt (Zwb J J J J)<|go 2 ?_;refine Zc J (λa=>?_) (λa=>?_)
 .rw [Fk]at a;exfalso;exact c (by have:=(Nu (by omega:2<=256) y.natAbs).1 a;omega)
 .refine go 3<|Ph (λ_=>False) [(0,0),(2,0),(1,1),(3,1),(4,1),(5,0),(6,0),(7,3),(8,3)]<|go 2<|Qn (Zx 4 [] (Oj Mm)) λg j=>Qn (Zx 5 [] (Oj Mm)) λi e=>Qn (Zx 5 [4,5] (Zb8 ‹_› ‹_› c)) λ_ _=>go 7 ?_;exact Oy d () results199 J aA Za
theorem Cj{s:ByteArray}{c:Bool}{t:ByteArray}:Xk prog 198 #[.agg #[.bool b,.string s,.bool c,.string t]] [] (.bool (okR b s c t)):=by
 refine Zd func198 ntmps198 λl k j g=>go 2 ?_;refine Zz (Zu 1) λb _=>go 9 ?_;refine cl 1 [] (Zme _ _ _ _) λ_ _=>go 1<|Xx 8 J (λh=>?_) (λh=>?_)
 .have i:okW c t=true:=by simp_all
  have d:=Zox i;obtain⟨a,e,f⟩:=Classical.choose_spec d;generalize Classical.choose d=z at a e f ⊢;subst e;subst f
  try clear d
  refine go 2 ?_;refine Lh 1 [] (Iw (x:=z) a) λ_ _=>go 6 ?_;exact Yx g () results198 (by first|rw [Zsd (by simp_all) a]|(unfold okR;simp_all)) aA Za
 .refine go 9 ?_;exact Yx g () results198 (by first|rw [Zsd (by simp_all) a]|(unfold okR;simp_all)) aA Za
def Oh(x y:Int)(c:bl x.natAbs<=65536)(d:bl y.natAbs<=65536)(a:0<y):Cal prog 198 #[rX x y] [] false (G:=Unit) (λ_=>True) (λ_=> .bool true) (λ_=>[]):=okR_wv c d a▸Cj
theorem Zn(x:Int)(f:Mw x:=by exact⟨O,O⟩):Xk prog 99 #[.int .i64 x] [] (wv x):=by
 refine Zd func99 ntmps99 λm l h e=>?_;have i:=f.1;have j:=f.2;have d:x.natAbs<U:=by simp only [U];omega
 have k:bl x.natAbs<=64:=(Qt 64 _).2 (by rw [<-Yjf];exact d);refine go 2<|Zz (Zw 1) λb _=>go 5 ?_;refine dt (Ym7 (r:=x%18446744073709551616) J J uT3 Zar J)<|go 3 ?_;refine jn (G:=Unit) [0,2] [0,1] (λ_=>[(3,.int .u64 ((x.natAbs:Nat):Int))]) (λ_=>[]) (λ_=>True) ?_ ?_
 .refine go 6<|Zc J (λc=>?_) (λc=>?_)
  .refine go 2 ?_;refine dt (Yc1 x.natAbs J J O)<|go 2 ?_;exact Gd () aA ⟨by first|rfl|(rw [show x%18446744073709551616=((x.natAbs:Nat):Int) by omega];rfl),aA⟩ aA
  .refine go 1 ?_;exact Gd () aA ⟨by first|rfl|(rw [show x%18446744073709551616=((x.natAbs:Nat):Int) by omega];rfl),aA⟩ aA
 .rintro _ -;refine go 5 ?_;refine tt (Oe [(0,_)] 2 (enc:=Md) [x.natAbs] J J K2 Po ti125 J J J J J pU.cells J J h.h) λv _=>cl 2 [2] Pu λ_ _=>?_;refine Nm (Zj4 2 J J pU)<|Nm (Yd9 2 (Zgv d) J J)<|dt (Xt [(0,_),(1,_)] J K4 (λa w hs=>Kp ((Zl J) a w hs) ((Om 2 J (Yp pU)) a w hs)))<|cl 2 [2] (Ht (x:=x) Mm) λ_ _=>go 3 ?_;refine Zz (Zw 3) λg _=>go 11 ?_;exact Yx e () results99 (by rw [Nj O]<;>rfl) aA Za
theorem Zdk(hs:Sz 65536 xs):Cal prog 233 #[v] [Yt 2 wv v xs] true (G:=Unit) (λ_=>True) (λ_=>Gi v (tzl xs).length) (λ_=>[Yt 2 wv (Gi v (tzl xs).length) (tzl xs)]):=by
 refine Zd func233 ntmps233 λp o n d=>?_;refine Li (Yha (i:=1) J Zk) (λa=>?_);refine Li (Ez (i:=1) J Zk) λm=>go 7 ?_;refine lp (G:=Nat) [] [0] (λk=>[(0,Gi v k)]) (λk=>[(1,Yt 2 wv (Gi v k) (xs.take k))]) (λk=>(k<=xs.length)/\(tzl (xs.take k)=tzl xs)) (λk=>k) xs.length ⟨aI _,by rw [bT]⟩ ⟨by rw [a];rfl,aA⟩ ⟨by rw [a,bT];rfl,aA⟩ ?_;rintro k ⟨h,j⟩;have f:(xs.take k).length=k:=by rw [aS];omega
 refine go 7<|Zj 6 J (λl=>?_) (λl=>?_)
 .refine go 4 ⟨O,?_⟩;refine Gl (Yn 1 (k-1) J J J J Zk Pe Oa) J J<|go 1 ⟨O,?_⟩;refine Lh 1 [] (Iw ((hs.take _).getD _)) λ_ _=>go 4<|Zc J (λg=>?_) (λg=>?_)
  .have c:=Yc2 h O (Zuu (k:=k) O (gT.1 ‹_›):cf xs (k-1)=0);refine go 8 ⟨O,?_⟩;refine dt (d_pre 1 (i:=k-1) J J J J Zk Pe Oa)<|go 3 ?_;exact Xg (s_pre 1 1 (k-1) J J)<|Ym (k-1) ⟨O1,by rw [<-j,<-c]⟩ O1 ⟨by rw [<-Zdj v k (k-1)];rfl,aA⟩ ⟨by rw [Zdj,kA,dY O];rfl,aA⟩
  .refine go 12 ?_;have e:tzl xs=xs.take k:=by rw [<-j];exact Zq6 h (by first|(left;omega)|(right;exact Zq7 k O ‹_›))
   exact Yx d () results233 (by rw [e,f]) aA (Kf 1 Za (by rw [e,f]))
 .refine go 24 ?_;have e:tzl xs=xs.take k:=by rw [<-j];exact Zq6 h (by first|(left;omega)|(right;exact Zq7 k O ‹_›))
  exact Yx d () results233 (by rw [e,f]) aA (Kf 1 Za (by rw [e,f]))
theorem Zvd(v:Value)(r:List (Bool×ByteArray)):Xk prog 234 #[v] [Yt 2 Yhh v r] (.bool (okP r)):=by
 refine Zd func234 ntmps234 λz s p a=>?_;refine Li (Ez (i:=1) J Zk) λg=>go 14 ?_;refine lp (G:=Nat) [0,5,6] [0,1] (λk=>[(7,.int .i64 (k:Int))]) (λk=>[]) (λk=>(k<=r.length)/\((r.take k).all (λw=>okW w.1 w.2)=true)) (λk=>r.length-k) 0 ⟨O1,O8⟩ K1 aA ?_;rintro k ⟨o,l⟩;refine go 6<|Zc J (λj=>?_) (λj=>?_)
 .refine go 7 ⟨O2,?_⟩;refine dt (Og 1 (false,⟨#[]⟩) J J J Zk pW O2)<|Zz (Zw 2) λb _=>go 6 ?_;refine cl 2 [] Zbf λ_ _=>go 3<|Yq J (λf=>?_) (λf=>?_)
  .refine go 11 ?_;exact Yx a () results234 (by rw [Ylk (Zi (i:=k) (d:=(false,⟨#[]⟩))) (by simp_all)]) aA Za
  .refine go 7 ⟨O,?_⟩;exact Ym (k+1) ⟨O1,by rw [Ps (false,⟨#[]⟩) _ _ O,List.all_append,l];simpa using f⟩ O1 K1 aA
 .refine go 6 ?_;obtain rfl:k=r.length:=O;rw [bT]at l;obtain⟨xs,c,rfl⟩:=Zsc (bF.1 l);have m:=Sz.of_mem c;rw [aW]at g;refine Zr (Zof 1 (q:=Yt 2 wv v xs) J J (Ykj v xs) (λ_ h=>fpn h) J)<|go 5<|Zj 18 J (λn=>?_) (λn=>?_)
  .refine go 4<|Zj 22 J (λe=>?_) (λe=>?_)
   .refine go 14 ?_;exact Yx a () results234 (by rw [Zoy c];first|(simp_all;done)|(simp_all;omega)) aA Za
   .refine go 4 ⟨O,?_⟩;refine Gl (Yn 1 (xs.length-1) J J J J Zk Pe Oa) J J<|go 1 ⟨O,?_⟩;refine Lh 2 [] (Iw (m.getD _)) λ_ _=>go 7 ?_;exact Yx a () results234 (by rw [Zoy c];first|(simp_all;done)|(simp_all;omega)) aA Za
  .refine go 18 ?_;exact Yx a () results234 (by rw [Zoy c];first|(simp_all;done)|(simp_all;omega)) aA Za
def Xi(h:Vp xs):Cal prog 234 #[v] [Yt 2 wv v xs] false (G:=Unit) (λ_=>True) (λ_=> .bool true) (λ_=>[]):=okP_wr h▸(Zvd v (xs.map wr)).imp (slp_wr v xs) (λ_ h=>fpm h)
theorem Ns(hs:Sz 65536 xs):Xk prog 236 #[v] [Yt 2 wv v xs] (.int .i64 (Qz xs:Int)):=by
 refine Zd func236 ntmps236 λh g f c=>?_;refine Li (Ez (i:=1) J Zk) λd=>go 19 ?_;refine lp (G:=Nat) [6,7] [0,1] (λk=>[(8,.int .i64 (k:Int)),(3,.int .i64 (Qz (xs.take k):Int))]) (λk=>[]) (λk=>k<=xs.length) (λk=>xs.length-k) 0 O1 K2 aA ?_;rintro k e;refine go 6<|Zc J (λa=>?_) (λa=>?_)
 .refine go 8 ⟨O2,O2,?_⟩;refine Zz (Zw 2) λb _=>go 6 ?_;refine cl 2 [] (Zjg (hs.getD _)) λ_ _=>?_;refine dt (Zb5 J J J)<|go 8 ⟨O,?_⟩;exact Ym (k+1) O1 O1 ⟨J,by rw [Ps 0 _ _ O,Yfl];exact aL some (Yf6 O),aA⟩ aA
 .refine go 12 ?_;exact Yx c () results236 (by rw [cC O]) aA Za
theorem Zps{e f:Int}{n:Bool}{s:ByteArray}:Zdd prog 299 #[.pointer (some ⟨bd,0,none⟩),.agg #[.bool n,.string s],.int .i64 f] [] false bd t #[.int .i64 e] (G:=Unit) (λ_=>True) (λ_=> .agg #[.bool n,.string s]) (λ_=>#[.int .i64 (if e=0 then f else e)]) (λ_=>[]):=by
 refine Eo func299 J ntmps299 J aA ?_;intro j i g c;have g:=Hw.mk g;simp only [Qf,Yg];refine go 2<|Zz (Zu 2) λb _=>Zz (Zw 3) λh _=>go 12<|Zc J (λd=>?_) (λd=>?_)
 .refine go 15 ?_;exact Dc (.inl J) c () (λa w hs=>Fd hs results299 (Gx 3 J J isAgg176 Oa J)) J aA 1 J (by simp_all [Gr]) J J Za
 .refine go 9 ?_;exact Dc (.inl J) c () (λa w hs=>Fd hs results299 (Gx 3 J J isAgg176 Oa J)) J aA 1 J (by simp_all [Gr]) J J Za
theorem d_mul_(bd:Nat)(e x y:Int)(h:bl x.natAbs<=65536)(i:bl y.natAbs<=65536):Zdd prog 237 #[.pointer (some ⟨bd,0,none⟩),wv x,wv y] [] false bd 347 #[.int .i64 e] (G:=Unit) (λ_=>True) (λ_=>wv (Bw (x*y))) (λ_=>#[.int .i64 (err e (x*y))]) (λ_=>[]):=by refine Eo func237 J ntmps237 J aA ?_;intro k j d c;have d:=Hw.mk d;simp only [Qf,Yg];refine go 2<|Zz (Zu 2) λb _=>Zz (Zu 3) λf _=>Zz (Zw 4) λg _=>go 3<|Ph (λx=>x=bd) [(0,0),(1,0),(2,0),(3,0),(4,0),(5,1),(6,0),(7,0),(8,1),(9,3)]<|go 5<|Qn (Zx 4 [] (Zjf _ _ ‹_› ‹_›)) λ_ _=>go 2 ?_;refine Bp J (Qm 4 1 Zps J J J K3 call299 J O3 Zs J d.h J) λ_ _=>go 4 ?_;exact Dc (.inl J) c () (λa w hs=>Fd hs results237 (Gx 4 J J isAgg176 Oa J)) J aA 1 J J J J Za
theorem Dk(c:bl x.natAbs<=65536)(d:bl y.natAbs<=65536)(a:bl (x*y).natAbs<=65536):Zdd prog 237 #[.pointer (some ⟨bd,0,none⟩),wv x,wv y] [] false bd 347 #[.int .i64 0] (G:=Unit) (λ_=>True) (λ_=>wv (x*y)) (λ_=>#[.int .i64 0]) (λ_=>[]):=by have h:=d_mul_ bd 0 x y c d;rw [Nj a,Zv1 a]at h;exact h
theorem d_add_(bd:Nat)(e x y:Int)(h:bl x.natAbs<=65536)(i:bl y.natAbs<=65536):Zdd prog 238 #[.pointer (some ⟨bd,0,none⟩),wv x,wv y] [] false bd 347 #[.int .i64 e] (G:=Unit) (λ_=>True) (λ_=>wv (Bw (x+y))) (λ_=>#[.int .i64 (err e (x+y))]) (λ_=>[]):=by refine Eo func238 J ntmps238 J aA ?_;intro k j d c;have d:=Hw.mk d;simp only [Qf,Yg];refine go 2<|Zz (Zu 2) λb _=>Zz (Zu 3) λf _=>Zz (Zw 4) λg _=>go 3<|Ph (λx=>x=bd) [(0,0),(1,0),(2,0),(3,0),(4,0),(5,1),(6,0),(7,0),(8,1),(9,3)]<|go 5<|Qn (Zx 4 [] (Zq1 ‹_› ‹_›)) λ_ _=>go 2 ?_;refine Bp J (Qm 4 1 Zps J J J K3 call299 J O3 Zs J d.h J) λ_ _=>go 4 ?_;exact Dc (.inl J) c () (λa w hs=>Fd hs results238 (Gx 4 J J isAgg176 Oa J)) J aA 1 J J J J Za
theorem Zll(c:bl x.natAbs<=65536)(d:bl y.natAbs<=65536)(a:bl (x+y).natAbs<=65536):Zdd prog 238 #[.pointer (some ⟨bd,0,none⟩),wv x,wv y] [] false bd 347 #[.int .i64 0] (G:=Unit) (λ_=>True) (λ_=>wv (x+y)) (λ_=>#[.int .i64 0]) (λ_=>[]):=by have h:=d_add_ bd 0 x y c d;rw [Nj a,Zv1 a]at h;exact h
theorem d_sub_(bd:Nat)(e x y:Int)(h:bl x.natAbs<=65536)(i:bl y.natAbs<=65536):Zdd prog 330 #[.pointer (some ⟨bd,0,none⟩),wv x,wv y] [] false bd 347 #[.int .i64 e] (G:=Unit) (λ_=>True) (λ_=>wv (Bw (x-y))) (λ_=>#[.int .i64 (err e (x-y))]) (λ_=>[]):=by refine Eo func330 J ntmps330 J aA ?_;intro k j d c;have d:=Hw.mk d;simp only [Qf,Yg];refine go 2<|Zz (Zu 2) λb _=>Zz (Zu 3) λf _=>Zz (Zw 4) λg _=>go 3<|Ph (λx=>x=bd) [(0,0),(1,0),(2,0),(3,0),(4,0),(5,1),(6,0),(7,0),(8,1),(9,3)]<|go 5<|Qn (Zx 4 [] (Ycq ‹_› ‹_›)) λ_ _=>go 2 ?_;refine Bp J (Qm 4 1 Zps J J J K3 call299 J O3 Zs J d.h J) λ_ _=>go 4 ?_;exact Dc (.inl J) c () (λa w hs=>Fd hs results330 (Gx 4 J J isAgg176 Oa J)) J aA 1 J J J J Za
theorem Zv8(c:bl x.natAbs<=65536)(d:bl y.natAbs<=65536)(a:bl (x-y).natAbs<=65536):Zdd prog 330 #[.pointer (some ⟨bd,0,none⟩),wv x,wv y] [] false bd 347 #[.int .i64 0] (G:=Unit) (λ_=>True) (λ_=>wv (x-y)) (λ_=>#[.int .i64 0]) (λ_=>[]):=by have h:=d_sub_ bd 0 x y c d;rw [Nj a,Zv1 a]at h;exact h
theorem Yhz(hs:Sz 65536 xs):Cal prog 239 #[.pointer (some ⟨bd,0,none⟩),v] [Nb bd 347 #[.int .i64 0],Yt 2 wv v xs] true (G:=Unit) (λ_=>True) (λ_=> .tuple #[Gi v (tzl xs).length,.int .i64 0]) (λ_=>[Yt 2 wv (Gi v (tzl xs).length) (tzl xs)]):=by
 refine Zd func239 ntmps239 λf e d c=>go 17 ?_;refine Zc J (λa=>?_) (λa=>?_)
 .exfalso;simp_all
 .refine go 5 ?_;refine cl 3 [2] (Zdk ‹_›) λ_ _=>go 5 ?_;exact Oy c () results239 J aA (Kf 3 Za)
theorem Kc(c:Int)(g:Vp xs)(m:bl c.natAbs<=65536)(h:∀i,bl (cf xs i*c).natAbs<=65536):Cal prog 170 #[v,wv c] [Yt 2 wv v xs] true (G:=Value) (λr=>True) (λr=> .tuple #[r,.int .i64 0]) (λr=>[Yt 2 wv r (Yk xs c)]):=by
 refine Zd func170 ntmps170 λp o e d=>?_;have f:=g.len;refine go 2<|Zz (Zu 2) λb _=>go 8 ?_;refine cl 2 [1] (Xi ‹_›) λ_ _=>go 3 ?_;refine Lh 2 [] (Lz ‹_›) λ_ _=>go 9<|Zz (Zw 3) λj _=>go 6 ?_;refine tt (Ew 4 _ 24 (enc:=wv) 0 J J J J Pe ti176 J pV.cells pV.pos J J J e.h J J) λv _=>go 12 ?_;refine lp (G:=Nat) [3,6,7,21,22] [0,1,2,3] (λk=>[(23,.int .i64 (k:Int))]) (λk=>[(4,On 2 176 wv v (fill xs.length k (λi=>cf xs i*c)))]) (λk=>k<=xs.length) (λk=>xs.length-k) 0 O1 K1 ⟨by rw [Bh xs.length (λi=>cf xs i*c)];rfl,aA⟩ ?_;rintro k n;refine go 6<|Zc J (λa=>?_) (λa=>?_)
 .refine go 9 ⟨O2,O2,?_⟩;refine Zz (Zw 5) λl _=>go 9 ?_;refine tt (Qm 5 3 (Dk (g.sz.getD _) m (h _)) J J J K3 call237 J O3 Zs J e.h aA) (λ_ _=>?_);refine dt (Yn 4 k J J J J (Yp pV) Pe Oa J (by rw [Pa];omega))<|tt (Lo 4 (enc:=wv) J J J J J J pV J e.h O3 (by rw [Pa];omega)) (λ_ _=>?_);refine go 7 ⟨O,?_⟩;exact Ym (k+1) O1 O1 K1 ⟨by rw [<-Zcu O];rfl,aA⟩
 .refine go 6 ?_;obtain rfl:k=xs.length:=O;refine Zr (Nc 4 J J pV)<|Zr (Zcg 3 J J)<|go 2 ?_;refine cl 6 [3,4] (Yhz (by rw [Ei];exact Zf1 λi _=>h i)) λ_ _=>go 7 ?_;exact Oy d _ results170 J aA (Kf 6 Za (by rw [Ya8]<;>rfl))
theorem Au(e:Vp xs)(h:∀i,bl (cf xs (i+1)*((i:Int)+1)).natAbs<=65536):Cal prog 278 #[v] [Yt 2 wv v xs] true (G:=Value) (λr=>True) (λr=> .tuple #[r,.int .i64 0]) (λr=>[Yt 2 wv r (Xb xs)]):=by
 refine Zd func278 ntmps278 λo m f d=>?_;have g:=e.len;refine go 10 ?_;refine cl 1 [1] (Xi ‹_›) λ_ _=>go 14<|Zc J (λa=>?_) (λa=>?_)
 .refine go 8 ?_;exact Oy d _ results278 J aA (Lg (Ye0 O) Za)
 .refine go 4<|Zz (Zw 2) λb _=>?_;refine go 7 ⟨O,?_⟩;refine tt (Ew 3 (xs.length-1) 24 (enc:=wv) 0 J J J J Pe ti176 J pV.cells pV.pos J J J f.h) λv _=>go 12 ?_;refine lp (G:=Nat) [0,4,5,18] [0,1,2] (λk=>[(19,.int .i64 (k:Int))]) (λk=>[(3,On 2 176 wv v (fill (xs.length-1) k (λi=>cf xs (i+1)*((i:Int)+1))))]) (λk=>k<=xs.length-1) (λk=>xs.length-1-k) 0 O1 K1 ⟨by rw [Bh (xs.length-1) (λi=>cf xs (i+1)*((i:Int)+1))];rfl,aA⟩ ?_;rintro k l;have j:(fill (xs.length-1) k (λi=>cf xs (i+1)*((i:Int)+1))).length=xs.length-1:=Pa _ _ _;refine go 6<|Zc J (λc=>?_) (λc=>?_)
  .try rw [aT]at *
   refine go 10<|Ph (λx=>x=b) [(0,0),(1,0),(2,0),(3,0),(4,0),(5,0),(6,0),(7,0),(8,0),(9,1),(10,1),(11,0),(12,3)]<|go 5 ⟨O,?_⟩;refine Qd J J (st1 2 J (Yn 1 (k+1) J J J J Zk Pe Oa))<|go 3 ⟨O,O,?_⟩;refine Qn (Zx 3 [] (Zn _ (by first|assumption|exact⟨O,O⟩))) λ_ _=>?_;refine Bp J (Qm 3 2 (Dk (x:=cf xs (k+1)) (y:=((k:Int)+1)) (e.sz _) (aB (Ll (n:=32) O) O3) (h k)) J J J K3 call237 J O3 Zs J f.h J) (λ_ _=>?_);refine Qd J J (st1 2 J (Yn 3 k J J J J (Yp pV) Pe Oa J (by rw [Pa];omega)))<|r3' J (Lo 3 (enc:=wv) J J J J J J pV J f.h O3 (by rw [Pa];omega)) (λ_ _=>?_);refine go 7 ⟨O,?_⟩;exact Ym (k+1) O1 O1 K1 ⟨by rw [<-Zcu O];rfl,aA⟩
  .try rw [aT]at *
   refine go 6 ?_;obtain rfl:k=xs.length-1:=O;refine Zr (Nc 3 J J pV)<|Zr (Zcg 2 J J)<|go 2 ?_;refine cl 4 [2,3] (Yhz (by rw [Ei];exact Zf1 λi _=>h i)) λ_ _=>go 7 ?_;exact Oy d _ results278 J aA (Kf 4 Za (by rw [Yk9 e.tr]<;>rfl))
theorem Zor(j:Vp xs):Xk prog 331 #[v] [Yt 2 wv v xs] (.tuple #[wv (Xl xs),.int .i64 0]):=by
 refine Zd func331 ntmps331 λr q n i=>?_;have l:=j.len;have d:∀k,bl (Xl (xs.take k)).natAbs<=65536:=λk=>Zr9 _ (j.sz.take k);refine go 2<|Zz (Zw 2) λb _=>go 7 ?_;refine cl 2 [1] (Xi ‹_›) λ_ _=>go 8<|Zz (Zw 3) λf _=>go 4<|Zz (Zw 4) λg _=>go 11 ?_;refine lp (G:=Nat) [2,4,5,12,13] [0,1,2] (λk=>[(14,.int .i64 (k:Int))]) (λk=>[(4,box g 176 #[.bool (decide (Xl (xs.take k)<0)),.string (Xo (Xl (xs.take k)).natAbs)]),(3,box f 347 #[.int .i64 0])]) (λk=>k<=xs.length) (λk=>xs.length-k) 0 O1 K1 K2 ?_;rintro k o;have e:=λh=>Ir (p:=xs) (k:=k) h;refine go 6<|Zc J (λc=>?_) (λc=>?_)
 .refine go 8 ⟨O2,O2,?_⟩;refine Zz (Zw 5) λm _=>go 7 ?_;refine cl 5 [] (Zq0 (Xl (xs.take k)) (xs.getD k 0) (d _) (j.sz.getD _)) λ_ _=>go 2 ?_;refine tt (Qm 5 3 Zps J J J K3 call299 J O3 Zs J n.h aA) (λ_ _=>?_);refine go 8 ⟨O,?_⟩;have a:=d (k+1);rw [e O]at a;exact Ym (k+1) O1 O1 K1 ⟨by rw [e O];simp only [Nj a];rfl,by simp only [Zpl a];rfl,aA⟩
 .refine go 6<|Ni [3,4] [5] ?_;refine Zv 0 [(0,0),(1,0),(2,0),(3,0),(4,1),(5,3)]<|go 7 ?_;refine Ys<|go 2 ?_;exact Oy i () results331 (by rw [show k=xs.length by omega,bT]<;>rfl) aA Za
theorem Zmb{c:Int}(l:Sz 65536 xs)(j:xs.length<=1000)(q:bl c.natAbs<=65536)(s:∀i,c∣cf xs i)(f:xs≠[]->c≠0):Cal prog 332 #[v,wv c] [Yt 2 wv v xs] true (G:=Value) (λr=>True) (λr=> .tuple #[r,.int .i64 0]) (λr=>[Yt 2 wv r (xs.map (· / c))]):=by
 refine Zd func332 ntmps332 λB z m h=>go 2 ?_;refine Zz (Zu 2) λb _=>go 8 ?_;refine tt (Ew 3 _ 24 (enc:=wv) 0 J J J J Pe ti176 J pV.cells pV.pos J J J m.h J J) λv _=>go 12 ?_;refine lp (G:=Nat) [3,6,15,16] [0,1,2] (λk=>[(17,.int .i64 (k:Int))]) (λk=>[(3,On 2 176 wv v (fill xs.length k (λi=>cf xs i/c)))]) (λk=>k<=xs.length) (λk=>xs.length-k) 0 O1 K1 ⟨by rw [Bh xs.length (λi=>cf xs i/c)];rfl,aA⟩ ?_;rintro k w;have g:Bw (xs.getD k 0/c)=cf xs k/c:=Nj (Zbx (s k) (l k));refine go 6<|Zc J (λa=>?_) (λa=>?_)
 .refine go 9 ⟨O2,O2,?_⟩;refine Zz (Zw 4) λn _=>go 8 ?_;refine cl 4 [] (Bi (l.getD _) q (f (by intro e;rw [e]at a;simp at a;omega))) λ_ _=>go 4<|Zz (Zw 5) λo _=>Zz (Zw 6) λp _=>go 12<|Zc J (λd=>?_) (λd=>?_)
  .exfalso;simp_all
  .refine go 6 ?_;refine dt (Yn 3 k J J J J (Yp pV) Pe Oa J (by rw [Pa];omega))<|tt (Lo 3 (enc:=wv) J J J J J J pV J m.h O3 (by rw [Pa];omega)) (λ_ _=>?_);refine go 7 ⟨O,?_⟩;exact Ym (k+1) O1 O1 K1 ⟨by rw [<-Zcu O];simp only [g];rfl,aA⟩
 .refine go 13 ?_;obtain rfl:k=xs.length:=O;exact Oy h _ results332 J aA (gow 3 Za (by rw [Ei,Yfm xs (· / c)]<;>rfl))
theorem Ny(c:Vp xs):Cal prog 282 #[v] [Yt 2 wv v xs] true (G:=Value) (λr=>True) (λr=> .tuple #[r,.int .i64 0]) (λr=>[Yt 2 wv r (Yi xs)]):=by
 refine Zd func282 ntmps282 λh g f d=>?_;have e:=c.len;refine go 9 ?_;refine cl 1 [1] (Zor ‹_›) λ_ _=>go 3<|Zz (Zw 2) λb _=>go 11<|Zc J (λa=>?_) (λa=>?_)
 .exfalso;simp_all
 .refine go 6 ?_;refine cl 3 [1] (Zmb c.sz O (Zr9 _ c.sz) (Lr _) c.ne) λ_ _=>go 7 ?_;exact Oy d _ results282 J aA (Kf 3 Za J)
theorem Ybb(n:Vp xs)(S:bl x.natAbs<=65536)(hy:bl y.natAbs<=65536)(a8:0<y):Xk prog 403 #[v,rX x y] [Yt 2 wv v xs] (.tuple #[wv (evv xs x y),.int .i64 (eve xs x y)]):=by
 refine Zd func403 ntmps403 λw0 sc p o=>?_;have c:=n.len;refine go 2<|Zz (Zu 2) λb _=>Zz (Zw 3) λZ _=>go 7 ?_;refine cl 3 [1] (Xi ‹_›) λ_ _=>go 3 ?_;refine Lh 3 [] (Oh _ _ ‹_› ‹_› ‹_›) λ_ _=>go 15<|Zc J (λj=>?_) (λj=>?_)
 .refine go 2 ?_;refine dt (Xt [] J aA (λa w hs=>Yiy))<|go 6 ?_;exact Oy o () results403 (by rw [aG (l:=xs) O];rfl) aA Za
 .have M:xs≠[]:=λe=>by rw [e]at j;simp at j
  have a6:=Pz n.sz;have g:Sz 65536 [x,y]:=Sz.of_mem (by intro z V;simp at V;rcases V with rfl|rfl<;>assumption);have I:=Pz g;have a7:(xs.length-1)*Qz [x,y]<=24*65536:=aY O I;have f:((xs.length:Int)-1)*(Qz [x,y]:Int)=(((xs.length-1)*Qz [x,y]:Nat):Int):=by rw [fU];congr 1;omega
  refine go 3 ?_;refine jn (G:=Unit) [0,3,4] [0,1,2,3] (λ_=>[(37,.bool (decide ((65536:Int)<(Qz xs:Int)+((xs.length:Int)-1)*(Qz [x,y]:Int)+8)))]) (λ_=>[]) (λ_=>True) ?_ ?_
  .refine Zad (λ_=>False) []<|Zv 7 [(0,0),(2,0),(3,0),(4,0),(5,0),(6,0),(7,0),(8,0)]<|go 9 ⟨O,?_⟩;refine Np 6 1 9 ?_ ?_
   .refine Iz (Zx 3 [1] (Ns (by first|exact n.sz|exact g))) λ_ _=>?_;refine Zv 0 [(9,1),(10,1),(11,0),(12,0),(13,0),(14,0)]<|Bp J (Oe [(0,_),(1,_)] 90 (enc:=wv) [x,y] J J K4 Zxb ti176 J J J J J pV.cells J J p.h) λv _=>Qn (Zx 3 [90] (Ns (by first|exact n.sz|exact g))) λ_ _=>?_;refine go 5 ⟨by rw [f];exact⟨O,O⟩,by rw [f];exact⟨O,O⟩,by rw [f];exact⟨O,O⟩,?_⟩;exact Ys<|Gd () aA K1 aA
   .refine Zag J J (Oe [(0,_),(1,_)] 90 (enc:=wv) [x,y] J J K4 Zxb ti176 J J J J J pV.cells J J p.h) (λa9 _=>?_);refine Zv 0 [(1,1),(10,1),(11,0),(12,0),(13,0),(14,0)]<|Qn (Zx 3 [1] (Ns (by first|exact n.sz|exact g))) λ_ _=>Qn (Zx 3 [90] (Ns (by first|exact n.sz|exact g))) λ_ _=>?_;refine go 5 ⟨by rw [f];exact⟨O,O⟩,by rw [f];exact⟨O,O⟩,by rw [f];exact⟨O,O⟩,?_⟩;exact Ys<|Gd () aA K1 aA
  .rintro _ -;refine Zc J (λm=>?_) (λm=>?_)
   .have B:Kg xs x y:=⟨M,by rw [f]at m;omega⟩;refine go 2 ?_;refine dt (Xt [] J aA (λa w hs=>Yiy))<|go 6 ?_;exact Oy o () results403 (by unfold evv eve;rw [aF B,aF B]<;>rfl) aA Za
   .have i:Qz xs+(xs.length-1)*Qz [x,y]+8<=65536:=by rw [f]at m;omega
    refine go 4<|Zz (Zw 4) λH _=>go 2 ?_;refine jn (G:=Nat×Nat) [0,3,4,6] [0,1,2,3,4] (λq=>[(7,.pointer (some ⟨q.1,0,none⟩)),(8,.pointer (some ⟨q.2,0,none⟩))]) (λq=>[(97,box q.1 176 (wc (xs.getD (xs.length-1) 0))),(98,box q.2 176 (wc 1))]) (λq=>True) ?_ ?_
    .refine Zad (λ_=>False) [9,10]<|Zv 5 [(0,0),(1,0),(2,0),(3,0),(4,0),(5,0)]<|go 4 ⟨O,?_⟩;refine Qd J J (Pt (Yn 1 (xs.length-1) J J J J Zk Pe Oa))<|go 2 ⟨O,?_⟩;refine Yjd 4 6 7 8 ?_ ?_ ?_
     .refine Iz (Zx 4 [] (Zn _ (by first|assumption|exact⟨O,O⟩))) λ_ _=>?_;refine Np 3 7 8 ?_ ?_
      .refine Iz (Zw 97) λa0 _=>?_;refine Zv 0 [(8,1),(9,3),(10,3)]<|Qn (Zw 98) λa1 _=>go 3 ?_;exact Ys<|Gd (_,_) aA K2 K2
      .refine Iz (Zw 98) λa2 _=>?_;refine Zv 0 [(7,1),(9,3),(10,3)]<|Qn (Zw 97) λa3 _=>go 3 ?_;exact Ys<|Gd (_,_) aA K2 K2
     .refine Iz (Zw 97) λa4 _=>?_;refine Np 3 6 8 ?_ ?_
      .refine Iz (Zx 4 [] (Zn _ (by first|assumption|exact⟨O,O⟩))) λ_ _=>?_;refine Zv 0 [(8,1),(9,3),(10,3)]<|Qn (Zw 98) λa5 _=>go 3 ?_;exact Ys<|Gd (_,_) aA K2 K2
      .refine Iz (Zw 98) λN _=>?_;refine Zv 0 [(6,1),(9,3),(10,3)]<|Qn (Zx 4 [] (Zn _ (by first|assumption|exact⟨O,O⟩))) λ_ _=>go 3 ?_;exact Ys<|Gd (_,_) aA K2 K2
     .refine Iz (Zw 98) λP _=>?_;refine Np 3 6 7 ?_ ?_
      .refine Iz (Zx 4 [] (Zn _ (by first|assumption|exact⟨O,O⟩))) λ_ _=>?_;refine Zv 0 [(7,1),(9,3),(10,3)]<|Qn (Zw 97) λQ _=>go 3 ?_;exact Ys<|Gd (_,_) aA K2 K2
      .refine Iz (Zw 97) λR _=>?_;refine Zv 0 [(6,1),(9,3),(10,3)]<|Qn (Zx 4 [] (Zn _ (by first|assumption|exact⟨O,O⟩))) λ_ _=>go 3 ?_;exact Ys<|Gd (_,_) aA K2 K2
    .rintro⟨W,Y⟩ -;dsimp only;refine go 10 ⟨O,?_⟩;refine lp (G:=Nat) [0,3,4,6,7,8] [0,1,2,3,4] (λk=>[(9,.int .i64 ((k:Int)-1))]) (λk=>[(97,box W 176 (wc (Lf xs x y k))),(98,box Y 176 (wc (y^(xs.length-1-k))))]) (λk=>k<=xs.length-1) (λk=>k) (xs.length-1) O1 ⟨by rw [show((xs.length-1:Nat):Int)-1=(xs.length:Int)-2 by omega];rfl,aA⟩ ⟨by rw [Ymb x y O];rfl,by rw [lA,dD];rfl,aA⟩ ?_;rintro k D;refine go 7<|Zc J (λr=>?_) (λr=>?_)
     .have d:y^(xs.length-1-k)*y=y^(xs.length-1-(k-1)):=Yer y O D;have F:Lf xs x y k*x+xs.getD (k-1) 0*y^(xs.length-1-(k-1))=Lf xs x y (k-1):=Ybv x y O D;refine go 9 ?_;refine tt (Qm 4 4 (Dk (Zpu i) hy (by rw [d];exact Zpu i)) J J J K3 call237 J O3 Zs J p.h aA) λ_ _=>go 3 ?_;refine Ph (λx=>x=H) [(0,0),(1,0),(2,0),(4,0),(5,0),(6,0),(7,0),(8,0),(3,1),(9,1),(10,1),(11,3)]<|go 5 ?_;refine Qd J J (st1 4 J (Yn 1 (k-1) J J J J Zk Pe Oa))<|go 2 ⟨O,?_⟩;refine Bp J (Qm 4 4 (Dk (by first|exact Zpv i c _|exact n.sz.getD _) (by first|exact S|(rw [d];exact Zpu i)) (by first|exact Zv0 i c O D|(rw [d];exact Zpt i))) J J J K3 call237 J O3 Zs J p.h J) (λ_ _=>?_);refine Bp J (Qm 4 4 (Dk (by first|exact Zpv i c _|exact n.sz.getD _) (by first|exact S|(rw [d];exact Zpu i)) (by first|exact Zv0 i c O D|(rw [d];exact Zpt i))) J J J K3 call237 J O3 Zs J p.h J) (λ_ _=>?_);refine Bp J (Qm 4 4 (Zll (Zv0 i c O D) (by rw [d];exact Zpt i) (by rw [d,F];exact Zpv i c _)) J J J K3 call238 J O3 Zs J p.h J) (λ_ _=>?_);refine go 9 ⟨O,?_⟩;exact Ym (k-1) O1 O1 ⟨by rw [show((k-1:Nat):Int)-1=(k:Int)-1-1 by omega];rfl,aA⟩ ⟨by rw [d,F];rfl,by rw [d];rfl,aA⟩
     .refine go 14<|Zc J (λs=>?_) (λs=>?_)
      .exfalso;simp_all
      .refine go 10 ?_;obtain rfl:k=0:=O;have B:¬Kg xs x y:=λh=>by have:=h.2;omega
       exact Oy o () results403 (by unfold evv eve;rw [aD B,aD B,<-Zsy]<;>rfl) aA Za
theorem Zr5(e:Vp xs)(g:bl x.natAbs<=65536)(h:bl y.natAbs<=65536)(d:0<y):Xk prog 378 #[v,rX x y] [Yt 2 wv v xs] (.tuple #[.int .i64 (evv xs x y).sign,.int .i64 (eve xs x y)]):=by refine Zd func378 ntmps378 λk j i c=>?_;have a:=e.len;refine go 2<|Zz (Zu 2) λb _=>go 8 ?_;refine cl 2 [1] (Ybb e g h d) λ_ _=>go 3<|Zz (Zw 3) λf _=>go 7 ?_;refine cl 3 [] (Iw (evv_bl a)) λ_ _=>go 6 ?_;exact Oy c () results378 J aA Za
theorem Za6(hs:Sz 65536 xs):Zdd prog 239 #[.pointer (some ⟨bd,0,none⟩),v] [Yt 2 wv v xs] true bd 347 #[.int .i64 0] (G:=Unit) (λ_=>True) (λ_=> .tuple #[Gi v (tzl xs).length,.int .i64 0]) (λ_=>#[.int .i64 0]) (λ_=>[Yt 2 wv (Gi v (tzl xs).length) (tzl xs)]):=by
 refine Eo func239 J ntmps239 J K1 ?_;intro g f e d;have e:=Hw.mk e;simp only [Qf,Yg];refine go 17<|Zc J (λc=>?_) (λc=>?_)
 .exfalso;simp_all
 .refine go 5 ?_;refine cl 3 [2] (Zdk ‹_›) λ_ _=>go 5 ?_;exact Dc (.inl J) d () (λa w hs=>Zva hs results239 J J) J aA 1 J J J J (Gk 3 J J J Za)
theorem Zz1(h:xs.length*24<=140737488355328:=by omega):Yjp prog 400 #[v] [Yt 2 wv v xs] (G:=Value) (λr=>True) (λr=>r) (λr=>On 2 176 wv r xs):=by
 refine Zqg func400 J ntmps400 J K1 ?_;intro k j e f;have e:=Hw.mk e;simp only [Qf,Yg];refine Li (Yhb (i:=1) J Zk) λd=>go 9 ?_;refine dt (Zp5 J J J (i:=1) J Zk Pe)<|go 2 ?_;refine Yq J (λc=>?_) (λc=>?_)
 .refine go 7 ?_;obtain rfl:xs=[]:=d (by simpa using c);exact Xg (Hb 9 2 176 wv)<|Zgs (.inl J) (.slice none 0 0) (λa w hs=>Fd hs results400 J) J aA J 9 J J J
 .refine go 4 ?_;refine tt (Yc7 2 (enc:=wv) J J J Pe pV J e.h) λv _=>go 1 ?_;refine tt (Fs 2 1 24 J J J J J J O3 J Zk Pe ti176 J pV J J J O9 O3 J e.h) λg _=>go 4 ?_;exact Zgs (.inl J) _ (λa w hs=>Fd hs results400 J) J aA J 2 J (by rfl) J
theorem Zh2(d:Vp xs):Xk prog 396 #[v] [Yt 2 wv v xs] (.tuple #[.int .i64 ((xs.length:Int)-1),.int .i64 0]):=by refine Zd func396 ntmps396 λg f e a=>?_;have c:=d.len;refine go 10 ?_;refine cl 1 [1] (Xi ‹_›) λ_ _=>?_;refine go 16 ⟨O,?_⟩;exact Oy a () results396 J aA Za
theorem Zm2(c:Vp xs):Xk prog 397 #[v] [Yt 2 wv v xs] (.tuple #[.int .i64 (Qz xs:Int),.int .i64 0]):=by refine Zd func397 ntmps397 λf e d a=>go 10 ?_;refine cl 1 [1] (Xi ‹_›) λ_ _=>go 9 ?_;refine cl 1 [1] (Ns c.sz) λ_ _=>go 5 ?_;exact Oy a () results397 J aA Za
theorem Zt2(n:Vp xs)(m:Vp ys)(o:∀i,bl (cf xs i+cf ys i).natAbs<=65536):Zdd prog 329 #[v,u,.pointer (some ⟨bd,0,none⟩),.func (.func 238) #[.pointer (some ⟨bd,0,none⟩)] #[]] [Yt 2 wv v xs,Yt 2 wv u ys] true bd 347 #[.int .i64 0] (G:=Value) (λr=>True) (λr=> .tuple #[r,.int .i64 0]) (λr=>#[.int .i64 0]) (λr=>[Yt 2 wv r (Zcl xs ys)]):=by
 refine Eo func329 J ntmps329 J K2 ?_;intro B z c j;have c:=Hw.mk c;simp only [Qf,Yg];have l:=n.len;have h:=m.len;refine go 10 ?_;refine cl 3 [2] (Xi ‹_›) λ_ _=>go 3 ?_;refine Lh 3 [3] (Xi ‹_›) λ_ _=>go 13 ?_;refine dt (Zb5 J J J)<|tt (Ew 4 (max xs.length ys.length) 24 (enc:=wv) 0 J J J J Pe ti176 J pV.cells pV.pos J J J c.h) λv _=>go 12 ?_;refine lp (G:=Nat) [0,1,2,3,10,29] [0,1,2,3] (λk=>[(30,.int .i64 (k:Int))]) (λk=>[(4,On 2 176 wv v (fill (max xs.length ys.length) k (λi=>cf xs i+cf ys i)))]) (λk=>k<=max xs.length ys.length) (λk=>max xs.length ys.length-k) 0 O1 K1 ⟨by rw [Bh (max xs.length ys.length) (λi=>cf xs i+cf ys i)];rfl,aA⟩ ?_;rintro k s;have q:(fill (max xs.length ys.length) k (λi=>cf xs i+cf ys i)).length=max xs.length ys.length:=Pa _ _ _;refine go 6<|Zc J (λd=>?_) (λd=>?_)
 .try rw [aT]at *
  refine go 12<|Zz (Zw 5) λb _=>Zz (Zw 6) λg _=>go 2 ?_;refine jn (G:=Unit) [0,1,2,3,10,11,12,13,29,30] [0,4,1,2,3,6] (λ_=>[]) (λ_=>[(5,box b 176 (wc (cf xs k)))]) (λ_=>True) ?_ ?_
  .refine go 8<|Zc J (λe=>?_) (λe=>?_)
   .refine go 7 ⟨O2,O2,?_⟩;exact Gd () aA aA ⟨by first|rfl|(rw [Yo (p:=xs) O];rfl),aA⟩
   .refine go 1 ?_;exact Gd () aA aA ⟨by first|rfl|(rw [Yo (p:=xs) O];rfl),aA⟩
  .rintro _ -;refine jn (G:=Unit) [0,1,2,3,10,11,12,13,29,30] [0,5,4,1,2,3] (λ_=>[]) (λ_=>[(6,box g 176 (wc (cf ys k)))]) (λ_=>True) ?_ ?_
   .refine go 8<|Zc J (λf=>?_) (λf=>?_)
    .refine go 7 ⟨O2,O2,?_⟩;exact Gd () aA aA ⟨by first|rfl|(rw [Yo (p:=ys) O];rfl),aA⟩
    .refine go 1 ?_;exact Gd () aA aA ⟨by first|rfl|(rw [Yo (p:=ys) O];rfl),aA⟩
   .rintro _ -;refine go 6 ?_;refine tt (Zq9 6 1 [_] [_,_] (Zll (n.sz _) (m.sz _) (o _)) J J J J K2 call238 J O3 Zs J c.h aA) (λ_ _=>?_);refine dt (Yn 4 k J J J J (Yp pV) Pe Oa J (by rw [Pa];omega))<|tt (Lo 4 (enc:=wv) J J J J J J pV J c.h O3 (by rw [Pa];omega)) (λ_ _=>?_);refine go 7 ⟨O,?_⟩;exact Ym (k+1) O1 O1 K1 ⟨by rw [<-Zcu O];rfl,aA⟩
 .try rw [aT]at *
  refine go 6 ?_;obtain rfl:k=max xs.length ys.length:=O;refine Zr (Nc 4 J J pV)<|go 3 ?_;refine tt (Qm 7 1 (Za6 (by rw [Ei];exact Zf1 λi _=>o i)) J J J K2 call239 J O3 (Yd 4 J J J Zs) J c.h aA) λ_ _=>go 7 ?_;exact Dc (.inl J) j _ (λa w hs=>Zva hs results329 J J) J aA 1 J J J J (Zk7 7 J J J (by rw [Ei]<;>rfl) Za)
theorem Zt1(n:Vp xs)(m:Vp ys)(o:∀i,bl (cf xs i-cf ys i).natAbs<=65536):Zdd prog 329 #[v,u,.pointer (some ⟨bd,0,none⟩),.func (.func 330) #[.pointer (some ⟨bd,0,none⟩)] #[]] [Yt 2 wv v xs,Yt 2 wv u ys] true bd 347 #[.int .i64 0] (G:=Value) (λr=>True) (λr=> .tuple #[r,.int .i64 0]) (λr=>#[.int .i64 0]) (λr=>[Yt 2 wv r (Zbo xs ys)]):=by
 refine Eo func329 J ntmps329 J K2 ?_;intro B z c j;have c:=Hw.mk c;simp only [Qf,Yg];have l:=n.len;have h:=m.len;refine go 10 ?_;refine cl 3 [2] (Xi ‹_›) λ_ _=>go 3 ?_;refine Lh 3 [3] (Xi ‹_›) λ_ _=>go 13 ?_;refine dt (Zb5 J J J)<|tt (Ew 4 (max xs.length ys.length) 24 (enc:=wv) 0 J J J J Pe ti176 J pV.cells pV.pos J J J c.h) λv _=>go 12 ?_;refine lp (G:=Nat) [0,1,2,3,10,29] [0,1,2,3] (λk=>[(30,.int .i64 (k:Int))]) (λk=>[(4,On 2 176 wv v (fill (max xs.length ys.length) k (λi=>cf xs i-cf ys i)))]) (λk=>k<=max xs.length ys.length) (λk=>max xs.length ys.length-k) 0 O1 K1 ⟨by rw [Bh (max xs.length ys.length) (λi=>cf xs i-cf ys i)];rfl,aA⟩ ?_;rintro k s;have q:(fill (max xs.length ys.length) k (λi=>cf xs i-cf ys i)).length=max xs.length ys.length:=Pa _ _ _;refine go 6<|Zc J (λd=>?_) (λd=>?_)
 .try rw [aT]at *
  refine go 12<|Zz (Zw 5) λb _=>Zz (Zw 6) λg _=>go 2 ?_;refine jn (G:=Unit) [0,1,2,3,10,11,12,13,29,30] [0,4,1,2,3,6] (λ_=>[]) (λ_=>[(5,box b 176 (wc (cf xs k)))]) (λ_=>True) ?_ ?_
  .refine go 8<|Zc J (λe=>?_) (λe=>?_)
   .refine go 7 ⟨O2,O2,?_⟩;exact Gd () aA aA ⟨by first|rfl|(rw [Yo (p:=xs) O];rfl),aA⟩
   .refine go 1 ?_;exact Gd () aA aA ⟨by first|rfl|(rw [Yo (p:=xs) O];rfl),aA⟩
  .rintro _ -;refine jn (G:=Unit) [0,1,2,3,10,11,12,13,29,30] [0,5,4,1,2,3] (λ_=>[]) (λ_=>[(6,box g 176 (wc (cf ys k)))]) (λ_=>True) ?_ ?_
   .refine go 8<|Zc J (λf=>?_) (λf=>?_)
    .refine go 7 ⟨O2,O2,?_⟩;exact Gd () aA aA ⟨by first|rfl|(rw [Yo (p:=ys) O];rfl),aA⟩
    .refine go 1 ?_;exact Gd () aA aA ⟨by first|rfl|(rw [Yo (p:=ys) O];rfl),aA⟩
   .rintro _ -;refine go 6 ?_;refine tt (Zq9 6 1 [_] [_,_] (Zv8 (n.sz _) (m.sz _) (o _)) J J J J K2 call330 J O3 Zs J c.h aA) (λ_ _=>?_);refine dt (Yn 4 k J J J J (Yp pV) Pe Oa J (by rw [Pa];omega))<|tt (Lo 4 (enc:=wv) J J J J J J pV J c.h O3 (by rw [Pa];omega)) (λ_ _=>?_);refine go 7 ⟨O,?_⟩;exact Ym (k+1) O1 O1 K1 ⟨by rw [<-Zcu O];rfl,aA⟩
 .try rw [aT]at *
  refine go 6 ?_;obtain rfl:k=max xs.length ys.length:=O;refine Zr (Nc 4 J J pV)<|go 3 ?_;refine tt (Qm 7 1 (Za6 (by rw [Ei];exact Zf1 λi _=>o i)) J J J K2 call239 J O3 (Yd 4 J J J Zs) J c.h aA) λ_ _=>go 7 ?_;exact Dc (.inl J) j _ (λa w hs=>Zva hs results329 J J) J aA 1 J J J J (Zk7 7 J J J (by rw [Ei]<;>rfl) Za)
theorem Yet(xs ys:List Int)(e:Vp xs)(d:Vp ys)(f:∀i,bl (cf xs i+cf ys i).natAbs<=65536):Cal prog 280 #[v,u] [Yt 2 wv v xs,Yt 2 wv u ys] true (G:=Value) (λr=>True) (λr=> .tuple #[r,.int .i64 0]) (λr=>[Yt 2 wv r (Zcl xs ys)]):=by refine Zd func280 ntmps280 λh g c a=>go 8 ?_;refine Zz (Zw 3) λb _=>go 6 ?_;refine dt (d_mkf [_] J K1)<|tt (Qm 4 3 (Zt2 ‹_› ‹_› ‹_›) J J J K4 call329 J O3 (Yd 1 J J J (Yd 2 J J J Zs)) J c.h aA) λ_ _=>go 7 ?_;exact Oy a _ results280 J aA (Kf 4 Za)
theorem Yes(xs ys:List Int)(e:Vp xs)(d:Vp ys)(f:∀i,bl (cf xs i-cf ys i).natAbs<=65536):Cal prog 281 #[v,u] [Yt 2 wv v xs,Yt 2 wv u ys] true (G:=Value) (λr=>True) (λr=> .tuple #[r,.int .i64 0]) (λr=>[Yt 2 wv r (Zbo xs ys)]):=by refine Zd func281 ntmps281 λh g c a=>go 8 ?_;refine Zz (Zw 3) λb _=>go 6 ?_;refine dt (d_mkf [_] J K1)<|tt (Qm 4 3 (Zt1 ‹_› ‹_› ‹_›) J J J K4 call329 J O3 (Yd 1 J J J (Yd 2 J J J Zs)) J c.h aA) λ_ _=>go 7 ?_;exact Oy a _ results281 J aA (Kf 4 Za)
theorem Zr6(xs ys:List Int)(B:Vp xs)(z:Vp ys)(M:¬Av xs ys):Cal prog 279 #[v,u] [Yt 2 wv v xs,Yt 2 wv u ys] true (G:=Value) (λr=>True) (λr=> .tuple #[r,.int .i64 0]) (λr=>[Yt 2 wv r (Qr xs ys)]):=by
 refine Zd func279 ntmps279 λw0 sc D f=>?_;have N:=B.len;have I:=z.len;have V:=Pz B.sz;have W:=Pz z.sz;refine go 10 ?_;refine cl 2 [1] (Xi ‹_›) λ_ _=>go 3 ?_;refine Lh 2 [2] (Xi ‹_›) λ_ _=>go 14<|Zj 23 J (λF=>?_) (λF=>?_)
 .refine go 15 ?_;exact Oy f _ results279 J aA (Lg (Zfs (p:=xs) (q:=ys) (by first|(left;omega)|(right;omega))) Za)
 .refine go 6<|Zc J (λg=>?_) (λg=>?_)
  .refine go 8 ?_;exact Oy f _ results279 J aA (Lg (Zfs (p:=xs) (q:=ys) (by first|(left;omega)|(right;omega))) Za)
  .have c:xs≠[]:=by intro e;subst e;simp_all
   have d:ys≠[]:=by intro e;subst e;simp_all
   have R:0<xs.length:=aH.2 c;have S:0<ys.length:=aH.2 d;refine go 13 ⟨O,O,?_⟩;refine Zj 35 J (λH=>?_) (λH=>?_)
   .exfalso;exact M ⟨c,d,.inl O⟩
   .refine go 1 ?_;refine Lh 2 [1] (Ns (by first|exact B.sz|exact z.sz)) λ_ _=>go 1 ?_;refine Lh 2 [2] (Ns (by first|exact B.sz|exact z.sz)) λ_ _=>?_;refine go 6 ⟨O,O,?_⟩;refine Zc J (λk=>?_) (λk=>?_)
    .exfalso;exact M ⟨c,d,by first|(left;omega)|(right;omega)⟩
    .have Y:Qz xs+Qz ys+5<=65536:=O;have s:∀i j,bl (cf xs i*cf ys j).natAbs<=65536:=λi j=>by have:=Xq (cf xs i) (cf ys j);have:=Kt xs i;have:=Kt ys j;omega
     have n:∀i j t,i<25->bl (Za9 xs ys i j t).natAbs<=65536:=λi j t hi=>by have:=Ynz (i:=i) (j:=j) (t:=t) (Kt xs) (Kt ys) O;omega
     have o:∀t,bl (acc xs ys xs.length t).natAbs<=65536:=λt=>by have:=bl_acc (i:=xs.length) (t:=t) (Kt xs) (Kt ys) O;omega
     have w:∀i j,i<25->bl (Za9 xs ys i j (i+j)+cf xs i*cf ys j).natAbs<=65536:=λi j hi=>by rw [<-Ycj];exact n i (j+1) _ hi
     refine go 4<|Zz (Zw 3) λb _=>?_;refine go 10 ⟨O,O,?_⟩;refine tt (Ew 4 (xs.length+ys.length-1) 24 (enc:=wv) 0 J J J J Pe ti176 J pV.cells pV.pos J J J D.h) λv _=>go 12 ?_;refine lp (G:=Nat) [1,6,7,51,52] [0,1,2,3] (λi=>[(53,.int .i64 (i:Int))]) (λi=>[(4,On 2 176 wv v (mk (xs.length+ys.length-1) (acc xs ys i)))]) (λi=>i<=xs.length) (λi=>xs.length-i) 0 O1 K1 ⟨by rw [Zvb];rfl,aA⟩ ?_;rintro i hi;refine go 6<|Zc J (λl=>?_) (λl=>?_)
     .refine go 9 ⟨O2,O2,?_⟩;refine Zz (Zw 5) λP _=>go 12 ?_;refine lp (G:=Nat) [1,6,7,8,9,51,52,53,58,59] [0,1,2,3,5] (λj=>[(60,.int .i64 (j:Int))]) (λj=>[(4,On 2 176 wv v (mk (xs.length+ys.length-1) (Za9 xs ys i j)))]) (λj=>j<=ys.length) (λj=>ys.length-j) 0 O1 K1 ⟨by rw [Yci];rfl,aA⟩ ?_;rintro j Z;have a:i+j<xs.length+ys.length-1->(mk (xs.length+ys.length-1) (Za9 xs ys i j)).getD (i+j) 0=Za9 xs ys i j (i+j):=λh=>Zdw h;refine go 6<|Zc J (λm=>?_) (λm=>?_)
      .refine go 9 ⟨O2,O2,?_⟩;refine Zz (Zw 6) λQ _=>go 4<|Ph (λx=>x=b) [(0,0),(1,0),(2,0),(3,0),(4,0),(5,0),(6,0),(7,0),(8,0),(9,0),(10,0),(11,0),(12,1),(13,1),(14,0),(15,3)]<|go 8 ⟨O,O,?_⟩;refine Qd J J (st1 3 J (Yn 4 (i+j) J J J J (Yp pV) Pe Oa O (by rw [Yu];omega)))<|go 3 ⟨by rw [Yu];omega,?_⟩;refine Bp J (Qm 6 3 (Dk (B.sz _) (z.sz _) (s i j)) J J J K3 call237 J O3 Zs J D.h J) (λ_ _=>?_);refine Bp J (Qm 6 3 (Zll (by rw [a O];exact n i j _ O) (s i j) (by rw [a O];exact w i j O)) J J J K3 call238 J O3 Zs J D.h J) (λ_ _=>?_);refine Qd J J (st1 3 J (Yn 4 (i+j) J J J J (Yp pV) Pe Oa O (by rw [Yu];omega)))<|r3' J (Lo 4 (enc:=wv) J J J J J J pV J D.h O3 (by rw [Yu];omega)) (λ_ _=>?_);refine go 7 ⟨O,?_⟩;exact Ym (j+1) O1 O1 K1 ⟨by rw [<-Yi7 O,<-a O];rfl,aA⟩
      .refine go 10 ⟨O,?_⟩;obtain rfl:j=ys.length:=O;exact Ym (i+1) O1 O1 K1 ⟨by rw [<-Yi8];rfl,aA⟩
     .refine go 6 ?_;obtain rfl:i=xs.length:=O;refine Zr (Nc 4 J J pV)<|go 2 ?_;refine tt (Qm 7 3 (Za6 (Zf1 λt _=>o t)) J J J K2 call239 J O3 (Yd 4 J J J Zs) J D.h aA) λ_ _=>go 7 ?_;exact Oy f _ results279 J aA (Kf 7 Za (by rw [Yev]<;>rfl))
end Go.Sky

