/- Rules, arithmetic and contracts: part 10. No conditions but those that each theorem names. -/
import Derived.Test.YteikicbnfbgpnaaGreatEn08
set_option linter.all false
set_option maxHeartbeats 4000000
namespace Go.Sky
open Go.Proofs.Tryz
open Go.Proofs
set_option synthInstance.maxHeartbeats 0
set_option synthInstance.maxSize 100000
set_option maxRecDepth 20000
set_option linter.unusedSimpArgs false
variable{b:Bool}{x y:Int}{t:TypeId}{v u:Value}{xs ys:List Int}{bd:Nat}
theorem Zbx{s:ByteArray}:Qd prog 178 #[.agg #[.bool b,.string s]] [] (.bool (okW b s)):=by
 refine Zh func178 ntmps178 λg f e c=>go 2 ?_;refine Ym (Yr 1) λb _=>go 8 ?_;refine dt (Zy7 J J J J)<|go 2 ?_;refine Ze J (λa=>?_) (λa=>?_)
 .refine go 10 ?_;exact Xo c () results178 (by unfold okW;rw [aG a]) aA Za
 .refine go 6 ?_;refine dt (Ycz (i:=0) J J J uT9 J)<|go 2 ?_;refine Xg 13 J (λd=>?_) (λd=>?_)
  .refine go 9 ?_;exact Xo c () results178 (by unfold okW;rw [aD a];simp_all<;>omega) aA Za
  .refine go 9 ?_;exact Xo c () results178 (by unfold okW;rw [aD a];simp_all<;>omega) aA Za
def Kw(a:bl x.natAbs<=65536):Cal prog 178 #[wv x] [] false (G:=Unit) (λ_=>True) (λ_=> .bool true) (λ_=>[]):=Zc8 a▸Zbx
theorem Zog(b:Bool)(s:ByteArray)(c:Bool)(t:ByteArray):Qd prog 228 #[.agg #[.bool b,.string s],.agg #[.bool c,.string t]] [] (.bool (okW b s && okW c t)):=by
 refine Zh func228 ntmps228 λh g f a=>go 2 ?_;refine Ym (Yr 1) λb _=>Ym (Yr 2) λe _=>go 6 ?_;refine cl 2 [] Zbx λ_ _=>go 1 ?_;refine Zg6 7 J (λd=>?_) (λd=>?_)
 .refine go 1 ?_;refine De 2 [] Zbx λ_ _=>go 5 ?_;exact Xo a () results228 (by simp_all) aA Za
 .refine go 7 ?_;exact Xo a () results228 (by simp_all) aA Za
theorem Ha(a:bl x.natAbs<=65536)(c:bl y.natAbs<=65536):Qd prog 228 #[wv x,wv y] [] (.bool true):=by have h:=Zog (decide (x<0)) (Qp x.natAbs) (decide (y<0)) (Qp y.natAbs);rw [Zc8 a,Zc8 c]at h;exact h
theorem Hl(e:bl x.natAbs<=65536):Qd prog 237 #[wv x] [] (.int .i64 x.sign):=by refine Zh func237 ntmps237 λh f d a=>go 2 ?_;refine Ym (Yr 1) λb _=>go 7 ?_;refine cl 1 [] (Kw ‹_›) λ_ _=>go 9 ?_;refine cl 2 [] (Nh (Qr _)) λg c=>cl 2 [2] (Zmg ‹_›) λ_ _=>go 4 ?_;exact Xo a () results237 J aA Za
theorem Zk7(d:bl x.natAbs<=65536):Qd prog 240 #[wv x] [] (.int .i64 (bl x.natAbs:Int)):=by refine Zh func240 ntmps240 λf e c a=>go 2 ?_;refine Ym (Yr 1) λb _=>go 7 ?_;refine cl 1 [] (Kw ‹_›) λ_ _=>go 10 ?_;refine cl 2 [] Zd0 λv _=>cl 2 [2] Zmi λ_ _=>go 4 ?_;exact Xo a () results240 J aA Za
theorem Ztq(m:bl x.natAbs<=65536)(n:bl y.natAbs<=65536):Qd prog 180 #[wv x,wv y] [] (Zcu (x+y)):=by refine Zh func180 ntmps180 λp o l a=>?_;have j:=Im x y;refine go 2 ?_;refine Ym (Yr 1) λb _=>Ym (Yr 2) λe _=>Ym (Ya 3) λf _=>go 8 ?_;refine cl 3 [] (Ha ‹_› ‹_›) λ_ _=>go 7 ?_;refine Qf (λ_=>False) [(0,0),(2,0),(1,1),(3,1),(4,1),(5,1),(6,0),(7,0),(8,3),(9,3)]<|go 2 ?_;refine Yw (Zm 4 [] (Nh (Qr _))) λg k=>Yw (Zm 5 [] (Nh (Qr _))) λh c=>Yw (Zm 6 [4,5] (Zgt ‹_› ‹_›)) λi d=>Yw (Zm 6 [6] (Gc ‹_›)) λ_ _=>go 7 ?_;exact Nx a () results180 J aA Za
theorem Ygm(p:bl x.natAbs<=65536)(q:bl y.natAbs<=65536):Qd prog 239 #[wv x,wv y] [] (Zcu (x-y)):=by refine Zh func239 ntmps239 λs r o a=>?_;have m:=Bu x y;have l:=Zns y;refine go 2 ?_;refine Ym (Yr 1) λb _=>Ym (Yr 2) λf _=>Ym (Ya 3) λh _=>go 8 ?_;refine cl 3 [] (Ha ‹_› ‹_›) λ_ _=>go 7 ?_;refine Qf (λ_=>False) [(0,0),(2,0),(1,1),(3,1),(4,1),(5,1),(6,1),(7,0),(8,0),(9,3),(10,3)]<|go 2 ?_;refine Yw (Zm 4 [] (Nh (Qr _))) λg n=>Yw (Zm 5 [] (Nh (Qr _))) λi c=>Yw (Zm 6 [5] (Zre ‹_›)) λj d=>Yw (Zm 7 [4,6] (Zgt ‹_› ‹_›)) λk e=>Yw (Zm 7 [7] (Gc ‹_› (by rw [<-fO];omega))) λ_ _=>go 7 ?_;exact Nx a () results239 (by rw [fO]<;>rfl) aA Za
theorem Ztn(m:bl x.natAbs<=65536)(n:bl y.natAbs<=65536):Qd prog 234 #[wv x,wv y] [] (Zcu (x*y)):=by refine Zh func234 ntmps234 λp o l a=>?_;have j:=Yq x y;refine go 2 ?_;refine Ym (Yr 1) λb _=>Ym (Yr 2) λe _=>Ym (Ya 3) λf _=>go 8 ?_;refine cl 3 [] (Ha ‹_› ‹_›) λ_ _=>go 7 ?_;refine Qf (λ_=>False) [(0,0),(2,0),(1,1),(3,1),(4,1),(5,1),(6,0),(7,0),(8,3),(9,3)]<|go 2 ?_;refine Yw (Zm 4 [] (Nh (Qr _))) λg k=>Yw (Zm 5 [] (Nh (Qr _))) λh c=>Yw (Zm 6 [4,5] (Zef ‹_› ‹_›)) λi d=>Yw (Zm 6 [6] (Gc ‹_›)) λ_ _=>go 7 ?_;exact Nx a () results234 J aA Za
theorem Ztp(x y:Int)(j:bl x.natAbs<=65536)(k:bl y.natAbs<=65536):Qd prog 188 #[wv x,wv y] [] (Zcu (Int.gcd x y:Int)):=by refine Zh func188 ntmps188 λm l i c=>?_;have h:=Zta x.natAbs y.natAbs;refine go 2 ?_;refine Ym (Yr 1) λb _=>Ym (Yr 2) λd _=>Ym (Ya 3) λe _=>go 8 ?_;refine cl 3 [] (Ha ‹_› ‹_›) λ_ _=>go 7 ?_;refine Qf (λ_=>False) [(0,0),(1,0),(3,0),(4,0),(2,1),(5,1),(6,1),(7,0),(8,1),(9,0),(10,0),(11,3),(12,3)]<|go 4 ?_;refine Yw (Zm 4 [] Zd0) λv _=>Yw (Zm 5 [] Zd0) λf _=>Yw (Zm 6 [4,5] Zri) λg _=>?_;refine Xj J J (Xq (Qv [(0,_),(1,_)] J K4 (λa w hs=>Ip ((Yj J) a w hs) ((On 6 J Zr) a w hs))))<|Yw (Zm 6 [6] (Gc (s:=false) (x:=(Int.gcd x y:Int)) (by simp [sg]) (by show bl (Nat.gcd x.natAbs y.natAbs)<=_;omega))) λ_ _=>go 7 ?_;exact Nx c () results188 J aA Za
theorem Af(I:bl x.natAbs<=65536)(M:bl y.natAbs<=65536)(c:y≠0):Qd prog 179 #[wv x,wv y] [] (.tuple #[wv (Zbn (x/y)),wv (Zbn (x%y)),.int .i64 0]):=by
 refine Zh func179 ntmps179 λR Q z d=>?_;have F:=Zk5 x y;have p:=Zs9 x y c;refine go 2 ?_;refine Ym (Yr 1) λb _=>Ym (Yr 2) λh _=>Ym (Ya 3) λj _=>Ym (Ya 4) λk _=>go 8 ?_;refine cl 4 [] (Ha ‹_› ‹_›) λ_ _=>go 11 ?_;refine dt (Zy7 J J J J)<|go 2 ?_;refine Ze J (λa=>?_) (λa=>?_)
 .rw [Ee]at a;exfalso;exact c (by have:=(Oi (by omega:2<=256) y.natAbs).1 a;omega)
 .refine go 2 ?_;refine jn (G:=Bool×Value×Value×Nat×Nat) [4,5] [0,1,2,3,4] (λq=>[(7,.pointer (some ⟨q.2.2.2.1,0,none⟩)),(8,.pointer (some ⟨q.2.2.2.2,0,none⟩))]) (λq=>[(84,Dq q.2.1 (x/y).natAbs),(85,Dq q.2.2.1 (x%y).natAbs),(86,box q.2.2.2.1 219 #[.bool q.1,q.2.1]),(87,box q.2.2.2.2 219 #[.bool false,q.2.2.1])]) (λq=>sg q.1 (x/y)) ?_ ?_
  .refine Po [1,2] [11]<|Zj 10 [(0,0),(2,0)]<|go 3 ?_
   repeat' first|refine bq 1 ?_;refine Ot (Zm 81 [] (Nh (Qr _))) λg H=>?_|refine bq 3 ?_;refine Ot (Zm 82 [] (Nh (Qr _))) λn e=>?_|refine bq 4 ?_;refine Ot (Zm 84 [81,82] (Zgs _ _ ‹_› ‹_› O c)) λo f=>?_|refine bq 8 ?_;refine Ot (Qe 86) λl r=>?_|refine bq 9 ?_;refine Ot (Qe 87) λm s=>?_|refine bq 10 ?_;refine Kl rfl rfl (t_stw (i:=86) rfl rfl rfl rfl rfl O3 rfl sizeOf219 rfl rfl ⟨Yj rfl,On 84 rfl Zr,aA⟩ rfl z.h r.h) (λ_ _=>?_)|refine a_b3 1 8 9 O5 ?_ ?_ ?_|refine Zzv 1 8 O5 ?_ ?_|refine Ygf 1 O5 ?_|refine Ygf 3 O5 ?_|refine Ygf 4 O5 ?_|refine Ygf 10 O5 ?_|refine Zzv 3 8 O5 ?_ ?_|refine Zzv 4 8 O5 ?_ ?_|refine Ygf 8 O5 ?_|refine Zzv 1 9 O5 ?_ ?_|refine Zzv 3 9 O5 ?_ ?_|refine Zzv 4 9 O5 ?_ ?_|refine Ygf 9 O5 ?_|refine a_b3 3 8 9 O5 ?_ ?_ ?_|refine a_b3 4 8 9 O5 ?_ ?_ ?_|refine Zzv 8 9 O5 ?_ ?_|refine Yd3 5 0 O5 ?_;refine go 2 ?_|refine Yd3 6 0 O5 ?_;refine go 2 ?_|refine Yd3 7 0 O5 ?_;refine go 2 ?_|refine Yd3 11 3 O5 ?_;refine go 2 ?_|refine Zt ?_ O5;exact Od (_,_,_,_,_) ‹_› ⟨rfl,rfl,aA⟩ ⟨rfl,rfl,rfl,rfl,aA⟩
  .rintro⟨N,qv,P,B,D⟩ w;dsimp only at w;dsimp only;refine go 3 ?_;refine cl 4 [84] (Gc ‹_›) λ_ _=>go 9 ?_;refine cl 4 [85] (Gc (Ypa x c)) λ_ _=>go 7 ?_;refine Po [4] [3,4]<|Zj 0 [(1,0),(0,1),(2,1),(3,3),(4,3)]<|go 6 ?_;refine Zt<|go 2 ?_;exact xe3 d () results179 J aA Za
theorem Zct{s t:Bool}{w:Value}(hs:sg s x)(m:sg t y)(k:y≠0)(Y:bl x.natAbs<=1000000000:=by omega)(Z:bl y.natAbs<=1000000000:=by omega):Qd prog 165 #[.agg #[.bool s,v],.agg #[.bool t,w]] [Dq v x.natAbs,Dq w y.natAbs] (Zb8 x y):=by
 refine Zh func165 ntmps165 λw0 sc W c=>?_;have S:=Zta x.natAbs y.natAbs;have e:Kf x y≠0:=Yqq k;have h:sg t (Kf x y):=Yo8 m k;have f:=Zda x y;have P:=Zk5 x (Kf x y);have Q:=Zk5 y (Kf x y);refine go 2 ?_;refine Ym (Yr 3) λb _=>Ym (Yr 4) λq _=>Ym (Ya 5) λr _=>go 4 ?_;refine Ku (λ_=>False) [9]<|Zj 4 [(0,0),(1,0),(2,0),(3,0),(4,0),(5,0)]<|go 7 ?_;refine Qw 3 6 8 ?_ ?_
 .refine Ot (Zm 81 [1,2] Zri) λv _=>?_;refine Zj 0 [(7,0),(8,1),(9,3)]<|Xj J J (Xq (Qv [(0,_),(1,_)] J K4 (λa w hs=>Ip ((Yj J) a w hs) ((On 81 J Zr) a w hs))))<|Yw (Ya 82) λz _=>go 2 ?_;refine Zt<|go 2 ?_;refine Zg (Np 81 (Yby x y) J J)<|go 3 ?_;refine cl 6 [1,81] (Zgs x (Kf x y) hs h (by rw [f];omega) e) λg V=>go 10 ?_;refine cl 8 [2,81] (Zgs y (Kf x y) m h (by rw [f];omega) e) λI n=>go 9 ?_;refine cl 9 [6] (Gc ‹_›) λ_ _=>go 3 ?_;refine Ym (Ya 10) λB _=>go 7 ?_;refine cl 10 [8] (Gc ‹_›) λ_ _=>go 3 ?_;refine Ym (Ya 11) λD _=>go 10 ?_;refine Xg 43 J (λl=>?_) (λl=>?_)
  .refine go 8 ?_;refine dt (Qv [] J aA (λa w hs=>Ygc))<|go 6 ?_;exact Nx c () results165 (Zb7 (by unfold Iq;first|exact .inl (Zaq ‹_›)|exact .inr (Zaq ‹_›))) aA Za
  .refine go 5 ?_;refine Ze J (λj=>?_) (λj=>?_)
   .refine go 2 ?_;refine dt (Qv [] J aA (λa w hs=>Ygc))<|go 6 ?_;exact Nx c () results165 (Zb7 (by unfold Iq;first|exact .inl (Zaq ‹_›)|exact .inr (Zaq ‹_›))) aA Za
   .refine go 6 ?_;refine dt (Qv [(0,_),(1,_)] J K4 (λa w hs=>Znw))<|go 5 ?_;exact Nx c () results165 (Zuv (cK ‹_›) (cK ‹_›)) aA Za
 .refine Ot (Ya 82) λF _=>?_;refine Zj 0 [(6,1),(7,0),(9,3)]<|Yw (Zm 81 [1,2] Zri) λR _=>?_;refine Xj J J (Xq (Qv [(0,_),(1,_)] J K4 (λa w hs=>Ip ((Yj J) a w hs) ((On 81 J Zr) a w hs))))<|go 2 ?_;refine Zt<|go 2 ?_;refine Zg (Np 81 (Yby x y) J J)<|go 3 ?_;refine cl 12 [1,81] (Zgs x (Kf x y) hs h (by rw [f];omega) e) λM o=>go 10 ?_;refine cl 14 [2,81] (Zgs y (Kf x y) m h (by rw [f];omega) e) λN p=>go 9 ?_;refine cl 15 [12] (Gc ‹_›) λ_ _=>go 3 ?_;refine Ym (Ya 16) λG _=>go 7 ?_;refine cl 16 [14] (Gc ‹_›) λ_ _=>go 3 ?_;refine Ym (Ya 17) λH _=>go 10 ?_;refine Xg 43 J (λi=>?_) (λi=>?_)
  .refine go 8 ?_;refine dt (Qv [] J aA (λa w hs=>Ygc))<|go 6 ?_;exact Nx c () results165 (Zb7 (by unfold Iq;first|exact .inl (Zaq ‹_›)|exact .inr (Zaq ‹_›))) aA Za
  .refine go 5 ?_;refine Ze J (λd=>?_) (λd=>?_)
   .refine go 2 ?_;refine dt (Qv [] J aA (λa w hs=>Ygc))<|go 6 ?_;exact Nx c () results165 (Zb7 (by unfold Iq;first|exact .inl (Zaq ‹_›)|exact .inr (Zaq ‹_›))) aA Za
   .refine go 6 ?_;refine dt (Qv [(0,_),(1,_)] J K4 (λa w hs=>Znw))<|go 5 ?_;exact Nx c () results165 (Zuv (cK ‹_›) (cK ‹_›)) aA Za
theorem Ze9(l:bl x.natAbs<=65536)(m:bl y.natAbs<=65536)(c:y≠0:=by omega):Qd prog 221 #[wv x,wv y] [] (Zb8 x y):=by
 refine Zh func221 ntmps221 λo n k d=>go 2 ?_;refine Ym (Yr 1) λb _=>Ym (Yr 2) λf _=>Ym (Ya 3) λh _=>go 8 ?_;refine cl 3 [] (Ha ‹_› ‹_›) λ_ _=>go 11 ?_;refine dt (Zy7 J J J J)<|go 2 ?_;refine Ze J (λa=>?_) (λa=>?_)
 .rw [Ee]at a;exfalso;exact c (by have:=(Oi (by omega:2<=256) y.natAbs).1 a;omega)
 .refine go 3 ?_;refine Qf (λ_=>False) [(0,0),(2,0),(1,1),(3,1),(4,1),(5,0),(6,0),(7,3),(8,3)]<|go 2 ?_;refine Yw (Zm 4 [] (Nh (Qr _))) λg j=>Yw (Zm 5 [] (Nh (Qr _))) λi e=>Yw (Zm 5 [4,5] (Zct ‹_› ‹_› c)) λ_ _=>go 7 ?_;exact Nx d () results221 J aA Za
theorem Zjq{s:ByteArray}{c:Bool}{t:ByteArray}:Qd prog 216 #[.agg #[.bool b,.string s,.bool c,.string t]] [] (.bool (okR b s c t)):=by
 refine Zh func216 ntmps216 λl k j g=>go 2 ?_;refine Ym (Yr 1) λb _=>go 9 ?_;refine cl 1 [] (Zog _ _ _ _) λ_ _=>go 1 ?_;refine Zg6 8 J (λh=>?_) (λh=>?_)
 .have i:okW c t=true:=by simp_all
  have d:=Zrb i;obtain⟨a,e,f⟩:=Classical.choose_spec d;generalize Classical.choose d=z at a e f ⊢;subst e;subst f
  try clear d
  refine go 2 ?_;refine De 1 [] (Hl (x:=z) a) λ_ _=>go 6 ?_;exact Xo g () results216 (by first|rw [Zve (by simp_all) a]|(unfold okR;simp_all)) aA Za
 .refine go 9 ?_;exact Xo g () results216 (by first|rw [Zve (by simp_all) a]|(unfold okR;simp_all)) aA Za
def Ka(c:bl x.natAbs<=65536)(d:bl y.natAbs<=65536)(a:0<y):Cal prog 216 #[rX x y] [] false (G:=Unit) (λ_=>True) (λ_=> .bool true) (λ_=>[]):=okR_wv c d a▸Zjq
theorem Zz(x:Int)(f:Nz x:=by exact⟨O,O⟩):Qd prog 131 #[.int .i64 x] [] (wv x):=by
 refine Zh func131 ntmps131 λm l h e=>?_;have i:=f.1;have j:=f.2;have d:x.natAbs<U:=by simp only [U];omega
 have k:bl x.natAbs<=64:=(Qo 64 _).2 (by rw [<-Ynx];exact d);refine go 2 ?_;refine Ym (Ya 1) λb _=>go 5 ?_;refine dt (Yrq (r:=x%18446744073709551616) J J uT3 Za5 J)<|go 3 ?_;refine jn (G:=Unit) [0,2] [0,1] (λ_=>[(3,.int .u64 ((x.natAbs:Nat):Int))]) (λ_=>[]) (λ_=>True) ?_ ?_
 .refine go 6 ?_;refine Ze J (λc=>?_) (λc=>?_)
  .refine go 2 ?_;refine dt (Ygv x.natAbs J J O)<|go 2 ?_;exact Od () aA ⟨by first|rfl|(rw [show x%18446744073709551616=((x.natAbs:Nat):Int) by omega];rfl),aA⟩ aA
  .refine go 1 ?_;exact Od () aA ⟨by first|rfl|(rw [show x%18446744073709551616=((x.natAbs:Nat):Int) by omega];rfl),aA⟩ aA
 .rintro _ -;refine go 5 ?_;refine tt (Xv [(0,_)] 2 (enc:=Ld) [x.natAbs] J J K2 Og ti232 J J J J J pU.cells J J h.h) λv _=>cl 2 [2] Oo λ_ _=>?_;refine Xf (Zba 2 J J pU)<|Xf (Zez 2 (Zh2 d) J J)<|dt (Qv [(0,_),(1,_)] J K4 (λa w hs=>Ip ((Yj J) a w hs) ((On 2 J (Yb pU)) a w hs)))<|cl 2 [2] (Gc (x:=x) (Qr _)) λ_ _=>go 3 ?_;refine Ym (Ya 3) λg _=>go 11 ?_;exact Xo e () results131 (by rw [Hh O]<;>rfl) aA Za
theorem Zec(hs:Sz 65536 xs):Cal prog 189 #[v] [Yx 2 wv v xs] true (G:=Unit) (λ_=>True) (λ_=>Kz v (tzl xs).length) (λ_=>[Yx 2 wv (Kz v (tzl xs).length) (tzl xs)]):=by
 refine Zh func189 ntmps189 λp o n d=>?_;refine Pg (Zyx (i:=1) J Zr) (λa=>?_);refine Pg (Mh (i:=1) J Zr) λm=>go 7 ?_;refine lp (G:=Nat) [] [0] (λk=>[(0,Kz v k)]) (λk=>[(1,Yx 2 wv (Kz v k) (xs.take k))]) (λk=>(k<=xs.length)/\(tzl (xs.take k)=tzl xs)) (λk=>k) xs.length ⟨aI _,by rw [bK]⟩ ⟨by rw [a];rfl,aA⟩ ⟨by rw [a,bK];rfl,aA⟩ ?_;rintro k ⟨h,j⟩;have f:(xs.take k).length=k:=by rw [aQ];omega
 refine go 7 ?_;refine Xg 6 J (λl=>?_) (λl=>?_)
 .refine go 4 ⟨O,?_⟩;refine Ej (Zv 1 (k-1) J J J J Zr Mx Kn) J J<|go 1 ⟨O,?_⟩;refine De 1 [] (Hl ((hs.take _).getD _)) λ_ _=>go 4 ?_;refine Ze J (λg=>?_) (λg=>?_)
  .have c:=Ztt h O (Zli k O (eW.1 ‹_›):cf xs (k-1)=0);refine go 8 ⟨O,?_⟩;refine dt (Ycx 1 (k-1) J J J J Zr Mx Kn)<|go 3 ?_;exact Zs (Yia 1 1 (k-1) J J)<|Yh (k-1) ⟨O1,by rw [<-j,<-c]⟩ O1 ⟨by rw [<-Fx v k (k-1)];rfl,aA⟩ ⟨by rw [Fx,iP,dJ O];rfl,aA⟩
  .refine go 12 ?_;have e:tzl xs=xs.take k:=by rw [<-j];exact Zf3 h (by first|(left;omega)|(right;exact Zf6 k O ‹_›))
   exact Xo d () results189 (by rw [e,f]) aA (Ps 1 Za (by rw [e,f]))
 .refine go 24 ?_;have e:tzl xs=xs.take k:=by rw [<-j];exact Zf3 h (by first|(left;omega)|(right;exact Zf6 k O ‹_›))
  exact Xo d () results189 (by rw [e,f]) aA (Ps 1 Za (by rw [e,f]))
theorem Zyb(v:Value)(r:List (Bool×ByteArray)):Qd prog 190 #[v] [Yx 2 Zy2 v r] (.bool (okP r)):=by
 refine Zh func190 ntmps190 λz s p a=>?_;refine Pg (Mh (i:=1) J Zr) λg=>go 14 ?_;refine lp (G:=Nat) [0,5,6] [0,1] (λk=>[(7,.int .i64 (k:Int))]) (λk=>[]) (λk=>(k<=r.length)/\((r.take k).all (λw=>okW w.1 w.2)=true)) (λk=>r.length-k) 0 ⟨O1,O7⟩ K1 aA ?_;rintro k ⟨o,l⟩;refine go 6 ?_;refine Ze J (λj=>?_) (λj=>?_)
 .refine go 7 ⟨O2,?_⟩;refine dt (Yz 1 (false,⟨#[]⟩) J J J Zr pW O2)<|Ym (Ya 2) λb _=>go 6 ?_;refine cl 2 [] Zbx λ_ _=>go 3 ?_;refine Md J (λf=>?_) (λf=>?_)
  .refine go 11 ?_;exact Xo a () results190 (by rw [Yqc (Zd (i:=k) (d:=(false,⟨#[]⟩))) (by simp_all)]) aA Za
  .refine go 7 ⟨O,?_⟩;exact Yh (k+1) ⟨O1,by rw [Pq (false,⟨#[]⟩) _ _ O,nA,l];simpa using f⟩ O1 K1 aA
 .refine go 6 ?_;obtain rfl:k=r.length:=O;rw [bK]at l;obtain⟨xs,c,rfl⟩:=Zvd (cP.1 l);have m:=Sz.of_mem c;rw [aP]at g;refine Zg (Zqf 1 (q:=Yx 2 wv v xs) J J (Yo2 v xs) (λ_ h=>fpn h) J)<|go 5 ?_;refine Xg 18 J (λn=>?_) (λn=>?_)
  .refine go 4 ?_;refine Xg 22 J (λe=>?_) (λe=>?_)
   .refine go 14 ?_;exact Xo a () results190 (by rw [Zrc c];first|(simp_all;done)|(simp_all;omega)) aA Za
   .refine go 4 ⟨O,?_⟩;refine Ej (Zv 1 (xs.length-1) J J J J Zr Mx Kn) J J<|go 1 ⟨O,?_⟩;refine De 2 [] (Hl (m.getD _)) λ_ _=>go 7 ?_;exact Xo a () results190 (by rw [Zrc c];first|(simp_all;done)|(simp_all;omega)) aA Za
  .refine go 18 ?_;exact Xo a () results190 (by rw [Zrc c];first|(simp_all;done)|(simp_all;omega)) aA Za
def Xy(h:Vp xs):Cal prog 190 #[v] [Yx 2 wv v xs] false (G:=Unit) (λ_=>True) (λ_=> .bool true) (λ_=>[]):=okP_wr h▸(Zyb v (xs.map wr)).imp (Zxo v xs) (λ_ h=>fpm h)
theorem Mm(hs:Sz 65536 xs):Qd prog 195 #[v] [Yx 2 wv v xs] (.int .i64 (Xx xs:Int)):=by
 refine Zh func195 ntmps195 λh g f c=>?_;refine Pg (Mh (i:=1) J Zr) λd=>go 19 ?_;refine lp (G:=Nat) [6,7] [0,1] (λk=>[(8,.int .i64 (k:Int)),(3,.int .i64 (Xx (xs.take k):Int))]) (λk=>[]) (λk=>k<=xs.length) (λk=>xs.length-k) 0 O1 K2 aA ?_;rintro k e;refine go 6 ?_;refine Ze J (λa=>?_) (λa=>?_)
 .refine go 8 ⟨O2,O2,?_⟩;refine Ym (Ya 2) λb _=>go 6 ?_;refine cl 2 [] (Zk7 (hs.getD _)) λ_ _=>?_;refine dt (Zco J J J)<|go 8 ⟨O,?_⟩;exact Yh (k+1) O1 O1 ⟨J,by rw [Pq 0 _ _ O,Ykj];exact aH some (Zce O),aA⟩ aA
 .refine go 12 ?_;exact Xo c () results195 (by rw [bM O]) aA Za
theorem Zr6{e f:Int}{n:Bool}{s:ByteArray}:Zdy prog 238 #[.pointer (some ⟨bd,0,none⟩),.agg #[.bool n,.string s],.int .i64 f] [] false bd t #[.int .i64 e] (G:=Unit) (λ_=>True) (λ_=> .agg #[.bool n,.string s]) (λ_=>#[.int .i64 (if e=0 then f else e)]) (λ_=>[]):=by
 refine Dk func238 J ntmps238 J aA ?_;intro j i g c;have g:=Hw.mk g;simp only [Pa,Xb];refine go 2 ?_;refine Ym (Yr 2) λb _=>Ym (Ya 3) λh _=>go 12 ?_;refine Ze J (λd=>?_) (λd=>?_)
 .refine go 15 ?_;exact Dr (.inl J) c () (λa w hs=>Zb6 hs results238 (Eo 3 J J isAgg80 Kn J)) J aA 1 J (by simp_all [Fd]) J J Za
 .refine go 9 ?_;exact Dr (.inl J) c () (λa w hs=>Zb6 hs results238 (Eo 3 J J isAgg80 Kn J)) J aA 1 J (by simp_all [Fd]) J J Za
theorem d_mul_(bd:Nat)(e x y:Int)(h:bl x.natAbs<=65536)(i:bl y.natAbs<=65536):Zdy prog 191 #[.pointer (some ⟨bd,0,none⟩),wv x,wv y] [] false bd 250 #[.int .i64 e] (G:=Unit) (λ_=>True) (λ_=>wv (Zbn (x*y))) (λ_=>#[.int .i64 (err e (x*y))]) (λ_=>[]):=by refine Dk func191 J ntmps191 J aA ?_;intro k j d c;have d:=Hw.mk d;simp only [Pa,Xb];refine go 2 ?_;refine Ym (Yr 2) λb _=>Ym (Yr 3) λf _=>Ym (Ya 4) λg _=>go 3 ?_;refine Qf (λx=>x=bd) [(0,0),(1,0),(2,0),(3,0),(4,0),(5,1),(6,0),(7,0),(8,1),(9,3)]<|go 5 ?_;refine Yw (Zm 4 [] (Ztn ‹_› ‹_›)) λ_ _=>go 2 ?_;refine Kr J (Qz 4 1 Zr6 J J J K3 call238 J O3 Zn J d.h J) λ_ _=>go 4 ?_;exact Dr (.inl J) c () (λa w hs=>Zb6 hs results191 (Eo 4 J J isAgg80 Kn J)) J aA 1 J J J J Za
theorem Cd(c:bl x.natAbs<=65536)(d:bl y.natAbs<=65536)(a:bl (x*y).natAbs<=65536):Zdy prog 191 #[.pointer (some ⟨bd,0,none⟩),wv x,wv y] [] false bd 250 #[.int .i64 0] (G:=Unit) (λ_=>True) (λ_=>wv (x*y)) (λ_=>#[.int .i64 0]) (λ_=>[]):=by have h:=d_mul_ bd 0 x y c d;rw [Hh a,Zy0 a]at h;exact h
theorem d_add_(bd:Nat)(e x y:Int)(h:bl x.natAbs<=65536)(i:bl y.natAbs<=65536):Zdy prog 196 #[.pointer (some ⟨bd,0,none⟩),wv x,wv y] [] false bd 250 #[.int .i64 e] (G:=Unit) (λ_=>True) (λ_=>wv (Zbn (x+y))) (λ_=>#[.int .i64 (err e (x+y))]) (λ_=>[]):=by refine Dk func196 J ntmps196 J aA ?_;intro k j d c;have d:=Hw.mk d;simp only [Pa,Xb];refine go 2 ?_;refine Ym (Yr 2) λb _=>Ym (Yr 3) λf _=>Ym (Ya 4) λg _=>go 3 ?_;refine Qf (λx=>x=bd) [(0,0),(1,0),(2,0),(3,0),(4,0),(5,1),(6,0),(7,0),(8,1),(9,3)]<|go 5 ?_;refine Yw (Zm 4 [] (Ztq ‹_› ‹_›)) λ_ _=>go 2 ?_;refine Kr J (Qz 4 1 Zr6 J J J K3 call238 J O3 Zn J d.h J) λ_ _=>go 4 ?_;exact Dr (.inl J) c () (λa w hs=>Zb6 hs results196 (Eo 4 J J isAgg80 Kn J)) J aA 1 J J J J Za
theorem Zna(c:bl x.natAbs<=65536)(d:bl y.natAbs<=65536)(a:bl (x+y).natAbs<=65536):Zdy prog 196 #[.pointer (some ⟨bd,0,none⟩),wv x,wv y] [] false bd 250 #[.int .i64 0] (G:=Unit) (λ_=>True) (λ_=>wv (x+y)) (λ_=>#[.int .i64 0]) (λ_=>[]):=by have h:=d_add_ bd 0 x y c d;rw [Hh a,Zy0 a]at h;exact h
theorem d_sub_(bd:Nat)(e x y:Int)(h:bl x.natAbs<=65536)(i:bl y.natAbs<=65536):Zdy prog 194 #[.pointer (some ⟨bd,0,none⟩),wv x,wv y] [] false bd 250 #[.int .i64 e] (G:=Unit) (λ_=>True) (λ_=>wv (Zbn (x-y))) (λ_=>#[.int .i64 (err e (x-y))]) (λ_=>[]):=by refine Dk func194 J ntmps194 J aA ?_;intro k j d c;have d:=Hw.mk d;simp only [Pa,Xb];refine go 2 ?_;refine Ym (Yr 2) λb _=>Ym (Yr 3) λf _=>Ym (Ya 4) λg _=>go 3 ?_;refine Qf (λx=>x=bd) [(0,0),(1,0),(2,0),(3,0),(4,0),(5,1),(6,0),(7,0),(8,1),(9,3)]<|go 5 ?_;refine Yw (Zm 4 [] (Ygm ‹_› ‹_›)) λ_ _=>go 2 ?_;refine Kr J (Qz 4 1 Zr6 J J J K3 call238 J O3 Zn J d.h J) λ_ _=>go 4 ?_;exact Dr (.inl J) c () (λa w hs=>Zb6 hs results194 (Eo 4 J J isAgg80 Kn J)) J aA 1 J J J J Za
theorem Zy4(c:bl x.natAbs<=65536)(d:bl y.natAbs<=65536)(a:bl (x-y).natAbs<=65536):Zdy prog 194 #[.pointer (some ⟨bd,0,none⟩),wv x,wv y] [] false bd 250 #[.int .i64 0] (G:=Unit) (λ_=>True) (λ_=>wv (x-y)) (λ_=>#[.int .i64 0]) (λ_=>[]):=by have h:=d_sub_ bd 0 x y c d;rw [Hh a,Zy0 a]at h;exact h
theorem Ymg(hs:Sz 65536 xs):Cal prog 192 #[.pointer (some ⟨bd,0,none⟩),v] [Ky bd 250 #[.int .i64 0],Yx 2 wv v xs] true (G:=Unit) (λ_=>True) (λ_=> .tuple #[Kz v (tzl xs).length,.int .i64 0]) (λ_=>[Yx 2 wv (Kz v (tzl xs).length) (tzl xs)]):=by
 refine Zh func192 ntmps192 λf e d c=>go 17 ?_;refine Ze J (λa=>?_) (λa=>?_)
 .exfalso;simp_all
 .refine go 5 ?_;refine cl 3 [2] (Zec ‹_›) λ_ _=>go 5 ?_;exact Nx c () results192 J aA (Ps 3 Za)
theorem Ia(c:Int)(g:Vp xs)(m:bl c.natAbs<=65536)(h:∀i,bl (cf xs i*c).natAbs<=65536):Cal prog 136 #[v,wv c] [Yx 2 wv v xs] true (G:=Value) (λr=>True) (λr=> .tuple #[r,.int .i64 0]) (λr=>[Yx 2 wv r (Zq xs c)]):=by
 refine Zh func136 ntmps136 λp o e d=>?_;have f:=g.len;refine go 2 ?_;refine Ym (Yr 2) λb _=>go 8 ?_;refine cl 2 [1] (Xy ‹_›) λ_ _=>go 3 ?_;refine De 2 [] (Kw ‹_›) λ_ _=>go 9 ?_;refine Ym (Ya 3) λj _=>go 6 ?_;refine tt (Hi 4 _ 24 (enc:=wv) 0 J J J J Mx ti80 J pV.cells pV.pos J J J e.h J J) λv _=>go 12 ?_;refine lp (G:=Nat) [3,6,7,21,22] [0,1,2,3] (λk=>[(23,.int .i64 (k:Int))]) (λk=>[(4,Oa 2 80 wv v (fill xs.length k (λi=>cf xs i*c)))]) (λk=>k<=xs.length) (λk=>xs.length-k) 0 O1 K1 ⟨by rw [Ad xs.length (λi=>cf xs i*c)];rfl,aA⟩ ?_;rintro k n;refine go 6 ?_;refine Ze J (λa=>?_) (λa=>?_)
 .refine go 9 ⟨O2,O2,?_⟩;refine Ym (Ya 5) λl _=>go 9 ?_;refine tt (Qz 5 3 (Cd (g.sz.getD _) m (h _)) J J J K3 call191 J O3 Zn J e.h aA) (λ_ _=>?_);refine dt (Zv 4 k J J J J (Yb pV) Mx Kn J (by rw [Pv];omega))<|tt (Kj 4 (enc:=wv) J J J J J J pV J e.h O3 (by rw [Pv];omega)) (λ_ _=>?_);refine go 7 ⟨O,?_⟩;exact Yh (k+1) O1 O1 K1 ⟨by rw [<-Zdd O];rfl,aA⟩
 .refine go 6 ?_;obtain rfl:k=xs.length:=O;refine Zg (Xn 4 J J pV)<|Zg (Zff 3 J J)<|go 2 ?_;refine cl 6 [3,4] (Ymg (by rw [Dc];exact Bf λi _=>h i)) λ_ _=>go 7 ?_;exact Nx d _ results136 J aA (Ps 6 Za (by rw [Ye2]<;>rfl))
theorem Zaj(e:Vp xs)(h:∀i,bl (cf xs (i+1)*((i:Int)+1)).natAbs<=65536):Cal prog 260 #[v] [Yx 2 wv v xs] true (G:=Value) (λr=>True) (λr=> .tuple #[r,.int .i64 0]) (λr=>[Yx 2 wv r (Yy xs)]):=by
 refine Zh func260 ntmps260 λo m f d=>?_;have g:=e.len;refine go 10 ?_;refine cl 1 [1] (Xy ‹_›) λ_ _=>go 14 ?_;refine Ze J (λa=>?_) (λa=>?_)
 .refine go 8 ?_;exact Nx d _ results260 J aA (Lh (Yjt O) Za)
 .refine go 4 ?_;refine Ym (Ya 2) λb _=>?_;refine go 7 ⟨O,?_⟩;refine tt (Hi 3 (xs.length-1) 24 (enc:=wv) 0 J J J J Mx ti80 J pV.cells pV.pos J J J f.h) λv _=>go 12 ?_;refine lp (G:=Nat) [0,4,5,18] [0,1,2] (λk=>[(19,.int .i64 (k:Int))]) (λk=>[(3,Oa 2 80 wv v (fill (xs.length-1) k (λi=>cf xs (i+1)*((i:Int)+1))))]) (λk=>k<=xs.length-1) (λk=>xs.length-1-k) 0 O1 K1 ⟨by rw [Ad (xs.length-1) (λi=>cf xs (i+1)*((i:Int)+1))];rfl,aA⟩ ?_;rintro k l;have j:(fill (xs.length-1) k (λi=>cf xs (i+1)*((i:Int)+1))).length=xs.length-1:=Pv _ _ _;refine go 6 ?_;refine Ze J (λc=>?_) (λc=>?_)
  .try rw [aT]at *
   refine go 10 ?_;refine Qf (λx=>x=b) [(0,0),(1,0),(2,0),(3,0),(4,0),(5,0),(6,0),(7,0),(8,0),(9,1),(10,1),(11,0),(12,3)]<|go 5 ⟨O,?_⟩;refine Xj J J (st1 2 J (Zv 1 (k+1) J J J J Zr Mx Kn))<|go 3 ⟨O,O,?_⟩;refine Yw (Zm 3 [] (Zz _ (by first|assumption|exact⟨O,O⟩))) λ_ _=>?_;refine Kr J (Qz 3 2 (Cd (x:=cf xs (k+1)) (y:=((k:Int)+1)) (e.sz _) (aB (Of (n:=32) O) O3) (h k)) J J J K3 call191 J O3 Zn J f.h J) (λ_ _=>?_);refine Xj J J (st1 2 J (Zv 3 k J J J J (Yb pV) Mx Kn J (by rw [Pv];omega)))<|r3' J (Kj 3 (enc:=wv) J J J J J J pV J f.h O3 (by rw [Pv];omega)) (λ_ _=>?_);refine go 7 ⟨O,?_⟩;exact Yh (k+1) O1 O1 K1 ⟨by rw [<-Zdd O];rfl,aA⟩
  .try rw [aT]at *
   refine go 6 ?_;obtain rfl:k=xs.length-1:=O;refine Zg (Xn 3 J J pV)<|Zg (Zff 2 J J)<|go 2 ?_;refine cl 4 [2,3] (Ymg (by rw [Dc];exact Bf λi _=>h i)) λ_ _=>go 7 ?_;exact Nx d _ results260 J aA (Ps 4 Za (by rw [Yp7 e.tr]<;>rfl))
theorem Zq4(j:Vp xs):Qd prog 197 #[v] [Yx 2 wv v xs] (.tuple #[wv (Ys xs),.int .i64 0]):=by
 refine Zh func197 ntmps197 λr q n i=>?_;have l:=j.len;have d:∀k,bl (Ys (xs.take k)).natAbs<=65536:=λk=>Zbg _ (j.sz.take k);refine go 2 ?_;refine Ym (Ya 2) λb _=>go 7 ?_;refine cl 2 [1] (Xy ‹_›) λ_ _=>go 8 ?_;refine Ym (Ya 3) λf _=>go 4 ?_;refine Ym (Ya 4) λg _=>go 11 ?_;refine lp (G:=Nat) [2,4,5,12,13] [0,1,2] (λk=>[(14,.int .i64 (k:Int))]) (λk=>[(4,box g 80 #[.bool (decide (Ys (xs.take k)<0)),.string (Qp (Ys (xs.take k)).natAbs)]),(3,box f 250 #[.int .i64 0])]) (λk=>k<=xs.length) (λk=>xs.length-k) 0 O1 K1 K2 ?_;rintro k o;have e:=λh=>Ll (p:=xs) (k:=k) h;refine go 6 ?_;refine Ze J (λc=>?_) (λc=>?_)
 .refine go 8 ⟨O2,O2,?_⟩;refine Ym (Ya 5) λm _=>go 7 ?_;refine cl 5 [] (Ztp (Ys (xs.take k)) (xs.getD k 0) (d _) (j.sz.getD _)) λ_ _=>go 2 ?_;refine tt (Qz 5 3 Zr6 J J J K3 call238 J O3 Zn J n.h aA) (λ_ _=>?_);refine go 8 ⟨O,?_⟩;have a:=d (k+1);rw [e O]at a;exact Yh (k+1) O1 O1 K1 ⟨by rw [e O];simp only [Hh a];rfl,by simp only [Zrz a];rfl,aA⟩
 .refine go 6 ?_;refine Po [3,4] [5]<|Zj 0 [(0,0),(1,0),(2,0),(3,0),(4,1),(5,3)]<|go 7 ?_;refine Zt<|go 2 ?_;exact Nx i () results197 (by rw [show k=xs.length by omega,bK]<;>rfl) aA Za
theorem Zob{c:Int}(l:Sz 65536 xs)(j:xs.length<=1000)(q:bl c.natAbs<=65536)(s:∀i,c∣cf xs i)(f:xs≠[]->c≠0):Cal prog 198 #[v,wv c] [Yx 2 wv v xs] true (G:=Value) (λr=>True) (λr=> .tuple #[r,.int .i64 0]) (λr=>[Yx 2 wv r (xs.map (· / c))]):=by
 refine Zh func198 ntmps198 λB z m h=>go 2 ?_;refine Ym (Yr 2) λb _=>go 8 ?_;refine tt (Hi 3 _ 24 (enc:=wv) 0 J J J J Mx ti80 J pV.cells pV.pos J J J m.h J J) λv _=>go 12 ?_;refine lp (G:=Nat) [3,6,15,16] [0,1,2] (λk=>[(17,.int .i64 (k:Int))]) (λk=>[(3,Oa 2 80 wv v (fill xs.length k (λi=>cf xs i/c)))]) (λk=>k<=xs.length) (λk=>xs.length-k) 0 O1 K1 ⟨by rw [Ad xs.length (λi=>cf xs i/c)];rfl,aA⟩ ?_;rintro k w;have g:Zbn (xs.getD k 0/c)=cf xs k/c:=Hh (Hg (s k) (l k));refine go 6 ?_;refine Ze J (λa=>?_) (λa=>?_)
 .refine go 9 ⟨O2,O2,?_⟩;refine Ym (Ya 4) λn _=>go 8 ?_;refine cl 4 [] (Af (l.getD _) q (f (by intro e;rw [e]at a;simp at a;omega))) λ_ _=>go 4 ?_;refine Ym (Ya 5) λo _=>Ym (Ya 6) λp _=>go 12 ?_;refine Ze J (λd=>?_) (λd=>?_)
  .exfalso;simp_all
  .refine go 6 ?_;refine dt (Zv 3 k J J J J (Yb pV) Mx Kn J (by rw [Pv];omega))<|tt (Kj 3 (enc:=wv) J J J J J J pV J m.h O3 (by rw [Pv];omega)) (λ_ _=>?_);refine go 7 ⟨O,?_⟩;exact Yh (k+1) O1 O1 K1 ⟨by rw [<-Zdd O];simp only [g];rfl,aA⟩
 .refine go 13 ?_;obtain rfl:k=xs.length:=O;exact Nx h _ results198 J aA (gow 3 Za (by rw [Dc,Zrj xs (· / c)]<;>rfl))
theorem Mz(c:Vp xs):Cal prog 140 #[v] [Yx 2 wv v xs] true (G:=Value) (λr=>True) (λr=> .tuple #[r,.int .i64 0]) (λr=>[Yx 2 wv r (Zw xs)]):=by
 refine Zh func140 ntmps140 λh g f d=>?_;have e:=c.len;refine go 9 ?_;refine cl 1 [1] (Zq4 ‹_›) λ_ _=>go 3 ?_;refine Ym (Ya 2) λb _=>go 11 ?_;refine Ze J (λa=>?_) (λa=>?_)
 .exfalso;simp_all
 .refine go 6 ?_;refine cl 3 [1] (Zob c.sz O (Zbg _ c.sz) (Ly _) c.ne) λ_ _=>go 7 ?_;exact Nx d _ results140 J aA (Ps 3 Za J)
theorem Ye6(n:Vp xs)(S:bl x.natAbs<=65536)(hy:bl y.natAbs<=65536)(a8:0<y):Qd prog 308 #[v,rX x y] [Yx 2 wv v xs] (.tuple #[wv (evv xs x y),.int .i64 (eve xs x y)]):=by
 refine Zh func308 ntmps308 λw0 sc p o=>?_;have c:=n.len;refine go 2 ?_;refine Ym (Yr 2) λb _=>Ym (Ya 3) λZ _=>go 7 ?_;refine cl 3 [1] (Xy ‹_›) λ_ _=>go 3 ?_;refine De 3 [] (Ka ‹_› ‹_› ‹_›) λ_ _=>go 15 ?_;refine Ze J (λj=>?_) (λj=>?_)
 .refine go 2 ?_;refine dt (Qv [] J aA (λa w hs=>b80_))<|go 6 ?_;exact Nx o () results308 (by rw [aC (l:=xs) O];rfl) aA Za
 .have M:xs≠[]:=λe=>by rw [e]at j;simp at j
  have a6:=Qu n.sz;have g:Sz 65536 [x,y]:=Sz.of_mem (by intro z V;simp at V;rcases V with rfl|rfl<;>assumption);have I:=Qu g;have a7:(xs.length-1)*Xx [x,y]<=24*65536:=aU O I;have f:((xs.length:Int)-1)*(Xx [x,y]:Int)=(((xs.length-1)*Xx [x,y]:Nat):Int):=by rw [fB];congr 1;omega
  refine go 3 ?_;refine jn (G:=Unit) [0,3,4] [0,1,2,3] (λ_=>[(37,.bool (decide ((65536:Int)<(Xx xs:Int)+((xs.length:Int)-1)*(Xx [x,y]:Int)+8)))]) (λ_=>[]) (λ_=>True) ?_ ?_
  .refine Ku (λ_=>False) []<|Zj 7 [(0,0),(2,0),(3,0),(4,0),(5,0),(6,0),(7,0),(8,0)]<|go 9 ⟨O,?_⟩;refine Qw 6 1 9 ?_ ?_
   .refine Ot (Zm 3 [1] (Mm (by first|exact n.sz|exact g))) λ_ _=>?_;refine Zj 0 [(9,1),(10,1),(11,0),(12,0),(13,0),(14,0)]<|Kr J (Xv [(0,_),(1,_)] 90 (enc:=wv) [x,y] J J K4 Yog ti80 J J J J J pV.cells J J p.h) λv _=>Yw (Zm 3 [90] (Mm (by first|exact n.sz|exact g))) λ_ _=>?_;refine go 5 ⟨by rw [f];exact⟨O,O⟩,by rw [f];exact⟨O,O⟩,by rw [f];exact⟨O,O⟩,?_⟩;exact Zt<|Od () aA K1 aA
   .refine Kl J J (Xv [(0,_),(1,_)] 90 (enc:=wv) [x,y] J J K4 Yog ti80 J J J J J pV.cells J J p.h) (λa9 _=>?_);refine Zj 0 [(1,1),(10,1),(11,0),(12,0),(13,0),(14,0)]<|Yw (Zm 3 [1] (Mm (by first|exact n.sz|exact g))) λ_ _=>Yw (Zm 3 [90] (Mm (by first|exact n.sz|exact g))) λ_ _=>?_;refine go 5 ⟨by rw [f];exact⟨O,O⟩,by rw [f];exact⟨O,O⟩,by rw [f];exact⟨O,O⟩,?_⟩;exact Zt<|Od () aA K1 aA
  .rintro _ -;refine Ze J (λm=>?_) (λm=>?_)
   .have B:Ib xs x y:=⟨M,by rw [f]at m;omega⟩;refine go 2 ?_;refine dt (Qv [] J aA (λa w hs=>b80_))<|go 6 ?_;exact Nx o () results308 (by unfold evv eve;rw [aG B,aG B]<;>rfl) aA Za
   .have i:Xx xs+(xs.length-1)*Xx [x,y]+8<=65536:=by rw [f]at m;omega
    refine go 4 ?_;refine Ym (Ya 4) λH _=>go 2 ?_;refine jn (G:=Nat×Nat) [0,3,4,6] [0,1,2,3,4] (λq=>[(7,.pointer (some ⟨q.1,0,none⟩)),(8,.pointer (some ⟨q.2,0,none⟩))]) (λq=>[(97,box q.1 80 (wc (xs.getD (xs.length-1) 0))),(98,box q.2 80 (wc 1))]) (λq=>True) ?_ ?_
    .refine Ku (λ_=>False) [9,10]<|Zj 5 [(0,0),(1,0),(2,0),(3,0),(4,0),(5,0)]<|go 4 ⟨O,?_⟩;refine Xj J J (Xq (Zv 1 (xs.length-1) J J J J Zr Mx Kn))<|go 2 ⟨O,?_⟩;refine Zdw 4 6 7 8 ?_ ?_ ?_
     .refine Ot (Zm 4 [] (Zz _ (by first|assumption|exact⟨O,O⟩))) λ_ _=>?_;refine Qw 3 7 8 ?_ ?_
      .refine Ot (Ya 97) λa0 _=>?_;refine Zj 0 [(8,1),(9,3),(10,3)]<|Yw (Ya 98) λa1 _=>go 3 ?_;exact Zt<|Od (_,_) aA K2 K2
      .refine Ot (Ya 98) λa2 _=>?_;refine Zj 0 [(7,1),(9,3),(10,3)]<|Yw (Ya 97) λa3 _=>go 3 ?_;exact Zt<|Od (_,_) aA K2 K2
     .refine Ot (Ya 97) λa4 _=>?_;refine Qw 3 6 8 ?_ ?_
      .refine Ot (Zm 4 [] (Zz _ (by first|assumption|exact⟨O,O⟩))) λ_ _=>?_;refine Zj 0 [(8,1),(9,3),(10,3)]<|Yw (Ya 98) λa5 _=>go 3 ?_;exact Zt<|Od (_,_) aA K2 K2
      .refine Ot (Ya 98) λN _=>?_;refine Zj 0 [(6,1),(9,3),(10,3)]<|Yw (Zm 4 [] (Zz _ (by first|assumption|exact⟨O,O⟩))) λ_ _=>go 3 ?_;exact Zt<|Od (_,_) aA K2 K2
     .refine Ot (Ya 98) λP _=>?_;refine Qw 3 6 7 ?_ ?_
      .refine Ot (Zm 4 [] (Zz _ (by first|assumption|exact⟨O,O⟩))) λ_ _=>?_;refine Zj 0 [(7,1),(9,3),(10,3)]<|Yw (Ya 97) λQ _=>go 3 ?_;exact Zt<|Od (_,_) aA K2 K2
      .refine Ot (Ya 97) λR _=>?_;refine Zj 0 [(6,1),(9,3),(10,3)]<|Yw (Zm 4 [] (Zz _ (by first|assumption|exact⟨O,O⟩))) λ_ _=>go 3 ?_;exact Zt<|Od (_,_) aA K2 K2
    .rintro⟨W,Y⟩ -;dsimp only;refine go 10 ⟨O,?_⟩;refine lp (G:=Nat) [0,3,4,6,7,8] [0,1,2,3,4] (λk=>[(9,.int .i64 ((k:Int)-1))]) (λk=>[(97,box W 80 (wc (Lz xs x y k))),(98,box Y 80 (wc (y^(xs.length-1-k))))]) (λk=>k<=xs.length-1) (λk=>k) (xs.length-1) O1 ⟨by rw [show((xs.length-1:Nat):Int)-1=(xs.length:Int)-2 by omega];rfl,aA⟩ ⟨by rw [Yqz x y O];rfl,by rw [gE,cL];rfl,aA⟩ ?_;rintro k D;refine go 7 ?_;refine Ze J (λr=>?_) (λr=>?_)
     .have d:y^(xs.length-1-k)*y=y^(xs.length-1-(k-1)):=Yjj y O D;have F:Lz xs x y k*x+xs.getD (k-1) 0*y^(xs.length-1-(k-1))=Lz xs x y (k-1):=Yft x y O D;refine go 9 ?_;refine tt (Qz 4 4 (Cd (Zr8 i) hy (by rw [d];exact Zr8 i)) J J J K3 call191 J O3 Zn J p.h aA) λ_ _=>go 3 ?_;refine Qf (λx=>x=H) [(0,0),(1,0),(2,0),(4,0),(5,0),(6,0),(7,0),(8,0),(3,1),(9,1),(10,1),(11,3)]<|go 5 ?_;refine Xj J J (st1 4 J (Zv 1 (k-1) J J J J Zr Mx Kn))<|go 2 ⟨O,?_⟩;refine Kr J (Qz 4 4 (Cd (by first|exact Zr9 i c _|exact n.sz.getD _) (by first|exact S|(rw [d];exact Zr8 i)) (by first|exact Zyy i c O D|(rw [d];exact Zr7 i))) J J J K3 call191 J O3 Zn J p.h J) (λ_ _=>?_);refine Kr J (Qz 4 4 (Cd (by first|exact Zr9 i c _|exact n.sz.getD _) (by first|exact S|(rw [d];exact Zr8 i)) (by first|exact Zyy i c O D|(rw [d];exact Zr7 i))) J J J K3 call191 J O3 Zn J p.h J) (λ_ _=>?_);refine Kr J (Qz 4 4 (Zna (Zyy i c O D) (by rw [d];exact Zr7 i) (by rw [d,F];exact Zr9 i c _)) J J J K3 call196 J O3 Zn J p.h J) (λ_ _=>?_);refine go 9 ⟨O,?_⟩;exact Yh (k-1) O1 O1 ⟨by rw [show((k-1:Nat):Int)-1=(k:Int)-1-1 by omega];rfl,aA⟩ ⟨by rw [d,F];rfl,by rw [d];rfl,aA⟩
     .refine go 14 ?_;refine Ze J (λs=>?_) (λs=>?_)
      .exfalso;simp_all
      .refine go 10 ?_;obtain rfl:k=0:=O;have B:¬Ib xs x y:=λh=>by have:=h.2;omega
       exact Nx o () results308 (by unfold evv eve;rw [aD B,aD B,<-Zv4]<;>rfl) aA Za
theorem Zu6(e:Vp xs)(g:bl x.natAbs<=65536)(h:bl y.natAbs<=65536)(d:0<y):Qd prog 291 #[v,rX x y] [Yx 2 wv v xs] (.tuple #[.int .i64 (evv xs x y).sign,.int .i64 (eve xs x y)]):=by refine Zh func291 ntmps291 λk j i c=>?_;have a:=e.len;refine go 2 ?_;refine Ym (Yr 2) λb _=>go 8 ?_;refine cl 2 [1] (Ye6 e g h d) λ_ _=>go 3 ?_;refine Ym (Ya 3) λf _=>go 7 ?_;refine cl 3 [] (Hl (evv_bl a)) λ_ _=>go 6 ?_;exact Nx c () results291 J aA Za
theorem Zbm(hs:Sz 65536 xs):Zdy prog 192 #[.pointer (some ⟨bd,0,none⟩),v] [Yx 2 wv v xs] true bd 250 #[.int .i64 0] (G:=Unit) (λ_=>True) (λ_=> .tuple #[Kz v (tzl xs).length,.int .i64 0]) (λ_=>#[.int .i64 0]) (λ_=>[Yx 2 wv (Kz v (tzl xs).length) (tzl xs)]):=by
 refine Dk func192 J ntmps192 J K1 ?_;intro g f e d;have e:=Hw.mk e;simp only [Pa,Xb];refine go 17 ?_;refine Ze J (λc=>?_) (λc=>?_)
 .exfalso;simp_all
 .refine go 5 ?_;refine cl 3 [2] (Zec ‹_›) λ_ _=>go 5 ?_;exact Dr (.inl J) d () (λa w hs=>Yey hs results192 J J) J aA 1 J J J J (Gq 3 J J J Za)
theorem Ydc(h:xs.length*24<=140737488355328:=by omega):Yn5 prog 305 #[v] [Yx 2 wv v xs] (G:=Value) (λr=>True) (λr=>r) (λr=>Oa 2 80 wv r xs):=by
 refine Zs1 func305 J ntmps305 J K1 ?_;intro k j e f;have e:=Hw.mk e;simp only [Pa,Xb];refine Pg (Ylr (i:=1) J Zr) λd=>go 9 ?_;refine dt (Zsi J J J (i:=1) J Zr Mx)<|go 2 ?_;refine Md J (λc=>?_) (λc=>?_)
 .refine go 7 ?_;obtain rfl:xs=[]:=d (by simpa using c);exact Zs (Qy 9 2 80 wv)<|Zhw (.inl J) (.slice none 0 0) (λa w hs=>Zb6 hs results305 J) J aA J 9 J J J
 .refine go 4 ?_;refine tt (Yg3 2 (enc:=wv) J J J Mx pV J e.h) λv _=>go 1 ?_;refine tt (Px 2 1 24 J J J J J J O3 J Zr Mx ti80 J pV J J J O8 O3 J e.h) λg _=>go 4 ?_;exact Zhw (.inl J) _ (λa w hs=>Zb6 hs results305 J) J aA J 2 J (by rfl) J
theorem Zjg(d:Vp xs):Qd prog 301 #[v] [Yx 2 wv v xs] (.tuple #[.int .i64 ((xs.length:Int)-1),.int .i64 0]):=by refine Zh func301 ntmps301 λg f e a=>?_;have c:=d.len;refine go 10 ?_;refine cl 1 [1] (Xy ‹_›) λ_ _=>?_;refine go 16 ⟨O,?_⟩;exact Nx a () results301 J aA Za
theorem Zpb(c:Vp xs):Qd prog 302 #[v] [Yx 2 wv v xs] (.tuple #[.int .i64 (Xx xs:Int),.int .i64 0]):=by refine Zh func302 ntmps302 λf e d a=>go 10 ?_;refine cl 1 [1] (Xy ‹_›) λ_ _=>go 9 ?_;refine cl 1 [1] (Mm c.sz) λ_ _=>go 5 ?_;exact Nx a () results302 J aA Za
theorem Zwx(n:Vp xs)(m:Vp ys)(o:∀i,bl (cf xs i+cf ys i).natAbs<=65536):Zdy prog 193 #[v,u,.pointer (some ⟨bd,0,none⟩),.func (.func 196) #[.pointer (some ⟨bd,0,none⟩)] #[]] [Yx 2 wv v xs,Yx 2 wv u ys] true bd 250 #[.int .i64 0] (G:=Value) (λr=>True) (λr=> .tuple #[r,.int .i64 0]) (λr=>#[.int .i64 0]) (λr=>[Yx 2 wv r (Ht xs ys)]):=by
 refine Dk func193 J ntmps193 J K2 ?_;intro B z c j;have c:=Hw.mk c;simp only [Pa,Xb];have l:=n.len;have h:=m.len;refine go 10 ?_;refine cl 3 [2] (Xy ‹_›) λ_ _=>go 3 ?_;refine De 3 [3] (Xy ‹_›) λ_ _=>go 13 ?_;refine dt (Zco J J J)<|tt (Hi 4 (max xs.length ys.length) 24 (enc:=wv) 0 J J J J Mx ti80 J pV.cells pV.pos J J J c.h) λv _=>go 12 ?_;refine lp (G:=Nat) [0,1,2,3,10,29] [0,1,2,3] (λk=>[(30,.int .i64 (k:Int))]) (λk=>[(4,Oa 2 80 wv v (fill (max xs.length ys.length) k (λi=>cf xs i+cf ys i)))]) (λk=>k<=max xs.length ys.length) (λk=>max xs.length ys.length-k) 0 O1 K1 ⟨by rw [Ad (max xs.length ys.length) (λi=>cf xs i+cf ys i)];rfl,aA⟩ ?_;rintro k s;have q:(fill (max xs.length ys.length) k (λi=>cf xs i+cf ys i)).length=max xs.length ys.length:=Pv _ _ _;refine go 6 ?_;refine Ze J (λd=>?_) (λd=>?_)
 .try rw [aT]at *
  refine go 12 ?_;refine Ym (Ya 5) λb _=>Ym (Ya 6) λg _=>go 2 ?_;refine jn (G:=Unit) [0,1,2,3,10,11,12,13,29,30] [0,4,1,2,3,6] (λ_=>[]) (λ_=>[(5,box b 80 (wc (cf xs k)))]) (λ_=>True) ?_ ?_
  .refine go 8 ?_;refine Ze J (λe=>?_) (λe=>?_)
   .refine go 7 ⟨O2,O2,?_⟩;exact Od () aA aA ⟨by first|rfl|(rw [Yf (p:=xs) O];rfl),aA⟩
   .refine go 1 ?_;exact Od () aA aA ⟨by first|rfl|(rw [Yf (p:=xs) O];rfl),aA⟩
  .rintro _ -;refine jn (G:=Unit) [0,1,2,3,10,11,12,13,29,30] [0,5,4,1,2,3] (λ_=>[]) (λ_=>[(6,box g 80 (wc (cf ys k)))]) (λ_=>True) ?_ ?_
   .refine go 8 ?_;refine Ze J (λf=>?_) (λf=>?_)
    .refine go 7 ⟨O2,O2,?_⟩;exact Od () aA aA ⟨by first|rfl|(rw [Yf (p:=ys) O];rfl),aA⟩
    .refine go 1 ?_;exact Od () aA aA ⟨by first|rfl|(rw [Yf (p:=ys) O];rfl),aA⟩
   .rintro _ -;refine go 6 ?_;refine tt (Ztx 6 1 [_] [_,_] (Zna (n.sz _) (m.sz _) (o _)) J J J J K2 call196 J O3 Zn J c.h aA) (λ_ _=>?_);refine dt (Zv 4 k J J J J (Yb pV) Mx Kn J (by rw [Pv];omega))<|tt (Kj 4 (enc:=wv) J J J J J J pV J c.h O3 (by rw [Pv];omega)) (λ_ _=>?_);refine go 7 ⟨O,?_⟩;exact Yh (k+1) O1 O1 K1 ⟨by rw [<-Zdd O];rfl,aA⟩
 .try rw [aT]at *
  refine go 6 ?_;obtain rfl:k=max xs.length ys.length:=O;refine Zg (Xn 4 J J pV)<|go 3 ?_;refine tt (Qz 7 1 (Zbm (by rw [Dc];exact Bf λi _=>o i)) J J J K2 call192 J O3 (Zk 4 J J J Zn) J c.h aA) λ_ _=>go 7 ?_;exact Dr (.inl J) j _ (λa w hs=>Yey hs results193 J J) J aA 1 J J J J (Zmz 7 J J J (by rw [Dc]<;>rfl) Za)
theorem Zww(n:Vp xs)(m:Vp ys)(o:∀i,bl (cf xs i-cf ys i).natAbs<=65536):Zdy prog 193 #[v,u,.pointer (some ⟨bd,0,none⟩),.func (.func 194) #[.pointer (some ⟨bd,0,none⟩)] #[]] [Yx 2 wv v xs,Yx 2 wv u ys] true bd 250 #[.int .i64 0] (G:=Value) (λr=>True) (λr=> .tuple #[r,.int .i64 0]) (λr=>#[.int .i64 0]) (λr=>[Yx 2 wv r (Eh xs ys)]):=by
 refine Dk func193 J ntmps193 J K2 ?_;intro B z c j;have c:=Hw.mk c;simp only [Pa,Xb];have l:=n.len;have h:=m.len;refine go 10 ?_;refine cl 3 [2] (Xy ‹_›) λ_ _=>go 3 ?_;refine De 3 [3] (Xy ‹_›) λ_ _=>go 13 ?_;refine dt (Zco J J J)<|tt (Hi 4 (max xs.length ys.length) 24 (enc:=wv) 0 J J J J Mx ti80 J pV.cells pV.pos J J J c.h) λv _=>go 12 ?_;refine lp (G:=Nat) [0,1,2,3,10,29] [0,1,2,3] (λk=>[(30,.int .i64 (k:Int))]) (λk=>[(4,Oa 2 80 wv v (fill (max xs.length ys.length) k (λi=>cf xs i-cf ys i)))]) (λk=>k<=max xs.length ys.length) (λk=>max xs.length ys.length-k) 0 O1 K1 ⟨by rw [Ad (max xs.length ys.length) (λi=>cf xs i-cf ys i)];rfl,aA⟩ ?_;rintro k s;have q:(fill (max xs.length ys.length) k (λi=>cf xs i-cf ys i)).length=max xs.length ys.length:=Pv _ _ _;refine go 6 ?_;refine Ze J (λd=>?_) (λd=>?_)
 .try rw [aT]at *
  refine go 12 ?_;refine Ym (Ya 5) λb _=>Ym (Ya 6) λg _=>go 2 ?_;refine jn (G:=Unit) [0,1,2,3,10,11,12,13,29,30] [0,4,1,2,3,6] (λ_=>[]) (λ_=>[(5,box b 80 (wc (cf xs k)))]) (λ_=>True) ?_ ?_
  .refine go 8 ?_;refine Ze J (λe=>?_) (λe=>?_)
   .refine go 7 ⟨O2,O2,?_⟩;exact Od () aA aA ⟨by first|rfl|(rw [Yf (p:=xs) O];rfl),aA⟩
   .refine go 1 ?_;exact Od () aA aA ⟨by first|rfl|(rw [Yf (p:=xs) O];rfl),aA⟩
  .rintro _ -;refine jn (G:=Unit) [0,1,2,3,10,11,12,13,29,30] [0,5,4,1,2,3] (λ_=>[]) (λ_=>[(6,box g 80 (wc (cf ys k)))]) (λ_=>True) ?_ ?_
   .refine go 8 ?_;refine Ze J (λf=>?_) (λf=>?_)
    .refine go 7 ⟨O2,O2,?_⟩;exact Od () aA aA ⟨by first|rfl|(rw [Yf (p:=ys) O];rfl),aA⟩
    .refine go 1 ?_;exact Od () aA aA ⟨by first|rfl|(rw [Yf (p:=ys) O];rfl),aA⟩
   .rintro _ -;refine go 6 ?_;refine tt (Ztx 6 1 [_] [_,_] (Zy4 (n.sz _) (m.sz _) (o _)) J J J J K2 call194 J O3 Zn J c.h aA) (λ_ _=>?_);refine dt (Zv 4 k J J J J (Yb pV) Mx Kn J (by rw [Pv];omega))<|tt (Kj 4 (enc:=wv) J J J J J J pV J c.h O3 (by rw [Pv];omega)) (λ_ _=>?_);refine go 7 ⟨O,?_⟩;exact Yh (k+1) O1 O1 K1 ⟨by rw [<-Zdd O];rfl,aA⟩
 .try rw [aT]at *
  refine go 6 ?_;obtain rfl:k=max xs.length ys.length:=O;refine Zg (Xn 4 J J pV)<|go 3 ?_;refine tt (Qz 7 1 (Zbm (by rw [Dc];exact Bf λi _=>o i)) J J J K2 call192 J O3 (Zk 4 J J J Zn) J c.h aA) λ_ _=>go 7 ?_;exact Dr (.inl J) j _ (λa w hs=>Yey hs results193 J J) J aA 1 J J J J (Zmz 7 J J J (by rw [Dc]<;>rfl) Za)
theorem Yjl(xs ys:List Int)(e:Vp xs)(d:Vp ys)(f:∀i,bl (cf xs i+cf ys i).natAbs<=65536):Cal prog 139 #[v,u] [Yx 2 wv v xs,Yx 2 wv u ys] true (G:=Value) (λr=>True) (λr=> .tuple #[r,.int .i64 0]) (λr=>[Yx 2 wv r (Ht xs ys)]):=by refine Zh func139 ntmps139 λh g c a=>go 8 ?_;refine Ym (Ya 3) λb _=>go 6 ?_;refine dt (d_mkf [_] J K1)<|tt (Qz 4 3 (Zwx ‹_› ‹_› ‹_›) J J J K4 call193 J O3 (Zk 1 J J J (Zk 2 J J J Zn)) J c.h aA) λ_ _=>go 7 ?_;exact Nx a _ results139 J aA (Ps 4 Za)
theorem Yjk(xs ys:List Int)(e:Vp xs)(d:Vp ys)(f:∀i,bl (cf xs i-cf ys i).natAbs<=65536):Cal prog 137 #[v,u] [Yx 2 wv v xs,Yx 2 wv u ys] true (G:=Value) (λr=>True) (λr=> .tuple #[r,.int .i64 0]) (λr=>[Yx 2 wv r (Eh xs ys)]):=by refine Zh func137 ntmps137 λh g c a=>go 8 ?_;refine Ym (Ya 3) λb _=>go 6 ?_;refine dt (d_mkf [_] J K1)<|tt (Qz 4 3 (Zww ‹_› ‹_› ‹_›) J J J K4 call193 J O3 (Zk 1 J J J (Zk 2 J J J Zn)) J c.h aA) λ_ _=>go 7 ?_;exact Nx a _ results137 J aA (Ps 4 Za)
theorem Zu7(xs ys:List Int)(B:Vp xs)(z:Vp ys)(M:¬Zak xs ys):Cal prog 138 #[v,u] [Yx 2 wv v xs,Yx 2 wv u ys] true (G:=Value) (λr=>True) (λr=> .tuple #[r,.int .i64 0]) (λr=>[Yx 2 wv r (Qs xs ys)]):=by
 refine Zh func138 ntmps138 λw0 sc D f=>?_;have N:=B.len;have I:=z.len;have V:=Qu B.sz;have W:=Qu z.sz;refine go 10 ?_;refine cl 2 [1] (Xy ‹_›) λ_ _=>go 3 ?_;refine De 2 [2] (Xy ‹_›) λ_ _=>go 14 ?_;refine Xg 23 J (λF=>?_) (λF=>?_)
 .refine go 15 ?_;exact Nx f _ results138 J aA (Lh (Zbe (p:=xs) (q:=ys) (by first|(left;omega)|(right;omega))) Za)
 .refine go 6 ?_;refine Ze J (λg=>?_) (λg=>?_)
  .refine go 8 ?_;exact Nx f _ results138 J aA (Lh (Zbe (p:=xs) (q:=ys) (by first|(left;omega)|(right;omega))) Za)
  .have c:xs≠[]:=by intro e;subst e;simp_all
   have d:ys≠[]:=by intro e;subst e;simp_all
   have R:0<xs.length:=aF.2 c;have S:0<ys.length:=aF.2 d;refine go 13 ⟨O,O,?_⟩;refine Xg 35 J (λH=>?_) (λH=>?_)
   .exfalso;exact M ⟨c,d,.inl O⟩
   .refine go 1 ?_;refine De 2 [1] (Mm (by first|exact B.sz|exact z.sz)) λ_ _=>go 1 ?_;refine De 2 [2] (Mm (by first|exact B.sz|exact z.sz)) λ_ _=>?_;refine go 6 ⟨O,O,?_⟩;refine Ze J (λk=>?_) (λk=>?_)
    .exfalso;exact M ⟨c,d,by first|(left;omega)|(right;omega)⟩
    .have Y:Xx xs+Xx ys+5<=65536:=O;have s:∀i j,bl (cf xs i*cf ys j).natAbs<=65536:=λi j=>by have:=Yq (cf xs i) (cf ys j);have:=Pb xs i;have:=Pb ys j;omega
     have n:∀i j t,i<25->bl (Zbr xs ys i j t).natAbs<=65536:=λi j t hi=>by have:=Ysr (i:=i) (j:=j) (t:=t) (Pb xs) (Pb ys) O;omega
     have o:∀t,bl (acc xs ys xs.length t).natAbs<=65536:=λt=>by have:=bl_acc (i:=xs.length) (t:=t) (Pb xs) (Pb ys) O;omega
     have w:∀i j,i<25->bl (Zbr xs ys i j (i+j)+cf xs i*cf ys j).natAbs<=65536:=λi j hi=>by rw [<-Yge];exact n i (j+1) _ hi
     refine go 4 ?_;refine Ym (Ya 3) λb _=>?_;refine go 10 ⟨O,O,?_⟩;refine tt (Hi 4 (xs.length+ys.length-1) 24 (enc:=wv) 0 J J J J Mx ti80 J pV.cells pV.pos J J J D.h) λv _=>go 12 ?_;refine lp (G:=Nat) [1,6,7,51,52] [0,1,2,3] (λi=>[(53,.int .i64 (i:Int))]) (λi=>[(4,Oa 2 80 wv v (mk (xs.length+ys.length-1) (acc xs ys i)))]) (λi=>i<=xs.length) (λi=>xs.length-i) 0 O1 K1 ⟨by rw [Zqt];rfl,aA⟩ ?_;rintro i hi;refine go 6 ?_;refine Ze J (λl=>?_) (λl=>?_)
     .refine go 9 ⟨O2,O2,?_⟩;refine Ym (Ya 5) λP _=>go 12 ?_;refine lp (G:=Nat) [1,6,7,8,9,51,52,53,58,59] [0,1,2,3,5] (λj=>[(60,.int .i64 (j:Int))]) (λj=>[(4,Oa 2 80 wv v (mk (xs.length+ys.length-1) (Zbr xs ys i j)))]) (λj=>j<=ys.length) (λj=>ys.length-j) 0 O1 K1 ⟨by rw [Ygd];rfl,aA⟩ ?_;rintro j Z;have a:i+j<xs.length+ys.length-1->(mk (xs.length+ys.length-1) (Zbr xs ys i j)).getD (i+j) 0=Zbr xs ys i j (i+j):=λh=>Zen h;refine go 6 ?_;refine Ze J (λm=>?_) (λm=>?_)
      .refine go 9 ⟨O2,O2,?_⟩;refine Ym (Ya 6) λQ _=>go 4 ?_;refine Qf (λx=>x=b) [(0,0),(1,0),(2,0),(3,0),(4,0),(5,0),(6,0),(7,0),(8,0),(9,0),(10,0),(11,0),(12,1),(13,1),(14,0),(15,3)]<|go 8 ⟨O,O,?_⟩;refine Xj J J (st1 3 J (Zv 4 (i+j) J J J J (Yb pV) Mx Kn O (by rw [Yu];omega)))<|go 3 ⟨by rw [Yu];omega,?_⟩;refine Kr J (Qz 6 3 (Cd (B.sz _) (z.sz _) (s i j)) J J J K3 call191 J O3 Zn J D.h J) (λ_ _=>?_);refine Kr J (Qz 6 3 (Zna (by rw [a O];exact n i j _ O) (s i j) (by rw [a O];exact w i j O)) J J J K3 call196 J O3 Zn J D.h J) (λ_ _=>?_);refine Xj J J (st1 3 J (Zv 4 (i+j) J J J J (Yb pV) Mx Kn O (by rw [Yu];omega)))<|r3' J (Kj 4 (enc:=wv) J J J J J J pV J D.h O3 (by rw [Yu];omega)) (λ_ _=>?_);refine go 7 ⟨O,?_⟩;exact Yh (j+1) O1 O1 K1 ⟨by rw [<-Yns O,<-a O];rfl,aA⟩
      .refine go 10 ⟨O,?_⟩;obtain rfl:j=ys.length:=O;exact Yh (i+1) O1 O1 K1 ⟨by rw [<-Ynt];rfl,aA⟩
     .refine go 6 ?_;obtain rfl:i=xs.length:=O;refine Zg (Xn 4 J J pV)<|go 2 ?_;refine tt (Qz 7 3 (Zbm (Bf λt _=>o t)) J J J K2 call192 J O3 (Zk 4 J J J Zn) J D.h aA) λ_ _=>go 7 ?_;exact Nx f _ results138 J aA (Ps 7 Za (by rw [Yjo]<;>rfl))
end Go.Sky

