/- Rules, arithmetic and contracts: part 15. No conditions but those that each theorem names. -/
import Derived.Test.YthennaflbbajkaaGreatAk13
set_option linter.all false
set_option maxHeartbeats 4000000
namespace Go.Sky
open Go.Proofs.Tryz
open Go.Proofs
set_option synthInstance.maxHeartbeats 0
set_option synthInstance.maxSize 100000
set_option maxRecDepth 20000
set_option linter.unusedSimpArgs false
variable{bd:Nat}{v u:Value}{xs ys:List Int}
theorem Zbl(hs:Sz 65536 xs):Zdx prog 200 #[.pointer (some ⟨bd,0,none⟩),v] [Yt 2 wv v xs] true bd 284 #[.int .i64 0] (G:=Unit) (λ_=>True) (λ_=> .tuple #[Gv v (tzl xs).length,.int .i64 0]) (λ_=>#[.int .i64 0]) (λ_=>[Yt 2 wv (Gv v (tzl xs).length) (tzl xs)]):=by
 refine Dj func200 J ntmps200 J K1 ?_;intro f e d c;have d:=Hw.mk d;simp only [Ql,Yn];refine go 17<|Zb J (λb=>?_) (λb=>?_)
 .exfalso;simp_all
 .refine go 5 ?_;refine cl 3 [2] (Zd4 ‹_›) λ_ _=>go 5 ?_;exact Dx (.inl J) c () (λa w hs=>Zw2 hs results200 J J) J aA 1 J J J J (Gx 3 J J J Za)
theorem Yby(g:xs.length*24<=140737488355328:=by omega):Ymj prog 263 #[v] [Yt 2 wv v xs] (G:=Value) (λr=>True) (λr=>r) (λr=>Nk 2 130 wv r xs):=by
 refine Zr1 func263 J ntmps263 J K1 ?_;intro j h d e;have d:=Hw.mk d;simp only [Ql,Yn];refine Mm (Yjw (i:=1) J Zl) λc=>go 9 ?_;refine dt (Zrn J J J (i:=1) J Zl Mv)<|go 2 ?_;refine Yq J (λb=>?_) (λb=>?_)
 .refine go 7 ?_;obtain rfl:xs=[]:=c (by simpa using b);exact Xh (Gg 9 2 130 wv)<|Zho (.inl J) (.slice none 0 0) (λa w hs=>Fw hs results263 J) J aA J 9 J J J
 .refine go 4 ?_;refine tt (Yfd 2 (enc:=wv) J J J Mv pV J d.h) λv _=>go 1 ?_;refine tt (Er 2 1 24 J J J J J J O4 J Zl Mv ti130 J pV J J J O10 O4 J d.h) λf _=>go 4 ?_;exact Zho (.inl J) _ (λa w hs=>Fw hs results263 J) J aA J 2 J (by rfl) J
theorem Zix(c:Vp xs):Xf prog 259 #[v] [Yt 2 wv v xs] (.tuple #[.int .i64 ((xs.length:Int)-1),.int .i64 0]):=by refine Ze func259 ntmps259 λf e d a=>?_;have b:=c.len;refine go 10 ?_;refine cl 1 [1] (Xm ‹_›) λ_ _=>?_;refine go 16 ⟨O1,?_⟩;exact Nn a () results259 J aA Za
theorem Zn6(b:Vp xs):Xf prog 260 #[v] [Yt 2 wv v xs] (.tuple #[.int .i64 (Pd xs:Int),.int .i64 0]):=by refine Ze func260 ntmps260 λe d c a=>go 10 ?_;refine cl 1 [1] (Xm ‹_›) λ_ _=>go 9 ?_;refine cl 1 [1] (Nv b.sz) λ_ _=>go 5 ?_;exact Nn a () results260 J aA Za
theorem Zvt(n:Vp xs)(m:Vp ys)(o:∀i,bl (cf xs i+cf ys i).natAbs<=65536):Zdx prog 203 #[v,u,.pointer (some ⟨bd,0,none⟩),.func (.func 202) #[.pointer (some ⟨bd,0,none⟩)] #[]] [Yt 2 wv v xs,Yt 2 wv u ys] true bd 284 #[.int .i64 0] (G:=Value) (λr=>True) (λr=> .tuple #[r,.int .i64 0]) (λr=>#[.int .i64 0]) (λr=>[Yt 2 wv r (Za7 xs ys)]):=by
 refine Dj func203 J ntmps203 J K2 ?_;intro x t c j;have c:=Hw.mk c;simp only [Ql,Yn];have l:=n.len;have h:=m.len;refine go 10 ?_;refine cl 3 [2] (Xm ‹_›) λ_ _=>go 3 ?_;refine Ln 3 [3] (Xm ‹_›) λ_ _=>go 13 ?_;refine dt (Zbk J J J)<|tt (Dt 4 (max xs.length ys.length) 24 (enc:=wv) 0 J J J J Mv ti130 J pV.cells pV.pos J J J c.h) λv _=>go 12 ?_;refine lp (G:=Nat) [0,1,2,3,10,29] [0,1,2,3] (λk=>[(30,.int .i64 (k:Int))]) (λk=>[(4,Nk 2 130 wv v (fill (max xs.length ys.length) k (λi=>cf xs i+cf ys i)))]) (λk=>k<=max xs.length ys.length) (λk=>max xs.length ys.length-k) 0 O2 K1 ⟨by rw [Ae (max xs.length ys.length) (λi=>cf xs i+cf ys i)];rfl,aA⟩ ?_;rintro k s;have q:(fill (max xs.length ys.length) k (λi=>cf xs i+cf ys i)).length=max xs.length ys.length:=Ph _ _ _;refine go 6<|Zb J (λd=>?_) (λd=>?_)
 .try rw [aX]at *
  refine go 12<|Zx (Zv 5) λb _=>Zx (Zv 6) λg _=>go 2 ?_;refine jn (G:=Unit) [0,1,2,3,10,11,12,13,29,30] [0,4,1,2,3,6] (λ_=>[]) (λ_=>[(5,box b 130 (wc (cf xs k)))]) (λ_=>True) ?_ ?_
  .refine go 8<|Zb J (λe=>?_) (λe=>?_)
   .refine go 7 ⟨O3,O3,?_⟩;exact Fb () aA aA ⟨by first|rfl|(rw [Yx (p:=xs) O1];rfl),aA⟩
   .refine go 1 ?_;exact Fb () aA aA ⟨by first|rfl|(rw [Yx (p:=xs) O1];rfl),aA⟩
  .rintro _ -;refine jn (G:=Unit) [0,1,2,3,10,11,12,13,29,30] [0,5,4,1,2,3] (λ_=>[]) (λ_=>[(6,box g 130 (wc (cf ys k)))]) (λ_=>True) ?_ ?_
   .refine go 8<|Zb J (λf=>?_) (λf=>?_)
    .refine go 7 ⟨O3,O3,?_⟩;exact Fb () aA aA ⟨by first|rfl|(rw [Yx (p:=ys) O1];rfl),aA⟩
    .refine go 1 ?_;exact Fb () aA aA ⟨by first|rfl|(rw [Yx (p:=ys) O1];rfl),aA⟩
   .rintro _ -;refine go 6 ?_;refine tt (Zsy 6 1 [_] [_,_] (Zmp (n.sz _) (m.sz _) (o _)) J J J J K2 call202 J O4 Zo J c.h aA) (λ_ _=>?_);refine dt (Yk 4 k J J J J (Yu pV) Mv Oc J (by rw [Ph];omega))<|tt (Lu 4 (enc:=wv) J J J J J J pV J c.h O4 (by rw [Ph];omega)) (λ_ _=>?_);refine go 7 ⟨O1,?_⟩;exact Yj (k+1) O2 O2 K1 ⟨by rw [<-Zdh O1];rfl,aA⟩
 .try rw [aX]at *
  refine go 6 ?_;obtain rfl:k=max xs.length ys.length:=O1;refine Zq (Ns 4 J J pV)<|go 3 ?_;refine tt (Qo 7 1 (Zbl (by rw [Dd];exact Zgy λi _=>o i)) J J J K2 call200 J O4 (Yc 4 J J J Zo) J c.h aA) λ_ _=>go 7 ?_;exact Dx (.inl J) j _ (λa w hs=>Zw2 hs results203 J J) J aA 1 J J J J (Zma 7 J J J (by rw [Dd]<;>rfl) Za)
theorem Zvs(n:Vp xs)(m:Vp ys)(o:∀i,bl (cf xs i-cf ys i).natAbs<=65536):Zdx prog 203 #[v,u,.pointer (some ⟨bd,0,none⟩),.func (.func 204) #[.pointer (some ⟨bd,0,none⟩)] #[]] [Yt 2 wv v xs,Yt 2 wv u ys] true bd 284 #[.int .i64 0] (G:=Value) (λr=>True) (λr=> .tuple #[r,.int .i64 0]) (λr=>#[.int .i64 0]) (λr=>[Yt 2 wv r (Bq xs ys)]):=by
 refine Dj func203 J ntmps203 J K2 ?_;intro x t c j;have c:=Hw.mk c;simp only [Ql,Yn];have l:=n.len;have h:=m.len;refine go 10 ?_;refine cl 3 [2] (Xm ‹_›) λ_ _=>go 3 ?_;refine Ln 3 [3] (Xm ‹_›) λ_ _=>go 13 ?_;refine dt (Zbk J J J)<|tt (Dt 4 (max xs.length ys.length) 24 (enc:=wv) 0 J J J J Mv ti130 J pV.cells pV.pos J J J c.h) λv _=>go 12 ?_;refine lp (G:=Nat) [0,1,2,3,10,29] [0,1,2,3] (λk=>[(30,.int .i64 (k:Int))]) (λk=>[(4,Nk 2 130 wv v (fill (max xs.length ys.length) k (λi=>cf xs i-cf ys i)))]) (λk=>k<=max xs.length ys.length) (λk=>max xs.length ys.length-k) 0 O2 K1 ⟨by rw [Ae (max xs.length ys.length) (λi=>cf xs i-cf ys i)];rfl,aA⟩ ?_;rintro k s;have q:(fill (max xs.length ys.length) k (λi=>cf xs i-cf ys i)).length=max xs.length ys.length:=Ph _ _ _;refine go 6<|Zb J (λd=>?_) (λd=>?_)
 .try rw [aX]at *
  refine go 12<|Zx (Zv 5) λb _=>Zx (Zv 6) λg _=>go 2 ?_;refine jn (G:=Unit) [0,1,2,3,10,11,12,13,29,30] [0,4,1,2,3,6] (λ_=>[]) (λ_=>[(5,box b 130 (wc (cf xs k)))]) (λ_=>True) ?_ ?_
  .refine go 8<|Zb J (λe=>?_) (λe=>?_)
   .refine go 7 ⟨O3,O3,?_⟩;exact Fb () aA aA ⟨by first|rfl|(rw [Yx (p:=xs) O1];rfl),aA⟩
   .refine go 1 ?_;exact Fb () aA aA ⟨by first|rfl|(rw [Yx (p:=xs) O1];rfl),aA⟩
  .rintro _ -;refine jn (G:=Unit) [0,1,2,3,10,11,12,13,29,30] [0,5,4,1,2,3] (λ_=>[]) (λ_=>[(6,box g 130 (wc (cf ys k)))]) (λ_=>True) ?_ ?_
   .refine go 8<|Zb J (λf=>?_) (λf=>?_)
    .refine go 7 ⟨O3,O3,?_⟩;exact Fb () aA aA ⟨by first|rfl|(rw [Yx (p:=ys) O1];rfl),aA⟩
    .refine go 1 ?_;exact Fb () aA aA ⟨by first|rfl|(rw [Yx (p:=ys) O1];rfl),aA⟩
   .rintro _ -;refine go 6 ?_;refine tt (Zsy 6 1 [_] [_,_] (Zx2 (n.sz _) (m.sz _) (o _)) J J J J K2 call204 J O4 Zo J c.h aA) (λ_ _=>?_);refine dt (Yk 4 k J J J J (Yu pV) Mv Oc J (by rw [Ph];omega))<|tt (Lu 4 (enc:=wv) J J J J J J pV J c.h O4 (by rw [Ph];omega)) (λ_ _=>?_);refine go 7 ⟨O1,?_⟩;exact Yj (k+1) O2 O2 K1 ⟨by rw [<-Zdh O1];rfl,aA⟩
 .try rw [aX]at *
  refine go 6 ?_;obtain rfl:k=max xs.length ys.length:=O1;refine Zq (Ns 4 J J pV)<|go 3 ?_;refine tt (Qo 7 1 (Zbl (by rw [Dd];exact Zgy λi _=>o i)) J J J K2 call200 J O4 (Yc 4 J J J Zo) J c.h aA) λ_ _=>go 7 ?_;exact Dx (.inl J) j _ (λa w hs=>Zw2 hs results203 J J) J aA 1 J J J J (Zma 7 J J J (by rw [Dd]<;>rfl) Za)
theorem Yg6(xs ys:List Int)(e:Vp xs)(d:Vp ys)(f:∀i,bl (cf xs i+cf ys i).natAbs<=65536):Cal prog 174 #[v,u] [Yt 2 wv v xs,Yt 2 wv u ys] true (G:=Value) (λr=>True) (λr=> .tuple #[r,.int .i64 0]) (λr=>[Yt 2 wv r (Za7 xs ys)]):=by refine Ze func174 ntmps174 λh g c a=>go 8 ?_;refine Zx (Zv 3) λb _=>go 6 ?_;refine dt (d_mkf [_] J K1)<|tt (Qo 4 3 (Zvt ‹_› ‹_› ‹_›) J J J K4 call203 J O4 (Yc 1 J J J (Yc 2 J J J Zo)) J c.h aA) λ_ _=>go 7 ?_;exact Nn a _ results174 J aA (Kk 4 Za)
theorem Yg5(xs ys:List Int)(e:Vp xs)(d:Vp ys)(f:∀i,bl (cf xs i-cf ys i).natAbs<=65536):Cal prog 175 #[v,u] [Yt 2 wv v xs,Yt 2 wv u ys] true (G:=Value) (λr=>True) (λr=> .tuple #[r,.int .i64 0]) (λr=>[Yt 2 wv r (Bq xs ys)]):=by refine Ze func175 ntmps175 λh g c a=>go 8 ?_;refine Zx (Zv 3) λb _=>go 6 ?_;refine dt (d_mkf [_] J K1)<|tt (Qo 4 3 (Zvs ‹_› ‹_› ‹_›) J J J K4 call203 J O4 (Yc 1 J J J (Yc 2 J J J Zo)) J c.h aA) λ_ _=>go 7 ?_;exact Nn a _ results175 J aA (Kk 4 Za)
theorem Ztw(xs ys:List Int)(z:Vp xs)(y:Vp ys)(I:¬Zao xs ys):Cal prog 173 #[v,u] [Yt 2 wv v xs,Yt 2 wv u ys] true (G:=Value) (λr=>True) (λr=> .tuple #[r,.int .i64 0]) (λr=>[Yt 2 wv r (Pa xs ys)]):=by
 refine Ze func173 ntmps173 λw0 Z B f=>?_;have M:=z.len;have H:=y.len;have S:=Og z.sz;have V:=Og y.sz;refine go 10 ?_;refine cl 2 [1] (Xm ‹_›) λ_ _=>go 3 ?_;refine Ln 2 [2] (Xm ‹_›) λ_ _=>go 14<|Zk 23 J (λD=>?_) (λD=>?_)
 .refine go 15 ?_;exact Nn f _ results173 J aA (Lm (Zgp (p:=xs) (q:=ys) (by first|(left;omega)|(right;omega))) Za)
 .refine go 6<|Zb J (λg=>?_) (λg=>?_)
  .refine go 8 ?_;exact Nn f _ results173 J aA (Lm (Zgp (p:=xs) (q:=ys) (by first|(left;omega)|(right;omega))) Za)
  .have c:xs≠[]:=by intro e;subst e;simp_all
   have d:ys≠[]:=by intro e;subst e;simp_all
   have Q:0<xs.length:=aN.2 c;have R:0<ys.length:=aN.2 d;refine go 13 ⟨O1,O1,?_⟩;refine Zk 35 J (λF=>?_) (λF=>?_)
   .exfalso;exact I ⟨c,d,.inl O1⟩
   .refine go 1 ?_;refine Ln 2 [1] (Nv (by first|exact z.sz|exact y.sz)) λ_ _=>go 1 ?_;refine Ln 2 [2] (Nv (by first|exact z.sz|exact y.sz)) λ_ _=>?_;refine go 6 ⟨O1,O1,?_⟩;refine Zb J (λk=>?_) (λk=>?_)
    .exfalso;exact I ⟨c,d,by first|(left;omega)|(right;omega)⟩
    .have W:Pd xs+Pd ys+5<=65536:=O1;have s:∀i j,bl (cf xs i*cf ys j).natAbs<=65536:=λi j=>by have:=Xz (cf xs i) (cf ys j);have:=Kz xs i;have:=Kz ys j;omega
     have n:∀i j t,i<25->bl (Zbp xs ys i j t).natAbs<=65536:=λi j t hi=>by have:=Yq2 (i:=i) (j:=j) (t:=t) (Kz xs) (Kz ys) O1;omega
     have o:∀t,bl (acc xs ys xs.length t).natAbs<=65536:=λt=>by have:=bl_acc (i:=xs.length) (t:=t) (Kz xs) (Kz ys) O1;omega
     have w:∀i j,i<25->bl (Zbp xs ys i j (i+j)+cf xs i*cf ys j).natAbs<=65536:=λi j hi=>by rw [<-Yem];exact n i (j+1) _ hi
     refine go 4<|Zx (Zv 3) λb _=>?_;refine go 10 ⟨O1,O1,?_⟩;refine tt (Dt 4 (xs.length+ys.length-1) 24 (enc:=wv) 0 J J J J Mv ti130 J pV.cells pV.pos J J J B.h) λv _=>go 12 ?_;refine lp (G:=Nat) [1,6,7,51,52] [0,1,2,3] (λi=>[(53,.int .i64 (i:Int))]) (λi=>[(4,Nk 2 130 wv v (mk (xs.length+ys.length-1) (acc xs ys i)))]) (λi=>i<=xs.length) (λi=>xs.length-i) 0 O2 K1 ⟨by rw [Zw3];rfl,aA⟩ ?_;rintro i hi;refine go 6<|Zb J (λl=>?_) (λl=>?_)
     .refine go 9 ⟨O3,O3,?_⟩;refine Zx (Zv 5) λN _=>go 12 ?_;refine lp (G:=Nat) [1,6,7,8,9,51,52,53,58,59] [0,1,2,3,5] (λj=>[(60,.int .i64 (j:Int))]) (λj=>[(4,Nk 2 130 wv v (mk (xs.length+ys.length-1) (Zbp xs ys i j)))]) (λj=>j<=ys.length) (λj=>ys.length-j) 0 O2 K1 ⟨by rw [Yel];rfl,aA⟩ ?_;rintro j Y;have a:i+j<xs.length+ys.length-1->(mk (xs.length+ys.length-1) (Zbp xs ys i j)).getD (i+j) 0=Zbp xs ys i j (i+j):=λh=>Zeg h;refine go 6<|Zb J (λm=>?_) (λm=>?_)
      .refine go 9 ⟨O3,O3,?_⟩;refine Zx (Zv 6) λP _=>go 4<|Pg (λx=>x=b) [(0,0),(1,0),(2,0),(3,0),(4,0),(5,0),(6,0),(7,0),(8,0),(9,0),(10,0),(11,0),(12,1),(13,1),(14,0),(15,3)]<|go 8 ⟨O1,O1,?_⟩;refine Qb J J (st1 3 J (Yk 4 (i+j) J J J J (Yu pV) Mv Oc O1 (by rw [Yz];omega)))<|go 3 ⟨by rw [Yz];omega,?_⟩;refine Bc J (Qo 6 3 (Cf (z.sz _) (y.sz _) (s i j)) J J J K3 call199 J O4 Zo J B.h J) (λ_ _=>?_);refine Bc J (Qo 6 3 (Zmp (by rw [a O1];exact n i j _ O1) (s i j) (by rw [a O1];exact w i j O1)) J J J K3 call202 J O4 Zo J B.h J) (λ_ _=>?_);refine Qb J J (st1 3 J (Yk 4 (i+j) J J J J (Yu pV) Mv Oc O1 (by rw [Yz];omega)))<|r3' J (Lu 4 (enc:=wv) J J J J J J pV J B.h O4 (by rw [Yz];omega)) (λ_ _=>?_);refine go 7 ⟨O1,?_⟩;exact Yj (j+1) O2 O2 K1 ⟨by rw [<-Yl1 O1,<-a O1];rfl,aA⟩
      .refine go 10 ⟨O1,?_⟩;obtain rfl:j=ys.length:=O1;exact Yj (i+1) O2 O2 K1 ⟨by rw [<-Yl2];rfl,aA⟩
     .refine go 6 ?_;obtain rfl:i=xs.length:=O1;refine Zq (Ns 4 J J pV)<|go 2 ?_;refine tt (Qo 7 3 (Zbl (Zgy λt _=>o t)) J J J K2 call200 J O4 (Yc 4 J J J Zo) J B.h aA) λ_ _=>go 7 ?_;exact Nn f _ results173 J aA (Kk 7 Za (by rw [Yg8]<;>rfl))
theorem Zez(g:Vp xs)(f:Vp ys):Xf prog 262 #[v,u] [Yt 2 wv v xs,Yt 2 wv u ys] (.tuple #[.bool (Yp3 xs ys),.int .i64 (Bv xs ys)]):=by
 refine Ze func262 ntmps262 λp o n c=>?_;have i:=g.len;have h:=f.len;have j:=Og g.sz;have k:=Og f.sz;refine go 11 ?_;refine cl 2 [1] (Xm ‹_›) λ_ _=>go 3 ?_;refine Ln 2 [2] (Xm ‹_›) λ_ _=>go 14<|Zb J (λd=>?_) (λd=>?_)
 .refine go 9 ?_;exact Nn c () results262 (by unfold Bv Yp3;rw [aO O1,aK (l:=ys) O1];rfl) aA Za
 .refine go 10<|Zb J (λe=>?_) (λe=>?_)
  .refine go 9 ?_;exact Nn c () results262 (by rw [Zhe O1,aE O1];unfold Bv;rw [aF O1,aO O1]) aA Za
  .have m:(xs.length-ys.length+1)*(Pd ys+1)<=26*65537:=aU O1 O1;have b:((xs.length:Int)-(ys.length:Int)+1)*((Pd ys:Int)+1)=(((xs.length-ys.length+1)*(Pd ys+1):Nat):Int):=by rw [gQ];congr 1;omega
   refine go 3 ?_;refine cl 2 [1] (Nv (by first|exact g.sz|exact f.sz)) λ_ _=>?_;refine go 7 ⟨O1,O1,?_⟩;refine cl 2 [2] (Nv (by first|exact g.sz|exact f.sz)) λ_ _=>?_;refine go 7 ⟨O1,by rw [b];exact⟨O1,O1⟩,by rw [b];exact⟨O1,O1⟩,?_⟩;refine Zb J (λa=>?_) (λa=>?_)
   .refine go 9 ?_;exact Nn c () results262 (by rw [b]at a;rw [Zhe O1,aG O1];unfold Bv;rw [aF O1,aF O1,aO O1]) aA Za
   .refine go 10 ?_;exact Nn c () results262 (by rw [b]at a;rw [Zhe O1,aG O1];unfold Bv;rw [aF O1,aF O1,aF O1]) aA Za
theorem Zn5(H:Vp xs)(s:Vp ys)(M:Bv xs ys=0):Cal prog 261 #[v,u] [Yt 2 wv v xs,Yt 2 wv u ys] true (G:=Value) (λr=>True) (λr=> .tuple #[r,.int .i64 0]) (λr=>[Yt 2 wv r (Qw xs ys)]):=by
 refine Ze func261 ntmps261 λw0 sc g q=>?_;have N:=H.len;have B:=s.len;have W:=Og H.sz;have Y:=Og s.sz;obtain⟨F,t⟩:=Zeh M;have o:=Zhe (p:=xs) F;refine go 10 ?_;refine cl 2 [1,2] (Zez H s) λ_ _=>go 14<|Zb J (λd=>?_) (λd=>?_)
 .exfalso;exact d M
 .refine go 5 ?_;refine tt (Zjg 3 Yby J J J K1 call263 (Yc 1 J J J Zo) J g.h) λv _=>go 9 ?_;refine Yq J (λa=>?_) (λa=>?_)
  .have D:xs.length<ys.length:=by rw [o]at a;simpa using a
   refine go 9 ?_;exact Nn q _ results261 J aA (gow 3 Za (by unfold Qw;rw [aO D]))
  .have z:ys.length<=xs.length:=by rw [o]at a;simpa using a
   have I:=t z;refine go 4<|Zx (Zv 4) λb _=>?_;refine go 8 ⟨O1,?_⟩;refine dt (Yk 2 (ys.length-1) J J J J Zl Mv Oc)<|go 1 ⟨O1,?_⟩;refine Zx (Zv 5) λP _=>?_;refine go 13 ⟨O1,?_⟩;refine lp (G:=Nat) [1,8,9,10] [0,1,2,4,5] (λj=>[(11,.int .i64 ((xs.length:Int)-1-(j:Int)))]) (λj=>[(3,Nk 2 130 wv v (Oe xs ys j))]) (λj=>j<=xs.length-ys.length+1) (λj=>xs.length-ys.length+1-j) 0 O2 ⟨by rw [show(xs.length:Int)-1-((0:Nat):Int)=(xs.length:Int)-1 by omega];rfl,aA⟩ K1 ?_;rintro j Z;refine go 10 ⟨O1,?_⟩;refine Zb J (λk=>?_) (λk=>?_)
   .obtain⟨n,c,y⟩:=rest_b I (j:=j) O1;have w:=Kj xs ys j;refine go 8 ?_;refine dt (Yk 3 (xs.length-1-j) J J J J (Yu pV) Mv Oc)<|go 1 ⟨O1,?_⟩;refine Zx (Zv 6) λQ _=>go 12 ?_;refine lp (G:=Nat) [1,8,9,10,11,12,51] [0,1,2,4,5,6] (λi=>[(52,.int .i64 (i:Int))]) (λi=>[(3,Nk 2 130 wv v (Zlw (Oe xs ys j) (cf ys (ys.length-1)) i))]) (λi=>i<=xs.length) (λi=>xs.length-i) 0 O2 K1 ⟨by rw [Ydj];rfl,aA⟩ ?_;rintro i hi;have e:i<xs.length->(Zlw (Oe xs ys j) (cf ys (ys.length-1)) i).getD i 0=cf (Oe xs ys j) i:=λh=>Yh3 O1;have S:=Zuh (Oe xs ys j) (cf ys (ys.length-1)) i;refine go 6<|Zb J (λl=>?_) (λl=>?_)
    .refine go 10<|Pg (λx=>x=b) [(0,0),(1,0),(2,0),(3,0),(4,0),(5,0),(6,0),(7,1),(8,0),(9,3)]<|go 4 ?_;refine Qb J J (st1 4 J (Yk 3 i J J J J (Yu pV) Mv Oc J))<|go 2 ⟨O1,?_⟩;refine Bc J (Qo 6 4 (Cf (by rw [e O1];exact n _) (s.sz _) (by rw [e O1];exact c _ _)) J J J K3 call199 J O4 Zo J g.h J) (λ_ _=>?_);refine Qb J J (st1 4 J (Yk 3 i J J J J (Yu pV) Mv Oc J))<|r3' J (Lu 3 (enc:=wv) J J J J J J pV J g.h) (λ_ _=>?_);refine go 7 ⟨O1,?_⟩;exact Yj (i+1) O2 O2 K1 ⟨by rw [<-Yh2 O1,<-e O1];rfl,aA⟩
    .refine go 6 ?_;obtain rfl:i=xs.length:=O1;refine go 7 ?_;refine lp (G:=Nat) [1,8,9,10,11,12,65,66] [0,1,2,4,5,6] (λi=>[(67,.int .i64 (i:Int))]) (λi=>[(3,Nk 2 130 wv v (Zpd ys (Oe xs ys j) (cf ys (ys.length-1)) (cf (Oe xs ys j) (xs.length-1-j)) (xs.length-1-j-(ys.length-1)) i))]) (λi=>i<=ys.length) (λi=>ys.length-i) 0 O2 K1 ⟨by rw [<-Ycs,w];rfl,aA⟩ ?_;rintro i hi;have f:i<ys.length->(Zpd ys (Oe xs ys j) (cf ys (ys.length-1)) (cf (Oe xs ys j) (xs.length-1-j)) (xs.length-1-j-(ys.length-1)) i).getD ((xs.length-1-j-(ys.length-1))+i) 0=cf (Oe xs ys j) ((xs.length-1-j-(ys.length-1))+i)*(cf ys (ys.length-1)):=λh=>Yfk O1;have V:=Zug ys (Oe xs ys j) (cf ys (ys.length-1)) (cf (Oe xs ys j) (xs.length-1-j)) (xs.length-1-j-(ys.length-1)) i;refine go 6<|Zb J (λm=>?_) (λm=>?_)
     .refine go 9 ⟨O3,O3,?_⟩;refine Zx (Zv 7) λR _=>?_;refine go 16 ⟨O1,O1,O1,?_⟩;refine Pg (λx=>x=b) [(0,0),(1,0),(2,0),(3,0),(4,0),(5,0),(6,0),(7,0),(8,1),(9,1),(10,0),(11,3)]<|go 4 ?_;refine Qb J J (st1 4 J (Yk 3 ((xs.length-1-j-(ys.length-1))+i) J J J J (Yu pV) Mv Oc))<|go 3 ⟨O1,?_⟩;refine Bc J (Qo 7 4 (Cf (n _) (s.sz _) (c _ _)) J J J K3 call199 J O4 Zo J g.h J) (λ_ _=>?_);refine Bc J (Qo 7 4 (Zx2 (by rw [f O1];exact c _ _) (c _ _) (by rw [f O1];exact y _ _ _ _)) J J J K3 call204 J O4 Zo J g.h J) (λ_ _=>?_);refine Qb J J (st1 4 J (Yk 3 ((xs.length-1-j-(ys.length-1))+i) J J J J (Yu pV) Mv Oc))<|r3' J (Lu 3 (enc:=wv) J J J J J J pV J g.h) (λ_ _=>?_);refine go 7 ⟨O1,?_⟩;exact Yj (i+1) O2 O2 K1 ⟨by rw [<-Yfj O1,<-f O1];rfl,aA⟩
     .refine go 11 ⟨O1,?_⟩;obtain rfl:i=ys.length:=O1;exact Yj (j+1) O2 O2 ⟨by rw [show(xs.length:Int)-1-((j+1:Nat):Int)=(xs.length:Int)-1-(j:Int)-1 by omega];rfl,aA⟩ ⟨by rfl,aA⟩
   .refine go 6 ?_;obtain rfl:j=xs.length-ys.length+1:=O1;refine Zq (Ns 3 J J pV)<|go 2 ?_;refine tt (Qo 8 4 (Zbl (Zsz I)) J J J K2 call200 J O4 (Yc 3 J J J Zo) J g.h aA) λ_ _=>go 7 ?_;exact Nn q _ results261 J aA (Kk 8 Za (by unfold Qw;rw [aF O1]<;>rfl))
theorem Zc7(hv:Vp xs)(g:Vp ys)(hd:Bv xs ys=0):Cal prog 250 #[v,u] [Yt 2 wv v xs,Yt 2 wv u ys] true (G:=Value) (λr=>True) (λr=> .tuple #[r,.int .i64 (if pdv xs ys then 0 else 10)]) (λr=>[Yt 2 wv r (if pdv xs ys then Hs xs ys else [])]):=by
 refine Ze func250 ntmps250 λw0 sc D s=>?_;have a6:=hv.len;have a0:=g.len;have c2:=Og hv.sz;have c3:=Og g.sz;obtain⟨R,W⟩:=Zeh hd;have P:=Zhe (p:=xs) R;have c:cf ys (ys.length-1)≠0:=g.tr.mem (λe=>R (by rw [e];rfl));refine go 10 ?_;refine cl 2 [1,2] (Zez hv g) λ_ _=>go 16<|Zb J (λw=>?_) (λw=>?_)
 .exfalso;exact w hd
 .refine go 8<|Zb J (λl=>?_) (λl=>?_)
  .refine go 9 ?_;have S:xs=[]:=aK O1;have d:pdv xs ys:= .inl S;exact Nn s _ results250 (by rw [aO d]) aA (Lm (by rw [aO d,S];rfl) Za)
  .have t:xs≠[]:=λe=>by rw [e]at l;simp at l
   refine go 6<|Yq J (λa=>?_) (λa=>?_)
   .have c1:xs.length<ys.length:=by rw [P]at a;simpa using a
    refine go 9 ?_;have d:¬pdv xs ys:=λh=>by rcases h with h|h;(exact t h);(have:=h.1;omega)
    exact Nn s _ results250 (by rw [aF d]) aA (Lm (aF d) Za)
   .have Q:ys.length<=xs.length:=by rw [P]at a;simpa using a
    have V:=W Q;refine go 5<|Zx (Zv 3) λb _=>go 5 ?_;refine tt (Zjg 4 Yby J J J K1 call263 (Yc 1 J J J Zo) J D.h) (λv _=>?_);refine go 11 ⟨O1,O1,?_⟩;refine tt (Dt 5 (xs.length-ys.length+1) 24 (enc:=wv) 0 J J J J Mv ti130 J pV.cells pV.pos J J J D.h) (λa2 _=>?_);refine go 13 ⟨⟨by simp only [aX];omega,by simp only [aX];omega⟩,?_⟩;refine lp (G:=Nat) [1,8,9,10] [0,1,2,3] (λj=>[(11,.int .i64 ((xs.length:Int)-(ys.length:Int)-(j:Int)))]) (λj=>[(4,Nk 2 130 wv v (Pi xs ys j)),(5,Nk 2 130 wv a2 (Zni xs ys j))]) (λj=>(j<=xs.length-ys.length+1)/\(∀k,xs.length-ys.length<k+j->k<=xs.length-ys.length->Hl xs ys k)) (λj=>xs.length-ys.length+1-j) 0 ⟨O2,λk h1 h2=>O1⟩ ⟨by simp only [aX];exact aH some (Yit O1),aA⟩ ⟨J,by rw [Yeb];rfl,aA⟩ ?_;rintro j ⟨hj,hx⟩;have d2:=Zdb xs ys j;refine go 7<|Zb J (λF=>?_) (λF=>?_)
    .obtain⟨f,Z⟩:=div_b V (j:=j) O1 hx;have b6:=Za9 xs ys j;have b9:xs.length-ys.length-j+ys.length-1<xs.length:=O1;refine go 4 ?_;refine jn (G:=Nat×Nat) [1,8,9,10,11] [0,4,5,1,2,3] (λq=>[(12,.pointer (some ⟨q.1,0,none⟩)),(13,.pointer (some ⟨q.2,0,none⟩)),(14,.int .i64 0)]) (λq=>[(97,box q.1 130 (wc (Aw (dq ys (Pi xs ys j) (xs.length-ys.length-j))))),(98,box q.2 130 (wc (Aw (cf (Pi xs ys j) ((xs.length-ys.length-j)+ys.length-1)%cf ys (ys.length-1)))))]) (λq=>True) ?_ ?_
     .refine Nh [2,4] [23]<|Zw 10 [(0,0),(1,0),(2,0),(3,0),(4,0),(5,0),(6,0),(7,0),(8,0),(9,0),(10,0),(11,0),(12,0),(13,0)]<|go 6 ⟨O1,O1,?_⟩;refine Qb J J (Ej (Yk 4 ((xs.length-ys.length-j)+ys.length-1) J J J J (Yu pV) Mv Oc) K2)<|go 5 ⟨O1,O1,?_⟩;refine Qb J J (Ej (Yk 2 (ys.length-1) J J J J Zl Mv Oc) K2)<|go 2 ⟨O1,?_⟩;refine Yl7 9 14 19 20 ?_ ?_ ?_
      .refine Ha (Zz 5 [] (Ai (f _) (g.sz _) c)) λ_ _=>?_;refine Zw 5 [(15,0),(16,0),(17,0),(18,0)]<|go 5 ?_;refine Nm 4 19 20 ?_ ?_
       .refine Ha (Mh 97) λa8 ho=>?_;refine Zw 0 [(20,1),(21,1),(22,1),(23,3)]<|Qn (Mh 98) λa9 c4=>go 4 ?_;exact Yr<|Fb (_,_) aA K3 K2
       .refine Ha (Mh 98) λb0 c5=>?_;refine Zw 0 [(19,1),(21,1),(22,1),(23,3)]<|Qn (Mh 97) λb1 c6=>go 4 ?_;exact Yr<|Fb (_,_) aA K3 K2
      .refine Ha (Mh 97) λb2 c7=>?_;refine Nm 8 14 20 ?_ ?_
       .refine Ha (Zz 5 [] (Ai (f _) (g.sz _) c)) λ_ _=>?_;refine Zw 0 [(15,0),(16,0),(17,0),(18,0),(20,1),(21,1),(22,1),(23,3)]<|go 4 ?_;refine Qn (Mh 98) λb3 c8=>go 4<|Yr ?_;exact Fb (_,_) aA K3 K2
       .refine Ha (Mh 98) λb4 c9=>?_;refine Zw 0 [(14,1),(15,0),(16,0),(17,0),(18,0),(21,1),(22,1),(23,3)]<|Qn (Zz 5 [] (Ai (f _) (g.sz _) c)) λ_ _=>go 8 ?_;exact Yr<|Fb (_,_) aA K3 K2
      .refine Ha (Mh 98) λb5 d0=>?_;refine Nm 8 14 19 ?_ ?_
       .refine Ha (Zz 5 [] (Ai (f _) (g.sz _) c)) λ_ _=>?_;refine Zw 0 [(15,0),(16,0),(17,0),(18,0),(19,1),(21,1),(22,1),(23,3)]<|go 4 ?_;refine Qn (Mh 97) λa3 d1=>go 4<|Yr ?_;exact Fb (_,_) aA K3 K2
       .refine Ha (Mh 97) λa4 a7=>?_;refine Zw 0 [(14,1),(15,0),(16,0),(17,0),(18,0),(21,1),(22,1),(23,3)]<|Qn (Zz 5 [] (Ai (f _) (g.sz _) c)) λ_ _=>go 8 ?_;exact Yr<|Fb (_,_) aA K3 K2
     .rintro⟨b7,b8⟩ -;dsimp only;refine go 7<|Zb J (λy=>?_) (λy=>?_)
      .exfalso;exact y rfl
      .refine go 6 ?_;refine cl 5 [] (Hi Zj3) λ_ _=>go 3<|Zb J (λm=>?_) (λm=>?_)
       .have a1:¬Hl xs ys (xs.length-ys.length-j):=λhe=>m (by rw [Zvy c (g.sz _),(Zvc O1).1 he];rfl);refine go 13 ?_;have d:¬pdv xs ys:=λh=>by rcases h with h|h;(exact t h);(exact a1 (h.2.1 _ O1))
        exact Nn s _ results250 (by rw [aF d]) aA (Lm (aF d) Za)
       .have N:Hl xs ys (xs.length-ys.length-j):=(Zvc O1).2 (by have h0:=aR m;rw [Zvy c (g.sz _)]at h0;exact fV.1 h0);obtain⟨I,M,Y⟩:=Z N;refine Zq (Qc 97 (q:=box b7 130 (wc (dq ys (Pi xs ys j) (xs.length-ys.length-j)))) (by rw [Nr I]) J J)<|go 7 ?_;refine dt (Yk 5 (xs.length-ys.length-j) J J J J (Yu pV) Mv Oc)<|tt (Lu 5 (enc:=wv) J J J J J J pV J D.h) λ_ _=>go 10 ?_;refine lp (G:=Nat) [1,8,9,10,11,12,78,79] [0,97,98,5,1,2,3] (λi=>[(80,.int .i64 (i:Int))]) (λi=>[(4,Nk 2 130 wv v (Zrk ys (Pi xs ys j) (dq ys (Pi xs ys j) (xs.length-ys.length-j)) (xs.length-ys.length-j) i))]) (λi=>i<=ys.length) (λi=>ys.length-i) 0 O2 K1 ⟨by rw [<-Yd9];rfl,aA⟩ ?_;rintro i hi;have B:i<ys.length->(Zrk ys (Pi xs ys j) (dq ys (Pi xs ys j) (xs.length-ys.length-j)) (xs.length-ys.length-j) i).getD ((xs.length-ys.length-j)+i) 0=cf (Pi xs ys j) ((xs.length-ys.length-j)+i):=λh=>Yj8 O1;have c0:=Zui ys (Pi xs ys j) (dq ys (Pi xs ys j) (xs.length-ys.length-j)) (xs.length-ys.length-j) i;refine go 6<|Zb J (λH=>?_) (λH=>?_)
        .refine go 9 ⟨O3,O3,?_⟩;refine Zx (Zv 6) λa5 _=>go 4<|Pg (λx=>x=b) [(0,0),(1,0),(2,0),(3,0),(4,0),(5,0),(6,0),(7,0),(8,0),(9,0),(10,0),(11,0),(12,1),(13,1),(14,0),(15,3)]<|go 8 ⟨O1,O1,?_⟩;refine Qb J J (st1 3 J (Yk 4 ((xs.length-ys.length-j)+i) J J J J (Yu pV) Mv Oc))<|go 3 ⟨O1,?_⟩;refine Bc J (Qo 6 3 (Cf I (g.sz _) (M _)) J J J K3 call199 J O4 Zo J D.h J) (λ_ _=>?_);refine Bc J (Qo 6 3 (Zx2 (by rw [B O1];exact f _) (M _) (by rw [B O1];exact Y _ _)) J J J K3 call204 J O4 Zo J D.h J) (λ_ _=>?_);refine Qb J J (st1 3 J (Yk 4 ((xs.length-ys.length-j)+i) J J J J (Yu pV) Mv Oc))<|r3' J (Lu 4 (enc:=wv) J J J J J J pV J D.h) (λ_ _=>?_);refine go 7 ⟨O1,?_⟩;exact Yj (i+1) O2 O2 K1 ⟨by rw [<-Yj7 O1,<-B O1];rfl,aA⟩
        .refine go 11 ⟨O1,?_⟩;obtain rfl:i=ys.length:=O1;exact Yj (j+1) ⟨O2,λk h1 h2=>by rcases bA (xs.length-ys.length) (k+j)with h3|h3;(exact hx k h3 h2);(rw [show k=xs.length-ys.length-j by omega];exact N)⟩ O2 ⟨by rw [show(xs.length:Int)-(ys.length:Int)-((j+1:Nat):Int)=(xs.length:Int)-(ys.length:Int)-(j:Int)-1 by omega];rfl,aA⟩ ⟨by rfl,by rw [<-Ykc O1];rfl,aA⟩
    .refine go 7 ?_;obtain rfl:j=xs.length-ys.length+1:=O1;have o:∀k,k<=xs.length-ys.length->Hl xs ys k:=λk hk=>hx k O1 hk;refine Zq (Ns 4 J J pV)<|go 6<|Zk 105 J (λz=>?_) (λz=>?_)
     .refine go 1 ?_;refine Ln 7 [4] (Zd4 (Yfh V o)) λ_ _=>go 5<|Zb J (λn=>?_) (λn=>?_)
      .refine go 8 ?_;have d:¬pdv xs ys:=λh=>by rcases h with h|h;(exact t h);(rw [h.2.2]at n;simp at n)
       exact Nn s _ results250 (by rw [aF d]) aA (Lm (aF d) Za)
      .refine go 3<|Zq (Ns 5 J J pV)<|go 2 ?_;refine tt (Qo 8 3 (Zbl (Zy7 V o)) J J J K2 call200 J O4 (Yc 5 J J J Zo) J D.h aA) λ_ _=>go 7 ?_;have d:pdv xs ys:= .inr ⟨Q,o,aK O1⟩;exact Nn s _ results250 (by rw [aO d]<;>rfl) aA (Kk 8 Za (by rw [aO d,Ztt t,<-Zhd]<;>rfl))
     .exfalso;exact z rfl
theorem Zpz(xs:List Int)(x y z:Int)(k:Vp xs)(hx:bl x.natAbs<=65536)(hy:bl y.natAbs<=65536)(R:bl z.natAbs<=65536)(a9:0<z)(hE:¬Zmu xs x y z):Cal prog 242 #[v,wv x,wv y,wv z] [Yt 2 wv v xs] true (G:=Value) (λr=>True) (λr=> .tuple #[r,.int .i64 0]) (λr=>[Yt 2 wv r (Ky xs x y z)]):=by
 refine Ze func242 ntmps242 λw0 sc a t=>?_;have P:=k.len;refine go 2<|Zx (Zr 2) λb _=>Zx (Zr 3) λW _=>Zx (Zr 4) λY _=>go 8 ?_;refine cl 4 [1] (Xm ‹_›) λ_ _=>go 3 ?_;refine Ln 4 [] (Kd ‹_›) λ_ _=>go 4 ?_;refine Ln 4 [] (Kd ‹_›) λ_ _=>go 4 ?_;refine Ln 4 [] (Kd ‹_›) λ_ _=>go 11 ?_;refine cl 4 [] (Hi R) λ_ _=>go 3<|Zb J (λm=>?_) (λm=>?_)
 .exfalso;have h2:=bW.1 (sign_pos_iff z);omega
 .refine go 10<|Zb J (λf=>?_) (λf=>?_)
  .refine go 8 ?_;exact Nn t _ results242 J aA (Lm (by unfold Ky;rw [aO O1]) Za)
  .have B:xs≠[]:=λe=>by rw [e]at f;simp at f
   have a6:=Og k.sz;have d:Sz 65536 [x,y,z]:=Sz.of_mem (by intro q Q;simp at Q;rcases Q with rfl|rfl|rfl<;>assumption);have a7:=Og d;have a8:(xs.length-1)*(Pd [x,y,z]+1)<=24*65537:=aU O1 O1;have c:((xs.length:Int)-1)*((Pd [x,y,z]:Int)+1)=(((xs.length-1)*(Pd [x,y,z]+1):Nat):Int):=by rw [gQ];congr 1;omega
   refine go 3 ?_;refine jn (G:=Unit) [0,5,6,7] [0,1,2,3,4] (λ_=>[(55,.bool (decide ((65536:Int)<(Pd xs:Int)+((xs.length:Int)-1)*((Pd [x,y,z]:Int)+1)+8)))]) (λ_=>[]) (λ_=>True) ?_ ?_
   .refine Bu (λ_=>False) []<|Zw 8 [(0,0),(2,0),(3,0),(4,0),(5,0),(6,0),(7,0)]<|go 8 ⟨O1,?_⟩;refine Nm 7 1 8 ?_ ?_
    .refine Ha (Zz 4 [1] (Nv (by first|exact k.sz|exact d))) λ_ _=>?_;refine Zw 0 [(8,1),(9,1),(10,0),(11,0),(12,0),(13,0),(14,0)]<|Bc J (Oj [(0,_),(1,_),(2,_)] 90 (enc:=wv) [x,y,z] J J K6 Ym0 ti130 J J Yjl J J pV.cells J J a.h) λv _=>Qn (Zz 4 [90] (Nv (by first|exact k.sz|exact d))) λ_ _=>?_;refine go 6 ⟨O1,by rw [c];exact⟨O1,O1⟩,by rw [c];exact⟨O1,O1⟩,by rw [c];exact⟨O1,O1⟩,?_⟩;exact Yr<|Fb () aA K1 aA
    .refine Za0 J J (Oj [(0,_),(1,_),(2,_)] 90 (enc:=wv) [x,y,z] J J K6 Ym0 ti130 J J Yjl J J pV.cells J J a.h) (λb0 _=>?_);refine Zw 0 [(1,1),(9,1),(10,0),(11,0),(12,0),(13,0),(14,0)]<|Qn (Zz 4 [1] (Nv (by first|exact k.sz|exact d))) λ_ _=>Qn (Zz 4 [90] (Nv (by first|exact k.sz|exact d))) λ_ _=>?_;refine go 6 ⟨O1,by rw [c];exact⟨O1,O1⟩,by rw [c];exact⟨O1,O1⟩,by rw [c];exact⟨O1,O1⟩,?_⟩;exact Yr<|Fb () aA K1 aA
   .rintro _ -;refine Zb J (λg=>?_) (λg=>?_)
    .exfalso;exact hE ⟨B,by rw [c]at g;omega⟩
    .have N:Pd xs+(xs.length-1)*(Pd [x,y,z]+1)+8<=65536:=by rw [c]at g;omega
     refine go 4<|Zx (Zv 5) λl _=>go 2 ?_;refine jn (G:=Value×Nat) [0,5,6,7,10] [0,1,2,3,4,5] (λq=>[(11,q.1),(12,.pointer (some ⟨q.2,0,none⟩))]) (λq=>[(70,Nk 2 130 wv q.1 (Kp xs x y z 0)),(98,box q.2 130 (wc 1))]) (λq=>True) ?_ ?_
     .refine Bu (λ_=>False) [9,10]<|Zw 5 [(0,0),(1,0),(2,0),(3,0),(4,0),(5,0)]<|go 4 ⟨O1,?_⟩;refine Qb J J (Pj (Yk 1 (xs.length-1) J J J J Zl Mv Oc))<|go 2 ⟨O1,?_⟩;refine Yl7 4 6 7 8 ?_ ?_ ?_
      .refine Za0 J J (Oj [(0,_)] 70 (enc:=wv) [cf xs (xs.length-1)] J J K2 Mv ti130 J J J J J pV.cells J J a.h) (λb1 _=>?_);refine Nm 3 7 8 ?_ ?_
       .refine Ha (Zz 5 [] (Zm _ (by first|assumption|exact⟨O1,O1⟩))) λ_ _=>?_;refine Zw 0 [(8,1),(9,3),(10,3)]<|Qn (Zv 98) λZ _=>go 3 ?_;exact Yr<|Fb (_,_) aA K2 ⟨by rw [Ch];rfl,rfl,aA⟩
       .refine Ha (Zv 98) λa0 _=>?_;refine Zw 0 [(7,1),(9,3),(10,3)]<|Qn (Zz 5 [] (Zm _ (by first|assumption|exact⟨O1,O1⟩))) λ_ _=>go 3 ?_;exact Yr<|Fb (_,_) aA K2 ⟨by rw [Ch];rfl,rfl,aA⟩
      .refine Ha (Zz 5 [] (Zm _ (by first|assumption|exact⟨O1,O1⟩))) λ_ _=>?_;refine Nm 3 6 8 ?_ ?_
       .refine Za0 J J (Oj [(0,_)] 70 (enc:=wv) [cf xs (xs.length-1)] J J K2 Mv ti130 J J J J J pV.cells J J a.h) (λb2 _=>?_);refine Zw 0 [(8,1),(9,3),(10,3)]<|Qn (Zv 98) λa1 _=>go 3 ?_;exact Yr<|Fb (_,_) aA K2 ⟨by rw [Ch];rfl,rfl,aA⟩
       .refine Ha (Zv 98) λa2 _=>?_;refine Zw 0 [(6,1),(9,3),(10,3)]<|Bc J (Oj [(0,_)] 70 (enc:=wv) [cf xs (xs.length-1)] J J K2 Mv ti130 J J J J J pV.cells J J a.h) λb3 _=>go 3 ?_;exact Yr<|Fb (_,_) aA K2 ⟨by rw [Ch];rfl,rfl,aA⟩
      .refine Ha (Zv 98) λa3 _=>?_;refine Nm 3 6 7 ?_ ?_
       .refine Za0 J J (Oj [(0,_)] 70 (enc:=wv) [cf xs (xs.length-1)] J J K2 Mv ti130 J J J J J pV.cells J J a.h) (λb4 _=>?_);refine Zw 0 [(7,1),(9,3),(10,3)]<|Qn (Zz 5 [] (Zm _ (by first|assumption|exact⟨O1,O1⟩))) λ_ _=>go 3 ?_;exact Yr<|Fb (_,_) aA K2 ⟨by rw [Ch];rfl,rfl,aA⟩
       .refine Ha (Zz 5 [] (Zm _ (by first|assumption|exact⟨O1,O1⟩))) λ_ _=>?_;refine Zw 0 [(6,1),(9,3),(10,3)]<|Bc J (Oj [(0,_)] 70 (enc:=wv) [cf xs (xs.length-1)] J J K2 Mv ti130 J J J J J pV.cells J J a.h) λb5 _=>go 3 ?_;exact Yr<|Fb (_,_) aA K2 ⟨by rw [Ch];rfl,rfl,aA⟩
     .rintro⟨S,V⟩ -;dsimp only;refine go 10 ⟨O1,?_⟩;refine lp (G:=Nat×Value) [0,5,6,7,10,12] [0,1,2,3,4,5] (λq=>[(13,.int .i64 ((xs.length:Int)-2-(q.1:Int))),(11,q.2)]) (λq=>[(70,Nk 2 130 wv q.2 (Kp xs x y z q.1)),(98,box V 130 (wc (z^q.1)))]) (λq=>q.1<=xs.length-1) (λq=>xs.length-1-q.1) (0,S) O2 ⟨by rw [show(xs.length:Int)-2-((0:Nat):Int)=(xs.length:Int)-2 by omega];rfl,rfl,aA⟩ ⟨J,by rw [eT];rfl,aA⟩ ?_;rintro⟨j,S⟩ hj;dsimp only at hj;dsimp only;refine go 7<|Zb J (λn=>?_) (λn=>?_)
      .obtain⟨c1,H,I,w,c5,c6,c7,M,c9⟩:=cp_all N (j:=j) O1;have a4:=Zdc xs x y z j;refine go 8 ?_;refine tt (Qo 5 5 (Cf c1 R (by rw [<-eJ];exact H)) J J J K3 call199 J O4 Zo J a.h aA) (λ_ _=>?_);refine go 8 ⟨O1,?_⟩;refine tt (Dt 71 ((Kp xs x y z j).length+1) 24 (enc:=wv) 0 J J J J Mv ti130 J pV.cells pV.pos J J J a.h) λD _=>go 12 ?_;refine lp (G:=Nat) [0,5,6,7,10,12,13,14,78,79] [0,70,98,1,2,3,4,5] (λi=>[(80,.int .i64 (i:Int))]) (λi=>[(71,Nk 2 130 wv D (cnx (Kp xs x y z j) x y i))]) (λi=>i<=(Kp xs x y z j).length) (λi=>(Kp xs x y z j).length-i) 0 O2 K1 ⟨by rw [Yk1];rfl,aA⟩ ?_;rintro i hi;have s:i<(Kp xs x y z j).length->(cnx (Kp xs x y z j) x y i).getD i 0=if i=0 then 0 else cf (Kp xs x y z j) (i-1)*y:=λh=>Ybx h
       have a5:=Fz (Kp xs x y z j) x y i;refine go 6<|Zb J (λo=>?_) (λo=>?_)
       .refine go 9 ⟨O3,O3,?_⟩;refine Zx (Zv 6) λF _=>go 5<|Pg (λx=>x=l) [(0,0),(1,0),(2,0),(3,0),(4,0),(5,0),(6,0),(7,0),(8,1),(9,1),(10,0),(11,3)]<|go 4 ?_;refine Qb J J (st1 5 J (Yk 71 i J J J J (Yu pV) Mv Oc J))<|go 3 ⟨O1,?_⟩;refine Bc J (Qo 6 5 (Cf (I _) hx (w _)) J J J K3 call199 J O4 Zo J a.h J) (λ_ _=>?_);refine Bc J (Qo 6 5 (Zmp (by rw [s O1];exact c6 i) (w _) (by rw [s O1];exact c7 i)) J J J K3 call202 J O4 Zo J a.h J) (λ_ _=>?_);refine Qb J J (st1 5 J (Yk 71 i J J J J (Yu pV) Mv Oc J))<|r3' J (Lu 71 (enc:=wv) J J J J J J pV J a.h) (λ_ _=>?_);refine go 8 ⟨O1,?_⟩;refine tt (Qo 6 5 (Cf (I _) hy (c5 _)) J J J K3 call199 J O4 Zo J a.h aA) (λ_ _=>?_);refine dt (Yk 71 (i+1) J J J J (Yu pV) Mv Oc O1 (by rw [cH];omega))<|tt (Lu 71 (enc:=wv) J J J J J J pV J a.h O4 (by rw [cH];omega)) (λ_ _=>?_);refine go 7 ⟨O1,?_⟩;exact Yj (i+1) O2 O2 K1 ⟨by rw [<-Yqg O1];rfl,aA⟩
       .refine go 6 ?_;obtain rfl:i=(Kp xs x y z j).length:=O1;have p:(cnx (Kp xs x y z j) x y (Kp xs x y z j).length).getD 0 0=cf (Kp xs x y z j) 0*x:=Zvw O1;refine Pg (λx=>x=l) [(0,0),(1,0),(2,0),(3,0),(4,0),(5,0),(6,0),(7,0),(8,0),(9,1),(10,1),(11,0),(12,3)]<|go 6 ⟨O1,O1,?_⟩;refine Qb J J (st1 5 J (Yk 1 (xs.length-2-j) J J J J Zl Mv Oc))<|go 2 ⟨O1,?_⟩;refine Bc J (Qo 6 5 (Cf (k.sz _) (by rw [<-eJ];exact H) (by rw [<-eJ];exact M)) J J J K3 call199 J O4 Zo J a.h J) (λ_ _=>?_);refine Bc J (Qo 6 5 (Zmp (by rw [p];exact w 0) (by rw [<-eJ];exact M) (by rw [p,<-eJ];exact c9)) J J J K3 call202 J O4 Zo J a.h J) (λ_ _=>?_);refine go 1 ⟨O1,?_⟩;refine r3' J (Lu 71 (enc:=wv) J J J J J J pV J a.h) (λ_ _=>?_);refine go 13 ⟨O1,?_⟩;exact Xh (s_move 71 70 J J J J)<|Yj (j+1,_) O2 O2 ⟨by rw [show(xs.length:Int)-2-((j+1:Nat):Int)=(xs.length:Int)-2-(j:Int)-1 by omega];rfl,rfl,aA⟩ ⟨by rw [Yqh O1];simp only [<-eJ];rfl,by rw [eJ];rfl,aA⟩
      .refine go 6 ?_;obtain rfl:j=xs.length-1:=O1;refine Zq (Ns 70 J J pV)<|go 2 ?_;refine tt (Qo 7 5 (Zbl (Yqd N)) J J J K2 call200 J O4 (Yc 70 J J J Zo) J a.h aA) λ_ _=>go 7 ?_;exact Nn t _ results242 J aA (Kk 7 Za (by unfold Ky;rw [aF O1]<;>rfl))
theorem Ztx(z:Vp xs)(y:Vp ys)(F:Nat)(hg:¬Zog xs ys)(V:eok F (gA xs ys) (gB xs ys)):Cal prog 249 #[v,u] [Yt 2 wv v xs,Yt 2 wv u ys] true (G:=Value) (λr=>True) (λr=> .tuple #[r,.int .i64 0]) (λr=>[Yt 2 wv r (Mz F xs ys)]):=by
 refine Ze func249 ntmps249 λw0 sc hw x=>?_;have Z:=z.len;have S:=y.len;have a2:=Og z.sz;have a3:=Og y.sz;have a4:=Yp xs;have a5:=Yp ys;have Q:(max xs.length ys.length+2)*(max xs.length ys.length+2)<=27*27:=aU O1 O1;have a0:(max xs.length ys.length+2)*(max xs.length ys.length+2)*(max (Pd xs) (Pd ys)+8)<=27*27*65544:=aU Q O1;have H:(max (xs.length:Int) (ys.length:Int)+2)*(max (xs.length:Int) (ys.length:Int)+2)=(((max xs.length ys.length+2)*(max xs.length ys.length+2):Nat):Int):=by rw [gQ,show(((max xs.length ys.length+2):Nat):Int)=(max (xs.length:Int) (ys.length:Int)+2) by omega]
 have j:(max (xs.length:Int) (ys.length:Int)+2)*(max (xs.length:Int) (ys.length:Int)+2)*(max (Pd xs:Int) (Pd ys:Int)+8)=(((max xs.length ys.length+2)*(max xs.length ys.length+2)*(max (Pd xs) (Pd ys)+8):Nat):Int):=by rw [H,gQ ((max xs.length ys.length+2)*(max xs.length ys.length+2)),show((max (Pd xs) (Pd ys)+8:Nat):Int)=max (Pd xs:Int) (Pd ys:Int)+8 by omega]
 refine go 10 ?_;refine cl 2 [1] (Xm ‹_›) λ_ _=>go 3 ?_;refine Ln 2 [2] (Xm ‹_›) λ_ _=>go 14 ?_;refine dt (Zbk J J J)<|go 4 ⟨O1,?_⟩;refine jn (G:=Unit) [0,1] [0,1,2] (λ_=>[(46,.bool (decide (Zog xs ys)))]) (λ_=>[]) (λ_=>True) ?_ ?_
 .refine go 5<|Zk 29 J (λN=>?_) (λN=>?_)
  .refine go 5<|Zk 34 J (λk=>?_) (λk=>?_)
   .refine go 4 ⟨by rw [H];exact⟨O1,O1⟩,?_⟩;refine Ln 2 [1] (Nv (by first|exact z.sz|exact y.sz)) λ_ _=>go 1 ?_;refine Ln 2 [2] (Nv (by first|exact z.sz|exact y.sz)) λ_ _=>?_;refine Hz (Zbk J J J) J J<|go 5 ⟨O1,by rw [j];exact⟨O1,O1⟩,?_⟩;exact Fb () aA ⟨by first|(rw [j];exact aH some (vB (bW.2 ⟨λh=>⟨O1,O1,O1⟩,λh=>by have:=h.2.2;omega⟩)))|exact aH some (vB (aG (λh=>by have W:=h.1;have Y:=h.2.1;omega)).symm),aA⟩ aA
   .refine go 13 ?_;exact Fb () aA ⟨by first|(rw [j];exact aH some (vB (bW.2 ⟨λh=>⟨O1,O1,O1⟩,λh=>by have:=h.2.2;omega⟩)))|exact aH some (vB (aG (λh=>by have W:=h.1;have Y:=h.2.1;omega)).symm),aA⟩ aA
  .refine go 18 ?_;exact Fb () aA ⟨by first|(rw [j];exact aH some (vB (bW.2 ⟨λh=>⟨O1,O1,O1⟩,λh=>by have:=h.2.2;omega⟩)))|exact aH some (vB (aG (λh=>by have W:=h.1;have Y:=h.2.1;omega)).symm),aA⟩ aA
 .rintro _ -;refine Zb J (λl=>?_) (λl=>?_)
  .exfalso;exact hg l
  .refine go 5 ?_;refine cl 3 [1] (Mi z) λ_ _=>go 14<|Zb J (λm=>?_) (λm=>?_)
   .exfalso;exact m rfl
   .refine go 5 ?_;refine cl 4 [2] (Mi y) λ_ _=>go 14<|Zb J (λn=>?_) (λn=>?_)
    .exfalso;exact n rfl
    .refine go 2 ?_;refine jn (G:=Value×Value) [] [0,1,2,3,4] (λq=>[(7,q.1),(9,q.2)]) (λq=>[(80,Yt 2 wv q.1 (gA xs ys)),(81,Yt 2 wv q.2 (gB xs ys))]) (λq=>True) ?_ ?_
     .refine go 9<|Zb J (λD=>?_) (λD=>?_)
      .refine go 6<|Xh (Kn 4 80 J J J)<|Xh (Kn 3 81 J J J) ?_;exact Fb (_,_) aA K2 ⟨by unfold gA;first|rw [aO O1];rfl|rw [aF O1];rfl,by unfold gB;first|rw [aO O1];rfl|rw [aF O1];rfl,aA⟩
      .refine go 1<|Xh (Kn 3 80 J J J)<|Xh (Kn 4 81 J J J) ?_;exact Fb (_,_) aA K2 ⟨by unfold gA;first|rw [aO O1];rfl|rw [aF O1];rfl,by unfold gB;first|rw [aO O1];rfl|rw [aF O1];rfl,aA⟩
     .rintro⟨va,vb⟩ -;dsimp only;refine go 2 ?_;refine lp (G:=Value×Value×List Int×List Int×Nat) [] [0,1,2,3,4] (λq=>[(7,q.1),(9,q.2.1)]) (λq=>[(80,Yt 2 wv q.1 q.2.2.1),(81,Yt 2 wv q.2.1 q.2.2.2.1)]) (λq=>(Vp q.2.2.1)/\(Vp q.2.2.2.1)/\(eok q.2.2.2.2 q.2.2.1 q.2.2.2.1)/\(eu q.2.2.2.2 q.2.2.1 q.2.2.2.1=eu F (gA xs ys) (gB xs ys))) (λq=>q.2.2.2.2) (va,vb,gA xs ys,gB xs ys,F) ⟨vp_gA z y,vp_gB z y,V,J⟩ K2 K2 ?_;rintro⟨va,vb,a,b,f⟩ ⟨d,B,t,g⟩;dsimp only at d B t g;dsimp only;refine go 8<|Zb J (λi=>?_) (λi=>?_)
      .have R:b≠[]:=λe=>by rw [e]at i;simp at i
       obtain⟨f1,rfl,w,M,I⟩:=Yj2 t R;refine go 7 ?_;refine cl 5 [80,81] (Zn5 d B w) λ_ _=>go 14<|Zb J (λo=>?_) (λo=>?_)
       .exfalso;exact o rfl
       .refine go 6 ?_;refine cl 6 [5] (Mi (Zcu d w)) λ_ _=>go 13<|Zb J (λp=>?_) (λp=>?_)
        .exfalso;exact p rfl
        .refine go 9<|Xh (Kn 81 80 J J J)<|Xh (Kn 6 81 J J J) ?_;exact Yj (_,_,b,Yw (Qw a b),f1) ⟨B,Hb (Zcu d w),M,by rw [<-I];exact g⟩ (Nat.lt_succ_self f1) K2 K2
      .obtain rfl:b=[]:=aK O1;rw [Zmk]at g;have a1:=d.len;refine go 12<|Zk 95 J (λP=>?_) (λP=>?_)
       .refine go 4 ⟨O1,?_⟩;refine Hz (Yk 80 (a.length-1) J J J J Zl Mv Oc) J J<|go 1 ⟨O1,?_⟩;refine Ln 6 [] (Hi (d.sz _)) λ_ _=>go 4<|Zb J (λs=>?_) (λs=>?_)
        .have c:a.length≠0/\cf a (a.length-1)<0:=⟨O1,(sign_neg_iff _).1 s⟩;refine go 3 ?_;refine cl 6 [] (Zm (-1) (by first|assumption|exact⟨O1,O1⟩)) λ_ _=>cl 7 [80] (Kh (-1) d O4 (Zcj d.sz)) λ_ _=>go 8 ?_;exact Nn x _ results249 J aA (Kk 7 Za (by unfold Mz Gl;rw [<-g,aO c]<;>rfl))
        .refine go 10 ?_;have c:¬(a.length≠0/\cf a (a.length-1)<0):=λh=>by first|omega|exact absurd ((sign_neg_iff (cf a (a.length-1))).2 h.2) ‹_›
         exact Nn x _ results249 J aA (Kk 80 Za (by unfold Mz Gl;rw [<-g,aF c]<;>rfl))
       .refine go 22 ?_;have c:¬(a.length≠0/\cf a (a.length-1)<0):=λh=>by first|omega|exact absurd ((sign_neg_iff (cf a (a.length-1))).2 h.2) ‹_›
        exact Nn x _ results249 J aA (Kk 80 Za (by unfold Mz Gl;rw [<-g,aF c]<;>rfl))
theorem Zgo{l:List Int}(f:∀x∈l,La x)(g:l.length<=1000:=by decide):Cal prog 170 #[v] [Yt 1 Xk v l] true (G:=Value) (λr=>True) (λr=> .tuple #[r,.int .i64 (if 25<(tzl l).length then 7 else 0)]) (λr=>[Yt 2 wv r (if 25<(tzl l).length then []else tzl l)]):=by
 refine Ze func170 ntmps170 λp n h b=>?_;have e:=Ym7 f;refine go 20<|Zq (Gg 70 2 130 wv) ?_;refine lp (G:=Nat×Value) [7,8] [0,1] (λq=>[(9,.int .i64 (q.1:Int)),(4,q.2)]) (λq=>[(70,Nk 2 130 wv q.2 (l.take q.1))]) (λq=>q.1<=l.length) (λq=>l.length-q.1) (0,.slice none 0 0) O2 K2 K1 ?_;rintro⟨k,o⟩ i;dsimp only at i;dsimp only;have j:(l.take k).length=k:=by rw [dX];omega
 refine go 6<|Zb J (λc=>?_) (λc=>?_)
 .refine go 14 ⟨O3,O3,?_⟩;refine cl 1 [] (Zm _ (f _ (Zg O1))) λ_ _=>?_;refine tt (Oj [(0,_)] 2 (enc:=wv) [l.getD k 0] J J K2 Mv ti130 J J J J J pV.cells J J h.h) (λv _=>?_);refine tt (Er 70 2 24 J J J J J J O4 J (Yu pV) Mv ti130 J pV J J J O10 O4 J h.h) (λm _=>?_);refine go 8 ⟨O1,?_⟩;exact Yj (k+1,_) O2 O2 K2 ⟨by rw [Pu 0 _ _ O1];rfl,aA⟩
 .refine go 6 ?_;obtain rfl:k=l.length:=O1;rw [cK];refine Zq (Ns 70 J J pV)<|go 2 ?_;refine cl 3 [70] (Zd4 e) λ_ _=>go 11<|Zb J (λd=>?_) (λd=>?_)
  .refine go 8 ?_;have a:25<(tzl l).length:=O1;exact Nn b _ results170 (by rw [aO a]) aA (Lm (aO a) Za)
  .refine go 10 ?_;have a:¬25<(tzl l).length:=O1;exact Nn b _ results170 (by rw [aF a]<;>rfl) aA (Kk 3 Za (by rw [aF a]<;>rfl))
end Go.Sky

