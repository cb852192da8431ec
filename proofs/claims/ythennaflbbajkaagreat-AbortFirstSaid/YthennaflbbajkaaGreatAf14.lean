/- Rules, arithmetic and contracts: part 15. No conditions but those that each theorem names. -/
import Derived.Test.YthennaflbbajkaaGreatAf13
set_option linter.all false
set_option maxHeartbeats 4000000
namespace Go.Sky
open Go.Proofs.Tryz
open Go.Proofs
set_option synthInstance.maxHeartbeats 0
set_option synthInstance.maxSize 100000
set_option maxRecDepth 20000
set_option linter.unusedSimpArgs false
variable{bd:Nat}{v u:Value}{xs ys:List Int}
theorem Za2(hs:Sz 65536 xs):Zc7 prog 200 #[.pointer (some ⟨bd,0,none⟩),v] [Yn 2 wv v xs] true bd 284 #[.int .i64 0] (G:=Unit) (λ_=>True) (λ_=> .tuple #[Gf v (tzl xs).length,.int .i64 0]) (λ_=>#[.int .i64 0]) (λ_=>[Yn 2 wv (Gf v (tzl xs).length) (tzl xs)]):=by
 refine Em func200 J ntmps200 J K1 ?_;intro f e d c;have d:=Hw.mk d;simp only [Qi,Yl];refine go 17<|Zb J (λb=>?_) (λb=>?_)
 .exfalso;simp_all
 .refine go 5 ?_;refine cl 3 [2] (Zdd ‹_›) λ_ _=>go 5 ?_;exact Ez (.inl J) c () (λa w hs=>Zvm hs results200 J J) J aA 1 J J J J (Gh 3 J J J Za)
theorem Yai(g:xs.length*24<=140737488355328:=by omega):Yj7 prog 263 #[v] [Yn 2 wv v xs] (G:=Value) (λr=>True) (λr=>r) (λr=>Nc 2 130 wv r xs):=by
 refine Zqo func263 J ntmps263 J K1 ?_;intro j h d e;have d:=Hw.mk d;simp only [Qi,Yl];refine Mc (Yht (i:=1) J Zg) λc=>go 9 ?_;refine dt (Zqd J J J (i:=1) J Zg Mo)<|go 2 ?_;refine Ym J (λb=>?_) (λb=>?_)
 .refine go 7 ?_;obtain rfl:xs=[]:=c (by simpa using b);exact Xf (Iq 9 2 130 wv)<|Zgq (.inl J) (.slice none 0 0) (λa w hs=>Fh hs results263 J) J aA J 9 J J J
 .refine go 4 ?_;refine tt (Ydo 2 (enc:=wv) J J J Mo pV J d.h) λv _=>go 1 ?_;refine tt (Gm 2 1 24 J J J J J J O3 J Zg Mo ti130 J pV J J J O9 O3 J d.h) λf _=>go 4 ?_;exact Zgq (.inl J) _ (λa w hs=>Fh hs results263 J) J aA J 2 J (by rfl) J
theorem Zh1(c:Vp xs):Xe prog 259 #[v] [Yn 2 wv v xs] (.tuple #[.int .i64 ((xs.length:Int)-1),.int .i64 0]):=by refine Zd func259 ntmps259 λf e d a=>?_;have b:=c.len;refine go 10 ?_;refine cl 1 [1] (Xk ‹_›) λ_ _=>?_;refine go 16 ⟨O,?_⟩;exact Ok a () results259 J aA Za
theorem Zm4(b:Vp xs):Xe prog 260 #[v] [Yn 2 wv v xs] (.tuple #[.int .i64 (Pb xs:Int),.int .i64 0]):=by refine Zd func260 ntmps260 λe d c a=>go 10 ?_;refine cl 1 [1] (Xk ‹_›) λ_ _=>go 9 ?_;refine cl 1 [1] (Ns b.sz) λ_ _=>go 5 ?_;exact Ok a () results260 J aA Za
theorem Zue(n:Vp xs)(m:Vp ys)(o:∀i,bl (cf xs i+cf ys i).natAbs<=65536):Zc7 prog 203 #[v,u,.pointer (some ⟨bd,0,none⟩),.func (.func 202) #[.pointer (some ⟨bd,0,none⟩)] #[]] [Yn 2 wv v xs,Yn 2 wv u ys] true bd 284 #[.int .i64 0] (G:=Value) (λr=>True) (λr=> .tuple #[r,.int .i64 0]) (λr=>#[.int .i64 0]) (λr=>[Yn 2 wv r (Zci xs ys)]):=by
 refine Em func203 J ntmps203 J K2 ?_;intro x t c j;have c:=Hw.mk c;simp only [Qi,Yl];have l:=n.len;have h:=m.len;refine go 10 ?_;refine cl 3 [2] (Xk ‹_›) λ_ _=>go 3 ?_;refine Np 3 [3] (Xk ‹_›) λ_ _=>go 13 ?_;refine dt (Zb1 J J J)<|tt (Ev 4 (max xs.length ys.length) 24 (enc:=wv) 0 J J J J Mo ti130 J pV.cells pV.pos J J J c.h) λv _=>go 12 ?_;refine lp (G:=Nat) [0,1,2,3,10,29] [0,1,2,3] (λk=>[(30,.int .i64 (k:Int))]) (λk=>[(4,Nc 2 130 wv v (fill (max xs.length ys.length) k (λi=>cf xs i+cf ys i)))]) (λk=>k<=max xs.length ys.length) (λk=>max xs.length ys.length-k) 0 O1 K1 ⟨by rw [Bi (max xs.length ys.length) (λi=>cf xs i+cf ys i)];rfl,aA⟩ ?_;rintro k s;have q:(fill (max xs.length ys.length) k (λi=>cf xs i+cf ys i)).length=max xs.length ys.length:=Pf _ _ _;refine go 6<|Zb J (λd=>?_) (λd=>?_)
 .try rw [aT]at *
  refine go 12<|Zv (Zu 5) λb _=>Zv (Zu 6) λg _=>go 2 ?_;refine jn (G:=Unit) [0,1,2,3,10,11,12,13,29,30] [0,4,1,2,3,6] (λ_=>[]) (λ_=>[(5,box b 130 (wc (cf xs k)))]) (λ_=>True) ?_ ?_
  .refine go 8<|Zb J (λe=>?_) (λe=>?_)
   .refine go 7 ⟨O2,O2,?_⟩;exact Hh () aA aA ⟨by first|rfl|(rw [Yw (p:=xs) O];rfl),aA⟩
   .refine go 1 ?_;exact Hh () aA aA ⟨by first|rfl|(rw [Yw (p:=xs) O];rfl),aA⟩
  .rintro _ -;refine jn (G:=Unit) [0,1,2,3,10,11,12,13,29,30] [0,5,4,1,2,3] (λ_=>[]) (λ_=>[(6,box g 130 (wc (cf ys k)))]) (λ_=>True) ?_ ?_
   .refine go 8<|Zb J (λf=>?_) (λf=>?_)
    .refine go 7 ⟨O2,O2,?_⟩;exact Hh () aA aA ⟨by first|rfl|(rw [Yw (p:=ys) O];rfl),aA⟩
    .refine go 1 ?_;exact Hh () aA aA ⟨by first|rfl|(rw [Yw (p:=ys) O];rfl),aA⟩
   .rintro _ -;refine go 6 ?_;refine tt (Zri 6 1 [_] [_,_] (Zlk (n.sz _) (m.sz _) (o _)) J J J J K2 call202 J O3 Zq J c.h aA) (λ_ _=>?_);refine dt (Yh 4 k J J J J (Yi pV) Mo Od J (by rw [Pf];omega))<|tt (Ln 4 (enc:=wv) J J J J J J pV J c.h O3 (by rw [Pf];omega)) (λ_ _=>?_);refine go 7 ⟨O,?_⟩;exact Yj (k+1) O1 O1 K1 ⟨by rw [<-Zcq O];rfl,aA⟩
 .try rw [aT]at *
  refine go 6 ?_;obtain rfl:k=max xs.length ys.length:=O;refine Zr (Nk 4 J J pV)<|go 3 ?_;refine tt (Ql 7 1 (Za2 (by rw [Eh];exact Zfz λi _=>o i)) J J J K2 call200 J O3 (Ye 4 J J J Zq) J c.h aA) λ_ _=>go 7 ?_;exact Ez (.inl J) j _ (λa w hs=>Zvm hs results203 J J) J aA 1 J J J J (Zk7 7 J J J (by rw [Eh]<;>rfl) Za)
theorem Zud(n:Vp xs)(m:Vp ys)(o:∀i,bl (cf xs i-cf ys i).natAbs<=65536):Zc7 prog 203 #[v,u,.pointer (some ⟨bd,0,none⟩),.func (.func 204) #[.pointer (some ⟨bd,0,none⟩)] #[]] [Yn 2 wv v xs,Yn 2 wv u ys] true bd 284 #[.int .i64 0] (G:=Value) (λr=>True) (λr=> .tuple #[r,.int .i64 0]) (λr=>#[.int .i64 0]) (λr=>[Yn 2 wv r (Zbk xs ys)]):=by
 refine Em func203 J ntmps203 J K2 ?_;intro x t c j;have c:=Hw.mk c;simp only [Qi,Yl];have l:=n.len;have h:=m.len;refine go 10 ?_;refine cl 3 [2] (Xk ‹_›) λ_ _=>go 3 ?_;refine Np 3 [3] (Xk ‹_›) λ_ _=>go 13 ?_;refine dt (Zb1 J J J)<|tt (Ev 4 (max xs.length ys.length) 24 (enc:=wv) 0 J J J J Mo ti130 J pV.cells pV.pos J J J c.h) λv _=>go 12 ?_;refine lp (G:=Nat) [0,1,2,3,10,29] [0,1,2,3] (λk=>[(30,.int .i64 (k:Int))]) (λk=>[(4,Nc 2 130 wv v (fill (max xs.length ys.length) k (λi=>cf xs i-cf ys i)))]) (λk=>k<=max xs.length ys.length) (λk=>max xs.length ys.length-k) 0 O1 K1 ⟨by rw [Bi (max xs.length ys.length) (λi=>cf xs i-cf ys i)];rfl,aA⟩ ?_;rintro k s;have q:(fill (max xs.length ys.length) k (λi=>cf xs i-cf ys i)).length=max xs.length ys.length:=Pf _ _ _;refine go 6<|Zb J (λd=>?_) (λd=>?_)
 .try rw [aT]at *
  refine go 12<|Zv (Zu 5) λb _=>Zv (Zu 6) λg _=>go 2 ?_;refine jn (G:=Unit) [0,1,2,3,10,11,12,13,29,30] [0,4,1,2,3,6] (λ_=>[]) (λ_=>[(5,box b 130 (wc (cf xs k)))]) (λ_=>True) ?_ ?_
  .refine go 8<|Zb J (λe=>?_) (λe=>?_)
   .refine go 7 ⟨O2,O2,?_⟩;exact Hh () aA aA ⟨by first|rfl|(rw [Yw (p:=xs) O];rfl),aA⟩
   .refine go 1 ?_;exact Hh () aA aA ⟨by first|rfl|(rw [Yw (p:=xs) O];rfl),aA⟩
  .rintro _ -;refine jn (G:=Unit) [0,1,2,3,10,11,12,13,29,30] [0,5,4,1,2,3] (λ_=>[]) (λ_=>[(6,box g 130 (wc (cf ys k)))]) (λ_=>True) ?_ ?_
   .refine go 8<|Zb J (λf=>?_) (λf=>?_)
    .refine go 7 ⟨O2,O2,?_⟩;exact Hh () aA aA ⟨by first|rfl|(rw [Yw (p:=ys) O];rfl),aA⟩
    .refine go 1 ?_;exact Hh () aA aA ⟨by first|rfl|(rw [Yw (p:=ys) O];rfl),aA⟩
   .rintro _ -;refine go 6 ?_;refine tt (Zri 6 1 [_] [_,_] (Zwl (n.sz _) (m.sz _) (o _)) J J J J K2 call204 J O3 Zq J c.h aA) (λ_ _=>?_);refine dt (Yh 4 k J J J J (Yi pV) Mo Od J (by rw [Pf];omega))<|tt (Ln 4 (enc:=wv) J J J J J J pV J c.h O3 (by rw [Pf];omega)) (λ_ _=>?_);refine go 7 ⟨O,?_⟩;exact Yj (k+1) O1 O1 K1 ⟨by rw [<-Zcq O];rfl,aA⟩
 .try rw [aT]at *
  refine go 6 ?_;obtain rfl:k=max xs.length ys.length:=O;refine Zr (Nk 4 J J pV)<|go 3 ?_;refine tt (Ql 7 1 (Za2 (by rw [Eh];exact Zfz λi _=>o i)) J J J K2 call200 J O3 (Ye 4 J J J Zq) J c.h aA) λ_ _=>go 7 ?_;exact Ez (.inl J) j _ (λa w hs=>Zvm hs results203 J J) J aA 1 J J J J (Zk7 7 J J J (by rw [Eh]<;>rfl) Za)
theorem Yfb(xs ys:List Int)(e:Vp xs)(d:Vp ys)(f:∀i,bl (cf xs i+cf ys i).natAbs<=65536):Cal prog 174 #[v,u] [Yn 2 wv v xs,Yn 2 wv u ys] true (G:=Value) (λr=>True) (λr=> .tuple #[r,.int .i64 0]) (λr=>[Yn 2 wv r (Zci xs ys)]):=by refine Zd func174 ntmps174 λh g c a=>go 8 ?_;refine Zv (Zu 3) λb _=>go 6 ?_;refine dt (d_mkf [_] J K1)<|tt (Ql 4 3 (Zue ‹_› ‹_› ‹_›) J J J K4 call203 J O3 (Ye 1 J J J (Ye 2 J J J Zq)) J c.h aA) λ_ _=>go 7 ?_;exact Ok a _ results174 J aA (Ka 4 Za)
theorem Yfa(xs ys:List Int)(e:Vp xs)(d:Vp ys)(f:∀i,bl (cf xs i-cf ys i).natAbs<=65536):Cal prog 175 #[v,u] [Yn 2 wv v xs,Yn 2 wv u ys] true (G:=Value) (λr=>True) (λr=> .tuple #[r,.int .i64 0]) (λr=>[Yn 2 wv r (Zbk xs ys)]):=by refine Zd func175 ntmps175 λh g c a=>go 8 ?_;refine Zv (Zu 3) λb _=>go 6 ?_;refine dt (d_mkf [_] J K1)<|tt (Ql 4 3 (Zud ‹_› ‹_› ‹_›) J J J K4 call203 J O3 (Ye 1 J J J (Ye 2 J J J Zq)) J c.h aA) λ_ _=>go 7 ?_;exact Ok a _ results175 J aA (Ka 4 Za)
theorem Zsh(xs ys:List Int)(z:Vp xs)(y:Vp ys)(I:¬Ax xs ys):Cal prog 173 #[v,u] [Yn 2 wv v xs,Yn 2 wv u ys] true (G:=Value) (λr=>True) (λr=> .tuple #[r,.int .i64 0]) (λr=>[Yn 2 wv r (Qx xs ys)]):=by
 refine Zd func173 ntmps173 λw0 Z B f=>?_;have M:=z.len;have H:=y.len;have S:=Oc z.sz;have V:=Oc y.sz;refine go 10 ?_;refine cl 2 [1] (Xk ‹_›) λ_ _=>go 3 ?_;refine Np 2 [2] (Xk ‹_›) λ_ _=>go 14<|Zi 23 J (λD=>?_) (λD=>?_)
 .refine go 15 ?_;exact Ok f _ results173 J aA (Lg (Zfq (p:=xs) (q:=ys) (by first|(left;omega)|(right;omega))) Za)
 .refine go 6<|Zb J (λg=>?_) (λg=>?_)
  .refine go 8 ?_;exact Ok f _ results173 J aA (Lg (Zfq (p:=xs) (q:=ys) (by first|(left;omega)|(right;omega))) Za)
  .have c:xs≠[]:=by intro e;subst e;simp_all
   have d:ys≠[]:=by intro e;subst e;simp_all
   have Q:0<xs.length:=aL.2 c;have R:0<ys.length:=aL.2 d;refine go 13 ⟨O,O,?_⟩;refine Zi 35 J (λF=>?_) (λF=>?_)
   .exfalso;exact I ⟨c,d,.inl O⟩
   .refine go 1 ?_;refine Np 2 [1] (Ns (by first|exact z.sz|exact y.sz)) λ_ _=>go 1 ?_;refine Np 2 [2] (Ns (by first|exact z.sz|exact y.sz)) λ_ _=>?_;refine go 6 ⟨O,O,?_⟩;refine Zb J (λk=>?_) (λk=>?_)
    .exfalso;exact I ⟨c,d,by first|(left;omega)|(right;omega)⟩
    .have W:Pb xs+Pb ys+5<=65536:=O;have s:∀i j,bl (cf xs i*cf ys j).natAbs<=65536:=λi j=>by have:=Xx (cf xs i) (cf ys j);have:=Kq xs i;have:=Kq ys j;omega
     have n:∀i j t,i<25->bl (Za4 xs ys i j t).natAbs<=65536:=λi j t hi=>by have:=Yog (i:=i) (j:=j) (t:=t) (Kq xs) (Kq ys) O;omega
     have o:∀t,bl (acc xs ys xs.length t).natAbs<=65536:=λt=>by have:=bl_acc (i:=xs.length) (t:=t) (Kq xs) (Kq ys) O;omega
     have w:∀i j,i<25->bl (Za4 xs ys i j (i+j)+cf xs i*cf ys j).natAbs<=65536:=λi j hi=>by rw [<-Yc0];exact n i (j+1) _ hi
     refine go 4<|Zv (Zu 3) λb _=>?_;refine go 10 ⟨O,O,?_⟩;refine tt (Ev 4 (xs.length+ys.length-1) 24 (enc:=wv) 0 J J J J Mo ti130 J pV.cells pV.pos J J J B.h) λv _=>go 12 ?_;refine lp (G:=Nat) [1,6,7,51,52] [0,1,2,3] (λi=>[(53,.int .i64 (i:Int))]) (λi=>[(4,Nc 2 130 wv v (mk (xs.length+ys.length-1) (acc xs ys i)))]) (λi=>i<=xs.length) (λi=>xs.length-i) 0 O1 K1 ⟨by rw [Zvn];rfl,aA⟩ ?_;rintro i hi;refine go 6<|Zb J (λl=>?_) (λl=>?_)
     .refine go 9 ⟨O2,O2,?_⟩;refine Zv (Zu 5) λN _=>go 12 ?_;refine lp (G:=Nat) [1,6,7,8,9,51,52,53,58,59] [0,1,2,3,5] (λj=>[(60,.int .i64 (j:Int))]) (λj=>[(4,Nc 2 130 wv v (mk (xs.length+ys.length-1) (Za4 xs ys i j)))]) (λj=>j<=ys.length) (λj=>ys.length-j) 0 O1 K1 ⟨by rw [Ycz];rfl,aA⟩ ?_;rintro j Y;have a:i+j<xs.length+ys.length-1->(mk (xs.length+ys.length-1) (Za4 xs ys i j)).getD (i+j) 0=Za4 xs ys i j (i+j):=λh=>Zdp h;refine go 6<|Zb J (λm=>?_) (λm=>?_)
      .refine go 9 ⟨O2,O2,?_⟩;refine Zv (Zu 6) λP _=>go 4<|Pd (λx=>x=b) [(0,0),(1,0),(2,0),(3,0),(4,0),(5,0),(6,0),(7,0),(8,0),(9,0),(10,0),(11,0),(12,1),(13,1),(14,0),(15,3)]<|go 8 ⟨O,O,?_⟩;refine Xy J J (st1 3 J (Yh 4 (i+j) J J J J (Yi pV) Mo Od O (by rw [Yz];omega)))<|go 3 ⟨by rw [Yz];omega,?_⟩;refine Bq J (Ql 6 3 (Dj (z.sz _) (y.sz _) (s i j)) J J J K3 call199 J O3 Zq J B.h J) (λ_ _=>?_);refine Bq J (Ql 6 3 (Zlk (by rw [a O];exact n i j _ O) (s i j) (by rw [a O];exact w i j O)) J J J K3 call202 J O3 Zq J B.h J) (λ_ _=>?_);refine Xy J J (st1 3 J (Yh 4 (i+j) J J J J (Yi pV) Mo Od O (by rw [Yz];omega)))<|r3' J (Ln 4 (enc:=wv) J J J J J J pV J B.h O3 (by rw [Yz];omega)) (λ_ _=>?_);refine go 7 ⟨O,?_⟩;exact Yj (j+1) O1 O1 K1 ⟨by rw [<-Yjp O,<-a O];rfl,aA⟩
      .refine go 10 ⟨O,?_⟩;obtain rfl:j=ys.length:=O;exact Yj (i+1) O1 O1 K1 ⟨by rw [<-Yjq];rfl,aA⟩
     .refine go 6 ?_;obtain rfl:i=xs.length:=O;refine Zr (Nk 4 J J pV)<|go 2 ?_;refine tt (Ql 7 3 (Za2 (Zfz λt _=>o t)) J J J K2 call200 J O3 (Ye 4 J J J Zq) J B.h aA) λ_ _=>go 7 ?_;exact Ok f _ results173 J aA (Ka 7 Za (by rw [Yfd]<;>rfl))
theorem Zd5(g:Vp xs)(f:Vp ys):Xe prog 262 #[v,u] [Yn 2 wv v xs,Yn 2 wv u ys] (.tuple #[.bool (Yni xs ys),.int .i64 (Bc xs ys)]):=by
 refine Zd func262 ntmps262 λp o n c=>?_;have i:=g.len;have h:=f.len;have j:=Oc g.sz;have k:=Oc f.sz;refine go 11 ?_;refine cl 2 [1] (Xk ‹_›) λ_ _=>go 3 ?_;refine Np 2 [2] (Xk ‹_›) λ_ _=>go 14<|Zb J (λd=>?_) (λd=>?_)
 .refine go 9 ?_;exact Ok c () results262 (by unfold Bc Yni;rw [aO O,aH (l:=ys) O];rfl) aA Za
 .refine go 10<|Zb J (λe=>?_) (λe=>?_)
  .refine go 9 ?_;exact Ok c () results262 (by rw [Zgd O,aD O];unfold Bc;rw [aJ O,aO O]) aA Za
  .have m:(xs.length-ys.length+1)*(Pb ys+1)<=26*65537:=aS O O;have b:((xs.length:Int)-(ys.length:Int)+1)*((Pb ys:Int)+1)=(((xs.length-ys.length+1)*(Pb ys+1):Nat):Int):=by rw [gD];congr 1;omega
   refine go 3 ?_;refine cl 2 [1] (Ns (by first|exact g.sz|exact f.sz)) λ_ _=>?_;refine go 7 ⟨O,O,?_⟩;refine cl 2 [2] (Ns (by first|exact g.sz|exact f.sz)) λ_ _=>?_;refine go 7 ⟨O,by rw [b];exact⟨O,O⟩,by rw [b];exact⟨O,O⟩,?_⟩;refine Zb J (λa=>?_) (λa=>?_)
   .refine go 9 ?_;exact Ok c () results262 (by rw [b]at a;rw [Zgd O,aF O];unfold Bc;rw [aJ O,aJ O,aO O]) aA Za
   .refine go 10 ?_;exact Ok c () results262 (by rw [b]at a;rw [Zgd O,aF O];unfold Bc;rw [aJ O,aJ O,aJ O]) aA Za
theorem Zm3(H:Vp xs)(s:Vp ys)(M:Bc xs ys=0):Cal prog 261 #[v,u] [Yn 2 wv v xs,Yn 2 wv u ys] true (G:=Value) (λr=>True) (λr=> .tuple #[r,.int .i64 0]) (λr=>[Yn 2 wv r (Qr xs ys)]):=by
 refine Zd func261 ntmps261 λw0 sc g q=>?_;have N:=H.len;have B:=s.len;have W:=Oc H.sz;have Y:=Oc s.sz;obtain⟨F,t⟩:=Zdq M;have o:=Zgd (p:=xs) F;refine go 10 ?_;refine cl 2 [1,2] (Zd5 H s) λ_ _=>go 14<|Zb J (λd=>?_) (λd=>?_)
 .exfalso;exact d M
 .refine go 5 ?_;refine tt (Zih 3 Yai J J J K1 call263 (Ye 1 J J J Zq) J g.h) λv _=>go 9 ?_;refine Ym J (λa=>?_) (λa=>?_)
  .have D:xs.length<ys.length:=by rw [o]at a;simpa using a
   refine go 9 ?_;exact Ok q _ results261 J aA (gow 3 Za (by unfold Qr;rw [aO D]))
  .have z:ys.length<=xs.length:=by rw [o]at a;simpa using a
   have I:=t z;refine go 4<|Zv (Zu 4) λb _=>?_;refine go 8 ⟨O,?_⟩;refine dt (Yh 2 (ys.length-1) J J J J Zg Mo Od)<|go 1 ⟨O,?_⟩;refine Zv (Zu 5) λP _=>?_;refine go 13 ⟨O,?_⟩;refine lp (G:=Nat) [1,8,9,10] [0,1,2,4,5] (λj=>[(11,.int .i64 ((xs.length:Int)-1-(j:Int)))]) (λj=>[(3,Nc 2 130 wv v (Ob xs ys j))]) (λj=>j<=xs.length-ys.length+1) (λj=>xs.length-ys.length+1-j) 0 O1 ⟨by rw [show(xs.length:Int)-1-((0:Nat):Int)=(xs.length:Int)-1 by omega];rfl,aA⟩ K1 ?_;rintro j Z;refine go 10 ⟨O,?_⟩;refine Zb J (λk=>?_) (λk=>?_)
   .obtain⟨n,c,y⟩:=rest_b I (j:=j) O;have w:=Lz xs ys j;refine go 8 ?_;refine dt (Yh 3 (xs.length-1-j) J J J J (Yi pV) Mo Od)<|go 1 ⟨O,?_⟩;refine Zv (Zu 6) λQ _=>go 12 ?_;refine lp (G:=Nat) [1,8,9,10,11,12,51] [0,1,2,4,5,6] (λi=>[(52,.int .i64 (i:Int))]) (λi=>[(3,Nc 2 130 wv v (Zks (Ob xs ys j) (cf ys (ys.length-1)) i))]) (λi=>i<=xs.length) (λi=>xs.length-i) 0 O1 K1 ⟨by rw [Ybz];rfl,aA⟩ ?_;rintro i hi;have e:i<xs.length->(Zks (Ob xs ys j) (cf ys (ys.length-1)) i).getD i 0=cf (Ob xs ys j) i:=λh=>Yf4 O;have S:=Zs3 (Ob xs ys j) (cf ys (ys.length-1)) i;refine go 6<|Zb J (λl=>?_) (λl=>?_)
    .refine go 10<|Pd (λx=>x=b) [(0,0),(1,0),(2,0),(3,0),(4,0),(5,0),(6,0),(7,1),(8,0),(9,3)]<|go 4 ?_;refine Xy J J (st1 4 J (Yh 3 i J J J J (Yi pV) Mo Od J))<|go 2 ⟨O,?_⟩;refine Bq J (Ql 6 4 (Dj (by rw [e O];exact n _) (s.sz _) (by rw [e O];exact c _ _)) J J J K3 call199 J O3 Zq J g.h J) (λ_ _=>?_);refine Xy J J (st1 4 J (Yh 3 i J J J J (Yi pV) Mo Od J))<|r3' J (Ln 3 (enc:=wv) J J J J J J pV J g.h) (λ_ _=>?_);refine go 7 ⟨O,?_⟩;exact Yj (i+1) O1 O1 K1 ⟨by rw [<-Yf3 O,<-e O];rfl,aA⟩
    .refine go 6 ?_;obtain rfl:i=xs.length:=O;refine go 7 ?_;refine lp (G:=Nat) [1,8,9,10,11,12,65,66] [0,1,2,4,5,6] (λi=>[(67,.int .i64 (i:Int))]) (λi=>[(3,Nc 2 130 wv v (Zoe ys (Ob xs ys j) (cf ys (ys.length-1)) (cf (Ob xs ys j) (xs.length-1-j)) (xs.length-1-j-(ys.length-1)) i))]) (λi=>i<=ys.length) (λi=>ys.length-i) 0 O1 K1 ⟨by rw [<-Ybb,w];rfl,aA⟩ ?_;rintro i hi;have f:i<ys.length->(Zoe ys (Ob xs ys j) (cf ys (ys.length-1)) (cf (Ob xs ys j) (xs.length-1-j)) (xs.length-1-j-(ys.length-1)) i).getD ((xs.length-1-j-(ys.length-1))+i) 0=cf (Ob xs ys j) ((xs.length-1-j-(ys.length-1))+i)*(cf ys (ys.length-1)):=λh=>Ydv O;have V:=Zs2 ys (Ob xs ys j) (cf ys (ys.length-1)) (cf (Ob xs ys j) (xs.length-1-j)) (xs.length-1-j-(ys.length-1)) i;refine go 6<|Zb J (λm=>?_) (λm=>?_)
     .refine go 9 ⟨O2,O2,?_⟩;refine Zv (Zu 7) λR _=>?_;refine go 16 ⟨O,O,O,?_⟩;refine Pd (λx=>x=b) [(0,0),(1,0),(2,0),(3,0),(4,0),(5,0),(6,0),(7,0),(8,1),(9,1),(10,0),(11,3)]<|go 4 ?_;refine Xy J J (st1 4 J (Yh 3 ((xs.length-1-j-(ys.length-1))+i) J J J J (Yi pV) Mo Od))<|go 3 ⟨O,?_⟩;refine Bq J (Ql 7 4 (Dj (n _) (s.sz _) (c _ _)) J J J K3 call199 J O3 Zq J g.h J) (λ_ _=>?_);refine Bq J (Ql 7 4 (Zwl (by rw [f O];exact c _ _) (c _ _) (by rw [f O];exact y _ _ _ _)) J J J K3 call204 J O3 Zq J g.h J) (λ_ _=>?_);refine Xy J J (st1 4 J (Yh 3 ((xs.length-1-j-(ys.length-1))+i) J J J J (Yi pV) Mo Od))<|r3' J (Ln 3 (enc:=wv) J J J J J J pV J g.h) (λ_ _=>?_);refine go 7 ⟨O,?_⟩;exact Yj (i+1) O1 O1 K1 ⟨by rw [<-Ydu O,<-f O];rfl,aA⟩
     .refine go 11 ⟨O,?_⟩;obtain rfl:i=ys.length:=O;exact Yj (j+1) O1 O1 ⟨by rw [show(xs.length:Int)-1-((j+1:Nat):Int)=(xs.length:Int)-1-(j:Int)-1 by omega];rfl,aA⟩ ⟨by rfl,aA⟩
   .refine go 6 ?_;obtain rfl:j=xs.length-ys.length+1:=O;refine Zr (Nk 3 J J pV)<|go 2 ?_;refine tt (Ql 8 4 (Za2 (Zrj I)) J J J K2 call200 J O3 (Ye 3 J J J Zq) J g.h aA) λ_ _=>go 7 ?_;exact Ok q _ results261 J aA (Ka 8 Za (by unfold Qr;rw [aJ O]<;>rfl))
theorem Zcg(hv:Vp xs)(g:Vp ys)(hd:Bc xs ys=0):Cal prog 250 #[v,u] [Yn 2 wv v xs,Yn 2 wv u ys] true (G:=Value) (λr=>True) (λr=> .tuple #[r,.int .i64 (if pdv xs ys then 0 else 10)]) (λr=>[Yn 2 wv r (if pdv xs ys then He xs ys else [])]):=by
 refine Zd func250 ntmps250 λw0 sc D s=>?_;have a6:=hv.len;have a0:=g.len;have c2:=Oc hv.sz;have c3:=Oc g.sz;obtain⟨R,W⟩:=Zdq hd;have P:=Zgd (p:=xs) R;have c:cf ys (ys.length-1)≠0:=g.tr.mem (λe=>R (by rw [e];rfl));refine go 10 ?_;refine cl 2 [1,2] (Zd5 hv g) λ_ _=>go 16<|Zb J (λw=>?_) (λw=>?_)
 .exfalso;exact w hd
 .refine go 8<|Zb J (λl=>?_) (λl=>?_)
  .refine go 9 ?_;have S:xs=[]:=aH O;have d:pdv xs ys:= .inl S;exact Ok s _ results250 (by rw [aO d]) aA (Lg (by rw [aO d,S];rfl) Za)
  .have t:xs≠[]:=λe=>by rw [e]at l;simp at l
   refine go 6<|Ym J (λa=>?_) (λa=>?_)
   .have c1:xs.length<ys.length:=by rw [P]at a;simpa using a
    refine go 9 ?_;have d:¬pdv xs ys:=λh=>by rcases h with h|h;(exact t h);(have:=h.1;omega)
    exact Ok s _ results250 (by rw [aJ d]) aA (Lg (aJ d) Za)
   .have Q:ys.length<=xs.length:=by rw [P]at a;simpa using a
    have V:=W Q;refine go 5<|Zv (Zu 3) λb _=>go 5 ?_;refine tt (Zih 4 Yai J J J K1 call263 (Ye 1 J J J Zq) J D.h) (λv _=>?_);refine go 11 ⟨O,O,?_⟩;refine tt (Ev 5 (xs.length-ys.length+1) 24 (enc:=wv) 0 J J J J Mo ti130 J pV.cells pV.pos J J J D.h) (λa2 _=>?_);refine go 13 ⟨⟨by simp only [aT];omega,by simp only [aT];omega⟩,?_⟩;refine lp (G:=Nat) [1,8,9,10] [0,1,2,3] (λj=>[(11,.int .i64 ((xs.length:Int)-(ys.length:Int)-(j:Int)))]) (λj=>[(4,Nc 2 130 wv v (Ph xs ys j)),(5,Nc 2 130 wv a2 (Zme xs ys j))]) (λj=>(j<=xs.length-ys.length+1)/\(∀k,xs.length-ys.length<k+j->k<=xs.length-ys.length->Hb xs ys k)) (λj=>xs.length-ys.length+1-j) 0 ⟨O1,λk h1 h2=>O⟩ ⟨by simp only [aT];exact aE some (Ygq O),aA⟩ ⟨J,by rw [Yco];rfl,aA⟩ ?_;rintro j ⟨hj,hx⟩;have d2:=Zcl xs ys j;refine go 7<|Zb J (λF=>?_) (λF=>?_)
    .obtain⟨f,Z⟩:=div_b V (j:=j) O hx;have b6:=Zar xs ys j;have b9:xs.length-ys.length-j+ys.length-1<xs.length:=O;refine go 4 ?_;refine jn (G:=Nat×Nat) [1,8,9,10,11] [0,4,5,1,2,3] (λq=>[(12,.pointer (some ⟨q.1,0,none⟩)),(13,.pointer (some ⟨q.2,0,none⟩)),(14,.int .i64 0)]) (λq=>[(97,box q.1 130 (wc (Bx (dq ys (Ph xs ys j) (xs.length-ys.length-j))))),(98,box q.2 130 (wc (Bx (cf (Ph xs ys j) ((xs.length-ys.length-j)+ys.length-1)%cf ys (ys.length-1)))))]) (λq=>True) ?_ ?_
     .refine Ni [2,4] [23]<|Zx 10 [(0,0),(1,0),(2,0),(3,0),(4,0),(5,0),(6,0),(7,0),(8,0),(9,0),(10,0),(11,0),(12,0),(13,0)]<|go 6 ⟨O,O,?_⟩;refine Xy J J (Fv (Yh 4 ((xs.length-ys.length-j)+ys.length-1) J J J J (Yi pV) Mo Od) K2)<|go 5 ⟨O,O,?_⟩;refine Xy J J (Fv (Yh 2 (ys.length-1) J J J J Zg Mo Od) K2)<|go 2 ⟨O,?_⟩;refine Yjv 9 14 19 20 ?_ ?_ ?_
      .refine Ha (Zy 5 [] (Bj (f _) (g.sz _) c)) λ_ _=>?_;refine Zx 5 [(15,0),(16,0),(17,0),(18,0)]<|go 5 ?_;refine Nm 4 19 20 ?_ ?_
       .refine Ha (Nx 97) λa8 ho=>?_;refine Zx 0 [(20,1),(21,1),(22,1),(23,3)]<|Qm (Nx 98) λa9 c4=>go 4 ?_;exact Ys<|Hh (_,_) aA K3 K2
       .refine Ha (Nx 98) λb0 c5=>?_;refine Zx 0 [(19,1),(21,1),(22,1),(23,3)]<|Qm (Nx 97) λb1 c6=>go 4 ?_;exact Ys<|Hh (_,_) aA K3 K2
      .refine Ha (Nx 97) λb2 c7=>?_;refine Nm 8 14 20 ?_ ?_
       .refine Ha (Zy 5 [] (Bj (f _) (g.sz _) c)) λ_ _=>?_;refine Zx 0 [(15,0),(16,0),(17,0),(18,0),(20,1),(21,1),(22,1),(23,3)]<|go 4 ?_;refine Qm (Nx 98) λb3 c8=>go 4<|Ys ?_;exact Hh (_,_) aA K3 K2
       .refine Ha (Nx 98) λb4 c9=>?_;refine Zx 0 [(14,1),(15,0),(16,0),(17,0),(18,0),(21,1),(22,1),(23,3)]<|Qm (Zy 5 [] (Bj (f _) (g.sz _) c)) λ_ _=>go 8 ?_;exact Ys<|Hh (_,_) aA K3 K2
      .refine Ha (Nx 98) λb5 d0=>?_;refine Nm 8 14 19 ?_ ?_
       .refine Ha (Zy 5 [] (Bj (f _) (g.sz _) c)) λ_ _=>?_;refine Zx 0 [(15,0),(16,0),(17,0),(18,0),(19,1),(21,1),(22,1),(23,3)]<|go 4 ?_;refine Qm (Nx 97) λa3 d1=>go 4<|Ys ?_;exact Hh (_,_) aA K3 K2
       .refine Ha (Nx 97) λa4 a7=>?_;refine Zx 0 [(14,1),(15,0),(16,0),(17,0),(18,0),(21,1),(22,1),(23,3)]<|Qm (Zy 5 [] (Bj (f _) (g.sz _) c)) λ_ _=>go 8 ?_;exact Ys<|Hh (_,_) aA K3 K2
     .rintro⟨b7,b8⟩ -;dsimp only;refine go 7<|Zb J (λy=>?_) (λy=>?_)
      .exfalso;exact y rfl
      .refine go 6 ?_;refine cl 5 [] (Ix Zi6) λ_ _=>go 3<|Zb J (λm=>?_) (λm=>?_)
       .have a1:¬Hb xs ys (xs.length-ys.length-j):=λhe=>m (by rw [Zui c (g.sz _),(Zt2 O).1 he];rfl);refine go 13 ?_;have d:¬pdv xs ys:=λh=>by rcases h with h|h;(exact t h);(exact a1 (h.2.1 _ O))
        exact Ok s _ results250 (by rw [aJ d]) aA (Lg (aJ d) Za)
       .have N:Hb xs ys (xs.length-ys.length-j):=(Zt2 O).2 (by have h0:=bP m;rw [Zui c (g.sz _)]at h0;exact fL.1 h0);obtain⟨I,M,Y⟩:=Z N;refine Zr (Qd 97 (q:=box b7 130 (wc (dq ys (Ph xs ys j) (xs.length-ys.length-j)))) (by rw [Nj I]) J J)<|go 7 ?_;refine dt (Yh 5 (xs.length-ys.length-j) J J J J (Yi pV) Mo Od)<|tt (Ln 5 (enc:=wv) J J J J J J pV J D.h) λ_ _=>go 10 ?_;refine lp (G:=Nat) [1,8,9,10,11,12,78,79] [0,97,98,5,1,2,3] (λi=>[(80,.int .i64 (i:Int))]) (λi=>[(4,Nc 2 130 wv v (Zqa ys (Ph xs ys j) (dq ys (Ph xs ys j) (xs.length-ys.length-j)) (xs.length-ys.length-j) i))]) (λi=>i<=ys.length) (λi=>ys.length-i) 0 O1 K1 ⟨by rw [<-Ycm];rfl,aA⟩ ?_;rintro i hi;have B:i<ys.length->(Zqa ys (Ph xs ys j) (dq ys (Ph xs ys j) (xs.length-ys.length-j)) (xs.length-ys.length-j) i).getD ((xs.length-ys.length-j)+i) 0=cf (Ph xs ys j) ((xs.length-ys.length-j)+i):=λh=>Yh3 O;have c0:=Zs4 ys (Ph xs ys j) (dq ys (Ph xs ys j) (xs.length-ys.length-j)) (xs.length-ys.length-j) i;refine go 6<|Zb J (λH=>?_) (λH=>?_)
        .refine go 9 ⟨O2,O2,?_⟩;refine Zv (Zu 6) λa5 _=>go 4<|Pd (λx=>x=b) [(0,0),(1,0),(2,0),(3,0),(4,0),(5,0),(6,0),(7,0),(8,0),(9,0),(10,0),(11,0),(12,1),(13,1),(14,0),(15,3)]<|go 8 ⟨O,O,?_⟩;refine Xy J J (st1 3 J (Yh 4 ((xs.length-ys.length-j)+i) J J J J (Yi pV) Mo Od))<|go 3 ⟨O,?_⟩;refine Bq J (Ql 6 3 (Dj I (g.sz _) (M _)) J J J K3 call199 J O3 Zq J D.h J) (λ_ _=>?_);refine Bq J (Ql 6 3 (Zwl (by rw [B O];exact f _) (M _) (by rw [B O];exact Y _ _)) J J J K3 call204 J O3 Zq J D.h J) (λ_ _=>?_);refine Xy J J (st1 3 J (Yh 4 ((xs.length-ys.length-j)+i) J J J J (Yi pV) Mo Od))<|r3' J (Ln 4 (enc:=wv) J J J J J J pV J D.h) (λ_ _=>?_);refine go 7 ⟨O,?_⟩;exact Yj (i+1) O1 O1 K1 ⟨by rw [<-Yh2 O,<-B O];rfl,aA⟩
        .refine go 11 ⟨O,?_⟩;obtain rfl:i=ys.length:=O;exact Yj (j+1) ⟨O1,λk h1 h2=>by rcases aW (xs.length-ys.length) (k+j)with h3|h3;(exact hx k h3 h2);(rw [show k=xs.length-ys.length-j by omega];exact N)⟩ O1 ⟨by rw [show(xs.length:Int)-(ys.length:Int)-((j+1:Nat):Int)=(xs.length:Int)-(ys.length:Int)-(j:Int)-1 by omega];rfl,aA⟩ ⟨by rfl,by rw [<-Yh6 O];rfl,aA⟩
    .refine go 7 ?_;obtain rfl:j=xs.length-ys.length+1:=O;have o:∀k,k<=xs.length-ys.length->Hb xs ys k:=λk hk=>hx k O hk;refine Zr (Nk 4 J J pV)<|go 6<|Zi 105 J (λz=>?_) (λz=>?_)
     .refine go 1 ?_;refine Np 7 [4] (Zdd (Yds V o)) λ_ _=>go 5<|Zb J (λn=>?_) (λn=>?_)
      .refine go 8 ?_;have d:¬pdv xs ys:=λh=>by rcases h with h|h;(exact t h);(rw [h.2.2]at n;simp at n)
       exact Ok s _ results250 (by rw [aJ d]) aA (Lg (aJ d) Za)
      .refine go 3<|Zr (Nk 5 J J pV)<|go 2 ?_;refine tt (Ql 8 3 (Za2 (Zxq V o)) J J J K2 call200 J O3 (Ye 5 J J J Zq) J D.h aA) λ_ _=>go 7 ?_;have d:pdv xs ys:= .inr ⟨Q,o,aH O⟩;exact Ok s _ results250 (by rw [aO d]<;>rfl) aA (Ka 8 Za (by rw [aO d,Zse t,<-Zgc]<;>rfl))
     .exfalso;exact z rfl
theorem Zoy(xs:List Int)(x y z:Int)(k:Vp xs)(hx:bl x.natAbs<=65536)(hy:bl y.natAbs<=65536)(R:bl z.natAbs<=65536)(a9:0<z)(hE:¬Zlo xs x y z):Cal prog 242 #[v,wv x,wv y,wv z] [Yn 2 wv v xs] true (G:=Value) (λr=>True) (λr=> .tuple #[r,.int .i64 0]) (λr=>[Yn 2 wv r (Kp xs x y z)]):=by
 refine Zd func242 ntmps242 λw0 sc a t=>?_;have P:=k.len;refine go 2<|Zv (Zs 2) λb _=>Zv (Zs 3) λW _=>Zv (Zs 4) λY _=>go 8 ?_;refine cl 4 [1] (Xk ‹_›) λ_ _=>go 3 ?_;refine Np 4 [] (Lt ‹_›) λ_ _=>go 4 ?_;refine Np 4 [] (Lt ‹_›) λ_ _=>go 4 ?_;refine Np 4 [] (Lt ‹_›) λ_ _=>go 11 ?_;refine cl 4 [] (Ix R) λ_ _=>go 3<|Zb J (λm=>?_) (λm=>?_)
 .exfalso;have h2:=aZ.1 (Zbd z);omega
 .refine go 10<|Zb J (λf=>?_) (λf=>?_)
  .refine go 8 ?_;exact Ok t _ results242 J aA (Lg (by unfold Kp;rw [aO O]) Za)
  .have B:xs≠[]:=λe=>by rw [e]at f;simp at f
   have a6:=Oc k.sz;have d:Sz 65536 [x,y,z]:=Sz.of_mem (by intro q Q;simp at Q;rcases Q with rfl|rfl|rfl<;>assumption);have a7:=Oc d;have a8:(xs.length-1)*(Pb [x,y,z]+1)<=24*65537:=aS O O;have c:((xs.length:Int)-1)*((Pb [x,y,z]:Int)+1)=(((xs.length-1)*(Pb [x,y,z]+1):Nat):Int):=by rw [gD];congr 1;omega
   refine go 3 ?_;refine jn (G:=Unit) [0,5,6,7] [0,1,2,3,4] (λ_=>[(55,.bool (decide ((65536:Int)<(Pb xs:Int)+((xs.length:Int)-1)*((Pb [x,y,z]:Int)+1)+8)))]) (λ_=>[]) (λ_=>True) ?_ ?_
   .refine Zaf (λ_=>False) []<|Zx 8 [(0,0),(2,0),(3,0),(4,0),(5,0),(6,0),(7,0)]<|go 8 ⟨O,?_⟩;refine Nm 7 1 8 ?_ ?_
    .refine Ha (Zy 4 [1] (Ns (by first|exact k.sz|exact d))) λ_ _=>?_;refine Zx 0 [(8,1),(9,1),(10,0),(11,0),(12,0),(13,0),(14,0)]<|Bq J (Og [(0,_),(1,_),(2,_)] 90 (enc:=wv) [x,y,z] J J K6 Ykn ti130 J J Yhj J J pV.cells J J a.h) λv _=>Qm (Zy 4 [90] (Ns (by first|exact k.sz|exact d))) λ_ _=>?_;refine go 6 ⟨O,by rw [c];exact⟨O,O⟩,by rw [c];exact⟨O,O⟩,by rw [c];exact⟨O,O⟩,?_⟩;exact Ys<|Hh () aA K1 aA
    .refine Zak J J (Og [(0,_),(1,_),(2,_)] 90 (enc:=wv) [x,y,z] J J K6 Ykn ti130 J J Yhj J J pV.cells J J a.h) (λb0 _=>?_);refine Zx 0 [(1,1),(9,1),(10,0),(11,0),(12,0),(13,0),(14,0)]<|Qm (Zy 4 [1] (Ns (by first|exact k.sz|exact d))) λ_ _=>Qm (Zy 4 [90] (Ns (by first|exact k.sz|exact d))) λ_ _=>?_;refine go 6 ⟨O,by rw [c];exact⟨O,O⟩,by rw [c];exact⟨O,O⟩,by rw [c];exact⟨O,O⟩,?_⟩;exact Ys<|Hh () aA K1 aA
   .rintro _ -;refine Zb J (λg=>?_) (λg=>?_)
    .exfalso;exact hE ⟨B,by rw [c]at g;omega⟩
    .have N:Pb xs+(xs.length-1)*(Pb [x,y,z]+1)+8<=65536:=by rw [c]at g;omega
     refine go 4<|Zv (Zu 5) λl _=>go 2 ?_;refine jn (G:=Value×Nat) [0,5,6,7,10] [0,1,2,3,4,5] (λq=>[(11,q.1),(12,.pointer (some ⟨q.2,0,none⟩))]) (λq=>[(70,Nc 2 130 wv q.1 (Kg xs x y z 0)),(98,box q.2 130 (wc 1))]) (λq=>True) ?_ ?_
     .refine Zaf (λ_=>False) [9,10]<|Zx 5 [(0,0),(1,0),(2,0),(3,0),(4,0),(5,0)]<|go 4 ⟨O,?_⟩;refine Xy J J (Pg (Yh 1 (xs.length-1) J J J J Zg Mo Od))<|go 2 ⟨O,?_⟩;refine Yjv 4 6 7 8 ?_ ?_ ?_
      .refine Zak J J (Og [(0,_)] 70 (enc:=wv) [cf xs (xs.length-1)] J J K2 Mo ti130 J J J J J pV.cells J J a.h) (λb1 _=>?_);refine Nm 3 7 8 ?_ ?_
       .refine Ha (Zy 5 [] (Zm _ (by first|assumption|exact⟨O,O⟩))) λ_ _=>?_;refine Zx 0 [(8,1),(9,3),(10,3)]<|Qm (Zu 98) λZ _=>go 3 ?_;exact Ys<|Hh (_,_) aA K2 ⟨by rw [Dl];rfl,rfl,aA⟩
       .refine Ha (Zu 98) λa0 _=>?_;refine Zx 0 [(7,1),(9,3),(10,3)]<|Qm (Zy 5 [] (Zm _ (by first|assumption|exact⟨O,O⟩))) λ_ _=>go 3 ?_;exact Ys<|Hh (_,_) aA K2 ⟨by rw [Dl];rfl,rfl,aA⟩
      .refine Ha (Zy 5 [] (Zm _ (by first|assumption|exact⟨O,O⟩))) λ_ _=>?_;refine Nm 3 6 8 ?_ ?_
       .refine Zak J J (Og [(0,_)] 70 (enc:=wv) [cf xs (xs.length-1)] J J K2 Mo ti130 J J J J J pV.cells J J a.h) (λb2 _=>?_);refine Zx 0 [(8,1),(9,3),(10,3)]<|Qm (Zu 98) λa1 _=>go 3 ?_;exact Ys<|Hh (_,_) aA K2 ⟨by rw [Dl];rfl,rfl,aA⟩
       .refine Ha (Zu 98) λa2 _=>?_;refine Zx 0 [(6,1),(9,3),(10,3)]<|Bq J (Og [(0,_)] 70 (enc:=wv) [cf xs (xs.length-1)] J J K2 Mo ti130 J J J J J pV.cells J J a.h) λb3 _=>go 3 ?_;exact Ys<|Hh (_,_) aA K2 ⟨by rw [Dl];rfl,rfl,aA⟩
      .refine Ha (Zu 98) λa3 _=>?_;refine Nm 3 6 7 ?_ ?_
       .refine Zak J J (Og [(0,_)] 70 (enc:=wv) [cf xs (xs.length-1)] J J K2 Mo ti130 J J J J J pV.cells J J a.h) (λb4 _=>?_);refine Zx 0 [(7,1),(9,3),(10,3)]<|Qm (Zy 5 [] (Zm _ (by first|assumption|exact⟨O,O⟩))) λ_ _=>go 3 ?_;exact Ys<|Hh (_,_) aA K2 ⟨by rw [Dl];rfl,rfl,aA⟩
       .refine Ha (Zy 5 [] (Zm _ (by first|assumption|exact⟨O,O⟩))) λ_ _=>?_;refine Zx 0 [(6,1),(9,3),(10,3)]<|Bq J (Og [(0,_)] 70 (enc:=wv) [cf xs (xs.length-1)] J J K2 Mo ti130 J J J J J pV.cells J J a.h) λb5 _=>go 3 ?_;exact Ys<|Hh (_,_) aA K2 ⟨by rw [Dl];rfl,rfl,aA⟩
     .rintro⟨S,V⟩ -;dsimp only;refine go 10 ⟨O,?_⟩;refine lp (G:=Nat×Value) [0,5,6,7,10,12] [0,1,2,3,4,5] (λq=>[(13,.int .i64 ((xs.length:Int)-2-(q.1:Int))),(11,q.2)]) (λq=>[(70,Nc 2 130 wv q.2 (Kg xs x y z q.1)),(98,box V 130 (wc (z^q.1)))]) (λq=>q.1<=xs.length-1) (λq=>xs.length-1-q.1) (0,S) O1 ⟨by rw [show(xs.length:Int)-2-((0:Nat):Int)=(xs.length:Int)-2 by omega];rfl,rfl,aA⟩ ⟨J,by rw [eK];rfl,aA⟩ ?_;rintro⟨j,S⟩ hj;dsimp only at hj;dsimp only;refine go 7<|Zb J (λn=>?_) (λn=>?_)
      .obtain⟨c1,H,I,w,c5,c6,c7,M,c9⟩:=cp_all N (j:=j) O;have a4:=Zcm xs x y z j;refine go 8 ?_;refine tt (Ql 5 5 (Dj c1 R (by rw [<-eC];exact H)) J J J K3 call199 J O3 Zq J a.h aA) (λ_ _=>?_);refine go 8 ⟨O,?_⟩;refine tt (Ev 71 ((Kg xs x y z j).length+1) 24 (enc:=wv) 0 J J J J Mo ti130 J pV.cells pV.pos J J J a.h) λD _=>go 12 ?_;refine lp (G:=Nat) [0,5,6,7,10,12,13,14,78,79] [0,70,98,1,2,3,4,5] (λi=>[(80,.int .i64 (i:Int))]) (λi=>[(71,Nc 2 130 wv D (cnx (Kg xs x y z j) x y i))]) (λi=>i<=(Kg xs x y z j).length) (λi=>(Kg xs x y z j).length-i) 0 O1 K1 ⟨by rw [Yir];rfl,aA⟩ ?_;rintro i hi;have s:i<(Kg xs x y z j).length->(cnx (Kg xs x y z j) x y i).getD i 0=if i=0 then 0 else cf (Kg xs x y z j) (i-1)*y:=λh=>Yah h
       have a5:=Fj (Kg xs x y z j) x y i;refine go 6<|Zb J (λo=>?_) (λo=>?_)
       .refine go 9 ⟨O2,O2,?_⟩;refine Zv (Zu 6) λF _=>go 5<|Pd (λx=>x=l) [(0,0),(1,0),(2,0),(3,0),(4,0),(5,0),(6,0),(7,0),(8,1),(9,1),(10,0),(11,3)]<|go 4 ?_;refine Xy J J (st1 5 J (Yh 71 i J J J J (Yi pV) Mo Od J))<|go 3 ⟨O,?_⟩;refine Bq J (Ql 6 5 (Dj (I _) hx (w _)) J J J K3 call199 J O3 Zq J a.h J) (λ_ _=>?_);refine Bq J (Ql 6 5 (Zlk (by rw [s O];exact c6 i) (w _) (by rw [s O];exact c7 i)) J J J K3 call202 J O3 Zq J a.h J) (λ_ _=>?_);refine Xy J J (st1 5 J (Yh 71 i J J J J (Yi pV) Mo Od J))<|r3' J (Ln 71 (enc:=wv) J J J J J J pV J a.h) (λ_ _=>?_);refine go 8 ⟨O,?_⟩;refine tt (Ql 6 5 (Dj (I _) hy (c5 _)) J J J K3 call199 J O3 Zq J a.h aA) (λ_ _=>?_);refine dt (Yh 71 (i+1) J J J J (Yi pV) Mo Od O (by rw [cC];omega))<|tt (Ln 71 (enc:=wv) J J J J J J pV J a.h O3 (by rw [cC];omega)) (λ_ _=>?_);refine go 7 ⟨O,?_⟩;exact Yj (i+1) O1 O1 K1 ⟨by rw [<-Ynt O];rfl,aA⟩
       .refine go 6 ?_;obtain rfl:i=(Kg xs x y z j).length:=O;have p:(cnx (Kg xs x y z j) x y (Kg xs x y z j).length).getD 0 0=cf (Kg xs x y z j) 0*x:=Zug O;refine Pd (λx=>x=l) [(0,0),(1,0),(2,0),(3,0),(4,0),(5,0),(6,0),(7,0),(8,0),(9,1),(10,1),(11,0),(12,3)]<|go 6 ⟨O,O,?_⟩;refine Xy J J (st1 5 J (Yh 1 (xs.length-2-j) J J J J Zg Mo Od))<|go 2 ⟨O,?_⟩;refine Bq J (Ql 6 5 (Dj (k.sz _) (by rw [<-eC];exact H) (by rw [<-eC];exact M)) J J J K3 call199 J O3 Zq J a.h J) (λ_ _=>?_);refine Bq J (Ql 6 5 (Zlk (by rw [p];exact w 0) (by rw [<-eC];exact M) (by rw [p,<-eC];exact c9)) J J J K3 call202 J O3 Zq J a.h J) (λ_ _=>?_);refine go 1 ⟨O,?_⟩;refine r3' J (Ln 71 (enc:=wv) J J J J J J pV J a.h) (λ_ _=>?_);refine go 13 ⟨O,?_⟩;exact Xf (s_move 71 70 J J J J)<|Yj (j+1,_) O1 O1 ⟨by rw [show(xs.length:Int)-2-((j+1:Nat):Int)=(xs.length:Int)-2-(j:Int)-1 by omega];rfl,rfl,aA⟩ ⟨by rw [Ynu O];simp only [<-eC];rfl,by rw [eC];rfl,aA⟩
      .refine go 6 ?_;obtain rfl:j=xs.length-1:=O;refine Zr (Nk 70 J J pV)<|go 2 ?_;refine tt (Ql 7 5 (Za2 (Ynq N)) J J J K2 call200 J O3 (Ye 70 J J J Zq) J a.h aA) λ_ _=>go 7 ?_;exact Ok t _ results242 J aA (Ka 7 Za (by unfold Kp;rw [aJ O]<;>rfl))
theorem Zsi(z:Vp xs)(y:Vp ys)(F:Nat)(hg:¬Znf xs ys)(V:eok F (gA xs ys) (gB xs ys)):Cal prog 249 #[v,u] [Yn 2 wv v xs,Yn 2 wv u ys] true (G:=Value) (λr=>True) (λr=> .tuple #[r,.int .i64 0]) (λr=>[Yn 2 wv r (Mt F xs ys)]):=by
 refine Zd func249 ntmps249 λw0 sc hw x=>?_;have Z:=z.len;have S:=y.len;have a2:=Oc z.sz;have a3:=Oc y.sz;have a4:=Yo xs;have a5:=Yo ys;have Q:(max xs.length ys.length+2)*(max xs.length ys.length+2)<=27*27:=aS O O;have a0:(max xs.length ys.length+2)*(max xs.length ys.length+2)*(max (Pb xs) (Pb ys)+8)<=27*27*65544:=aS Q O;have H:(max (xs.length:Int) (ys.length:Int)+2)*(max (xs.length:Int) (ys.length:Int)+2)=(((max xs.length ys.length+2)*(max xs.length ys.length+2):Nat):Int):=by rw [gD,show(((max xs.length ys.length+2):Nat):Int)=(max (xs.length:Int) (ys.length:Int)+2) by omega]
 have j:(max (xs.length:Int) (ys.length:Int)+2)*(max (xs.length:Int) (ys.length:Int)+2)*(max (Pb xs:Int) (Pb ys:Int)+8)=(((max xs.length ys.length+2)*(max xs.length ys.length+2)*(max (Pb xs) (Pb ys)+8):Nat):Int):=by rw [H,gD ((max xs.length ys.length+2)*(max xs.length ys.length+2)),show((max (Pb xs) (Pb ys)+8:Nat):Int)=max (Pb xs:Int) (Pb ys:Int)+8 by omega]
 refine go 10 ?_;refine cl 2 [1] (Xk ‹_›) λ_ _=>go 3 ?_;refine Np 2 [2] (Xk ‹_›) λ_ _=>go 14 ?_;refine dt (Zb1 J J J)<|go 4 ⟨O,?_⟩;refine jn (G:=Unit) [0,1] [0,1,2] (λ_=>[(46,.bool (decide (Znf xs ys)))]) (λ_=>[]) (λ_=>True) ?_ ?_
 .refine go 5<|Zi 29 J (λN=>?_) (λN=>?_)
  .refine go 5<|Zi 34 J (λk=>?_) (λk=>?_)
   .refine go 4 ⟨by rw [H];exact⟨O,O⟩,?_⟩;refine Np 2 [1] (Ns (by first|exact z.sz|exact y.sz)) λ_ _=>go 1 ?_;refine Np 2 [2] (Ns (by first|exact z.sz|exact y.sz)) λ_ _=>?_;refine Kj (Zb1 J J J) J J<|go 5 ⟨O,by rw [j];exact⟨O,O⟩,?_⟩;exact Hh () aA ⟨by first|(rw [j];exact aE some (vB (aZ.2 ⟨λh=>⟨O,O,O⟩,λh=>by have:=h.2.2;omega⟩)))|exact aE some (vB (aF (λh=>by have W:=h.1;have Y:=h.2.1;omega)).symm),aA⟩ aA
   .refine go 13 ?_;exact Hh () aA ⟨by first|(rw [j];exact aE some (vB (aZ.2 ⟨λh=>⟨O,O,O⟩,λh=>by have:=h.2.2;omega⟩)))|exact aE some (vB (aF (λh=>by have W:=h.1;have Y:=h.2.1;omega)).symm),aA⟩ aA
  .refine go 18 ?_;exact Hh () aA ⟨by first|(rw [j];exact aE some (vB (aZ.2 ⟨λh=>⟨O,O,O⟩,λh=>by have:=h.2.2;omega⟩)))|exact aE some (vB (aF (λh=>by have W:=h.1;have Y:=h.2.1;omega)).symm),aA⟩ aA
 .rintro _ -;refine Zb J (λl=>?_) (λl=>?_)
  .exfalso;exact hg l
  .refine go 5 ?_;refine cl 3 [1] (Ny z) λ_ _=>go 14<|Zb J (λm=>?_) (λm=>?_)
   .exfalso;exact m rfl
   .refine go 5 ?_;refine cl 4 [2] (Ny y) λ_ _=>go 14<|Zb J (λn=>?_) (λn=>?_)
    .exfalso;exact n rfl
    .refine go 2 ?_;refine jn (G:=Value×Value) [] [0,1,2,3,4] (λq=>[(7,q.1),(9,q.2)]) (λq=>[(80,Yn 2 wv q.1 (gA xs ys)),(81,Yn 2 wv q.2 (gB xs ys))]) (λq=>True) ?_ ?_
     .refine go 9<|Zb J (λD=>?_) (λD=>?_)
      .refine go 6<|Xf (Ke 4 80 J J J)<|Xf (Ke 3 81 J J J) ?_;exact Hh (_,_) aA K2 ⟨by unfold gA;first|rw [aO O];rfl|rw [aJ O];rfl,by unfold gB;first|rw [aO O];rfl|rw [aJ O];rfl,aA⟩
      .refine go 1<|Xf (Ke 3 80 J J J)<|Xf (Ke 4 81 J J J) ?_;exact Hh (_,_) aA K2 ⟨by unfold gA;first|rw [aO O];rfl|rw [aJ O];rfl,by unfold gB;first|rw [aO O];rfl|rw [aJ O];rfl,aA⟩
     .rintro⟨va,vb⟩ -;dsimp only;refine go 2 ?_;refine lp (G:=Value×Value×List Int×List Int×Nat) [] [0,1,2,3,4] (λq=>[(7,q.1),(9,q.2.1)]) (λq=>[(80,Yn 2 wv q.1 q.2.2.1),(81,Yn 2 wv q.2.1 q.2.2.2.1)]) (λq=>(Vp q.2.2.1)/\(Vp q.2.2.2.1)/\(eok q.2.2.2.2 q.2.2.1 q.2.2.2.1)/\(eu q.2.2.2.2 q.2.2.1 q.2.2.2.1=eu F (gA xs ys) (gB xs ys))) (λq=>q.2.2.2.2) (va,vb,gA xs ys,gB xs ys,F) ⟨vp_gA z y,vp_gB z y,V,J⟩ K2 K2 ?_;rintro⟨va,vb,a,b,f⟩ ⟨d,B,t,g⟩;dsimp only at d B t g;dsimp only;refine go 8<|Zb J (λi=>?_) (λi=>?_)
      .have R:b≠[]:=λe=>by rw [e]at i;simp at i
       obtain⟨f1,rfl,w,M,I⟩:=Yhy t R;refine go 7 ?_;refine cl 5 [80,81] (Zm3 d B w) λ_ _=>go 14<|Zb J (λo=>?_) (λo=>?_)
       .exfalso;exact o rfl
       .refine go 6 ?_;refine cl 6 [5] (Ny (Zb6 d w)) λ_ _=>go 13<|Zb J (λp=>?_) (λp=>?_)
        .exfalso;exact p rfl
        .refine go 9<|Xf (Ke 81 80 J J J)<|Xf (Ke 6 81 J J J) ?_;exact Yj (_,_,b,Yu (Qr a b),f1) ⟨B,Im (Zb6 d w),M,by rw [<-I];exact g⟩ (Nat.lt_succ_self f1) K2 K2
      .obtain rfl:b=[]:=aH O;rw [Zlg]at g;have a1:=d.len;refine go 12<|Zi 95 J (λP=>?_) (λP=>?_)
       .refine go 4 ⟨O,?_⟩;refine Kj (Yh 80 (a.length-1) J J J J Zg Mo Od) J J<|go 1 ⟨O,?_⟩;refine Np 6 [] (Ix (d.sz _)) λ_ _=>go 4<|Zb J (λs=>?_) (λs=>?_)
        .have c:a.length≠0/\cf a (a.length-1)<0:=⟨O,(sign_neg_iff _).1 s⟩;refine go 3 ?_;refine cl 6 [] (Zm (-1) (by first|assumption|exact⟨O,O⟩)) λ_ _=>cl 7 [80] (Lx (-1) d O3 (Zbw d.sz)) λ_ _=>go 8 ?_;exact Ok x _ results249 J aA (Ka 7 Za (by unfold Mt Hy;rw [<-g,aO c]<;>rfl))
        .refine go 10 ?_;have c:¬(a.length≠0/\cf a (a.length-1)<0):=λh=>by first|omega|exact absurd ((sign_neg_iff (cf a (a.length-1))).2 h.2) ‹_›
         exact Ok x _ results249 J aA (Ka 80 Za (by unfold Mt Hy;rw [<-g,aJ c]<;>rfl))
       .refine go 22 ?_;have c:¬(a.length≠0/\cf a (a.length-1)<0):=λh=>by first|omega|exact absurd ((sign_neg_iff (cf a (a.length-1))).2 h.2) ‹_›
        exact Ok x _ results249 J aA (Ka 80 Za (by unfold Mt Hy;rw [<-g,aJ c]<;>rfl))
theorem Zfp{l:List Int}(f:∀x∈l,My x)(g:l.length<=1000:=by decide):Cal prog 170 #[v] [Yn 1 Xi v l] true (G:=Value) (λr=>True) (λr=> .tuple #[r,.int .i64 (if 25<(tzl l).length then 7 else 0)]) (λr=>[Yn 2 wv r (if 25<(tzl l).length then []else tzl l)]):=by
 refine Zd func170 ntmps170 λp n h b=>?_;have e:=Yku f;refine go 20<|Zr (Iq 70 2 130 wv) ?_;refine lp (G:=Nat×Value) [7,8] [0,1] (λq=>[(9,.int .i64 (q.1:Int)),(4,q.2)]) (λq=>[(70,Nc 2 130 wv q.2 (l.take q.1))]) (λq=>q.1<=l.length) (λq=>l.length-q.1) (0,.slice none 0 0) O1 K2 K1 ?_;rintro⟨k,o⟩ i;dsimp only at i;dsimp only;have j:(l.take k).length=k:=by rw [dO];omega
 refine go 6<|Zb J (λc=>?_) (λc=>?_)
 .refine go 14 ⟨O2,O2,?_⟩;refine cl 1 [] (Zm _ (f _ (Zk O))) λ_ _=>?_;refine tt (Og [(0,_)] 2 (enc:=wv) [l.getD k 0] J J K2 Mo ti130 J J J J J pV.cells J J h.h) (λv _=>?_);refine tt (Gm 70 2 24 J J J J J J O3 J (Yi pV) Mo ti130 J pV J J J O9 O3 J h.h) (λm _=>?_);refine go 8 ⟨O,?_⟩;exact Yj (k+1,_) O1 O1 K2 ⟨by rw [Pr 0 _ _ O];rfl,aA⟩
 .refine go 6 ?_;obtain rfl:k=l.length:=O;rw [cE];refine Zr (Nk 70 J J pV)<|go 2 ?_;refine cl 3 [70] (Zdd e) λ_ _=>go 11<|Zb J (λd=>?_) (λd=>?_)
  .refine go 8 ?_;have a:25<(tzl l).length:=O;exact Ok b _ results170 (by rw [aO a]) aA (Lg (aO a) Za)
  .refine go 10 ?_;have a:¬25<(tzl l).length:=O;exact Ok b _ results170 (by rw [aJ a]<;>rfl) aA (Ka 3 Za (by rw [aJ a]<;>rfl))
end Go.Sky

