/- Rules, arithmetic and contracts: part 15. No conditions but those that each theorem names. -/
import Derived.Test.YthennaflbbajkaaGreatAh13
set_option linter.all false
set_option maxHeartbeats 4000000
namespace Go.Sky
open Go.Proofs.Tryz
open Go.Proofs
set_option synthInstance.maxHeartbeats 0
set_option synthInstance.maxSize 100000
set_option maxRecDepth 20000
set_option linter.unusedSimpArgs false
variable{bd:Nat}{v u:Value}{xs ys:List Int}
theorem Za7(hs:Sz 65536 xs):Zba prog 200 #[.pointer (some ⟨bd,0,none⟩),v] [Yn 2 wv v xs] true bd 284 #[.int .i64 0] (G:=Unit) (λ_=>True) (λ_=> .tuple #[Gh v (tzl xs).length,.int .i64 0]) (λ_=>#[.int .i64 0]) (λ_=>[Yn 2 wv (Gh v (tzl xs).length) (tzl xs)]):=by
 refine Gl func200 J ntmps200 J K1 ?_;intro f e d c;have d:=Hw.mk d;simp only [Qa,Yj];refine go 17<|Zb J (λb=>?_) (λb=>?_)
 .exfalso;simp_all
 .refine go 5 ?_;refine cl 3 [2] (Zdj ‹_›) λ_ _=>go 5 ?_;exact Qh (.inl J) c () (λa w hs=>Zsh hs results200 J J) J aA 1 J J J J (Gi 3 J J J Za)
theorem Yam(g:xs.length*24<=140737488355328:=by omega):Ydc prog 263 #[v] [Yn 2 wv v xs] (G:=Value) (λr=>True) (λr=>r) (λr=>Nj 2 130 wv r xs):=by
 refine Zjg func263 J ntmps263 J K1 ?_;intro j h d e;have d:=Hw.mk d;simp only [Qa,Yj];refine Mz (Yh4 (i:=1) J Zk) λc=>go 9 ?_;refine dt (Zqm J J J (i:=1) J Zk Mo)<|go 2 ?_;refine Yo J (λb=>?_) (λb=>?_)
 .refine go 7 ?_;obtain rfl:xs=[]:=c (by simpa using b);exact Xf (Hs 9 2 130 wv)<|Zel (.inl J) (.slice none 0 0) (λa w hs=>Oh hs results263 J) J aA J 9 J J J
 .refine go 4 ?_;refine tt (Ydy 2 (enc:=wv) J J J Mo pV J d.h) λv _=>go 1 ?_;refine tt (Fv 2 1 24 J J J J J J O3 J Zk Mo ti130 J pV J J J O10 O3 J d.h) λf _=>go 4 ?_;exact Zel (.inl J) _ (λa w hs=>Oh hs results263 J) J aA J 2 J (by rfl) J
theorem Zib(c:Vp xs):Xa prog 259 #[v] [Yn 2 wv v xs] (.tuple #[.int .i64 ((xs.length:Int)-1),.int .i64 0]):=by refine Zd func259 ntmps259 λf e d a=>?_;have b:=c.len;refine go 10 ?_;refine cl 1 [1] (Xk ‹_›) λ_ _=>?_;refine go 16 ⟨O,?_⟩;exact Oe a () results259 J aA Za
theorem Znc(b:Vp xs):Xa prog 260 #[v] [Yn 2 wv v xs] (.tuple #[.int .i64 (Pe xs:Int),.int .i64 0]):=by refine Zd func260 ntmps260 λe d c a=>go 10 ?_;refine cl 1 [1] (Xk ‹_›) λ_ _=>go 9 ?_;refine cl 1 [1] (Nv b.sz) λ_ _=>go 5 ?_;exact Oe a () results260 J aA Za
theorem Zuk(n:Vp xs)(m:Vp ys)(o:∀i,bl (cf xs i+cf ys i).natAbs<=65536):Zba prog 203 #[v,u,.pointer (some ⟨bd,0,none⟩),.func (.func 202) #[.pointer (some ⟨bd,0,none⟩)] #[]] [Yn 2 wv v xs,Yn 2 wv u ys] true bd 284 #[.int .i64 0] (G:=Value) (λr=>True) (λr=> .tuple #[r,.int .i64 0]) (λr=>#[.int .i64 0]) (λr=>[Yn 2 wv r (Zcl xs ys)]):=by
 refine Gl func203 J ntmps203 J K2 ?_;intro x t c j;have c:=Hw.mk c;simp only [Qa,Yj];have l:=n.len;have h:=m.len;refine go 10 ?_;refine cl 3 [2] (Xk ‹_›) λ_ _=>go 3 ?_;refine Ns 3 [3] (Xk ‹_›) λ_ _=>go 13 ?_;refine dt (Ci J J J)<|tt (Ey 4 (max xs.length ys.length) 24 (enc:=wv) 0 J J J J Mo ti130 J pV.cells pV.pos J J J c.h) λv _=>go 12 ?_;refine lp (G:=Nat) [0,1,2,3,10,29] [0,1,2,3] (λk=>[(30,.int .i64 (k:Int))]) (λk=>[(4,Nj 2 130 wv v (fill (max xs.length ys.length) k (λi=>cf xs i+cf ys i)))]) (λk=>k<=max xs.length ys.length) (λk=>max xs.length ys.length-k) 0 O1 K1 ⟨by rw [Bj (max xs.length ys.length) (λi=>cf xs i+cf ys i)];rfl,aA⟩ ?_;rintro k s;have q:(fill (max xs.length ys.length) k (λi=>cf xs i+cf ys i)).length=max xs.length ys.length:=Pg _ _ _;refine go 6<|Zb J (λd=>?_) (λd=>?_)
 .try rw [aT]at *
  refine go 12<|Zu (Zv 5) λb _=>Zu (Zv 6) λg _=>go 2 ?_;refine jn (G:=Unit) [0,1,2,3,10,11,12,13,29,30] [0,4,1,2,3,6] (λ_=>[]) (λ_=>[(5,box b 130 (wc (cf xs k)))]) (λ_=>True) ?_ ?_
  .refine go 8<|Zb J (λe=>?_) (λe=>?_)
   .refine go 7 ⟨O2,O2,?_⟩;exact Ge () aA aA ⟨by first|rfl|(rw [Yx (p:=xs) O];rfl),aA⟩
   .refine go 1 ?_;exact Ge () aA aA ⟨by first|rfl|(rw [Yx (p:=xs) O];rfl),aA⟩
  .rintro _ -;refine jn (G:=Unit) [0,1,2,3,10,11,12,13,29,30] [0,5,4,1,2,3] (λ_=>[]) (λ_=>[(6,box g 130 (wc (cf ys k)))]) (λ_=>True) ?_ ?_
   .refine go 8<|Zb J (λf=>?_) (λf=>?_)
    .refine go 7 ⟨O2,O2,?_⟩;exact Ge () aA aA ⟨by first|rfl|(rw [Yx (p:=ys) O];rfl),aA⟩
    .refine go 1 ?_;exact Ge () aA aA ⟨by first|rfl|(rw [Yx (p:=ys) O];rfl),aA⟩
   .rintro _ -;refine go 6 ?_;refine tt (Zrp 6 1 [_] [_,_] (Zlv (n.sz _) (m.sz _) (o _)) J J J J K2 call202 J O3 Zq J c.h aA) (λ_ _=>?_);refine dt (Yl 4 k J J J J (Yk pV) Mo Oj J (by rw [Pg];omega))<|tt (Lp 4 (enc:=wv) J J J J J J pV J c.h O3 (by rw [Pg];omega)) (λ_ _=>?_);refine go 7 ⟨O,?_⟩;exact Ym (k+1) O1 O1 K1 ⟨by rw [<-Zct O];rfl,aA⟩
 .try rw [aT]at *
  refine go 6 ?_;obtain rfl:k=max xs.length ys.length:=O;refine Zt (Nq 4 J J pV)<|go 3 ?_;refine tt (Qj 7 1 (Za7 (by rw [Ej];exact Zf5 λi _=>o i)) J J J K2 call200 J O3 (Yg 4 J J J Zq) J c.h aA) λ_ _=>go 7 ?_;exact Qh (.inl J) j _ (λa w hs=>Zsh hs results203 J J) J aA 1 J J J J (Zlh 7 J J J (by rw [Ej]<;>rfl) Za)
theorem Zuj(n:Vp xs)(m:Vp ys)(o:∀i,bl (cf xs i-cf ys i).natAbs<=65536):Zba prog 203 #[v,u,.pointer (some ⟨bd,0,none⟩),.func (.func 204) #[.pointer (some ⟨bd,0,none⟩)] #[]] [Yn 2 wv v xs,Yn 2 wv u ys] true bd 284 #[.int .i64 0] (G:=Value) (λr=>True) (λr=> .tuple #[r,.int .i64 0]) (λr=>#[.int .i64 0]) (λr=>[Yn 2 wv r (Zbo xs ys)]):=by
 refine Gl func203 J ntmps203 J K2 ?_;intro x t c j;have c:=Hw.mk c;simp only [Qa,Yj];have l:=n.len;have h:=m.len;refine go 10 ?_;refine cl 3 [2] (Xk ‹_›) λ_ _=>go 3 ?_;refine Ns 3 [3] (Xk ‹_›) λ_ _=>go 13 ?_;refine dt (Ci J J J)<|tt (Ey 4 (max xs.length ys.length) 24 (enc:=wv) 0 J J J J Mo ti130 J pV.cells pV.pos J J J c.h) λv _=>go 12 ?_;refine lp (G:=Nat) [0,1,2,3,10,29] [0,1,2,3] (λk=>[(30,.int .i64 (k:Int))]) (λk=>[(4,Nj 2 130 wv v (fill (max xs.length ys.length) k (λi=>cf xs i-cf ys i)))]) (λk=>k<=max xs.length ys.length) (λk=>max xs.length ys.length-k) 0 O1 K1 ⟨by rw [Bj (max xs.length ys.length) (λi=>cf xs i-cf ys i)];rfl,aA⟩ ?_;rintro k s;have q:(fill (max xs.length ys.length) k (λi=>cf xs i-cf ys i)).length=max xs.length ys.length:=Pg _ _ _;refine go 6<|Zb J (λd=>?_) (λd=>?_)
 .try rw [aT]at *
  refine go 12<|Zu (Zv 5) λb _=>Zu (Zv 6) λg _=>go 2 ?_;refine jn (G:=Unit) [0,1,2,3,10,11,12,13,29,30] [0,4,1,2,3,6] (λ_=>[]) (λ_=>[(5,box b 130 (wc (cf xs k)))]) (λ_=>True) ?_ ?_
  .refine go 8<|Zb J (λe=>?_) (λe=>?_)
   .refine go 7 ⟨O2,O2,?_⟩;exact Ge () aA aA ⟨by first|rfl|(rw [Yx (p:=xs) O];rfl),aA⟩
   .refine go 1 ?_;exact Ge () aA aA ⟨by first|rfl|(rw [Yx (p:=xs) O];rfl),aA⟩
  .rintro _ -;refine jn (G:=Unit) [0,1,2,3,10,11,12,13,29,30] [0,5,4,1,2,3] (λ_=>[]) (λ_=>[(6,box g 130 (wc (cf ys k)))]) (λ_=>True) ?_ ?_
   .refine go 8<|Zb J (λf=>?_) (λf=>?_)
    .refine go 7 ⟨O2,O2,?_⟩;exact Ge () aA aA ⟨by first|rfl|(rw [Yx (p:=ys) O];rfl),aA⟩
    .refine go 1 ?_;exact Ge () aA aA ⟨by first|rfl|(rw [Yx (p:=ys) O];rfl),aA⟩
   .rintro _ -;refine go 6 ?_;refine tt (Zrp 6 1 [_] [_,_] (Zwp (n.sz _) (m.sz _) (o _)) J J J J K2 call204 J O3 Zq J c.h aA) (λ_ _=>?_);refine dt (Yl 4 k J J J J (Yk pV) Mo Oj J (by rw [Pg];omega))<|tt (Lp 4 (enc:=wv) J J J J J J pV J c.h O3 (by rw [Pg];omega)) (λ_ _=>?_);refine go 7 ⟨O,?_⟩;exact Ym (k+1) O1 O1 K1 ⟨by rw [<-Zct O];rfl,aA⟩
 .try rw [aT]at *
  refine go 6 ?_;obtain rfl:k=max xs.length ys.length:=O;refine Zt (Nq 4 J J pV)<|go 3 ?_;refine tt (Qj 7 1 (Za7 (by rw [Ej];exact Zf5 λi _=>o i)) J J J K2 call200 J O3 (Yg 4 J J J Zq) J c.h aA) λ_ _=>go 7 ?_;exact Qh (.inl J) j _ (λa w hs=>Zsh hs results203 J J) J aA 1 J J J J (Zlh 7 J J J (by rw [Ej]<;>rfl) Za)
theorem Yfm(xs ys:List Int)(e:Vp xs)(d:Vp ys)(f:∀i,bl (cf xs i+cf ys i).natAbs<=65536):Cal prog 174 #[v,u] [Yn 2 wv v xs,Yn 2 wv u ys] true (G:=Value) (λr=>True) (λr=> .tuple #[r,.int .i64 0]) (λr=>[Yn 2 wv r (Zcl xs ys)]):=by refine Zd func174 ntmps174 λh g c a=>go 8 ?_;refine Zu (Zv 3) λb _=>go 6 ?_;refine dt (d_mkf [_] J K1)<|tt (Qj 4 3 (Zuk ‹_› ‹_› ‹_›) J J J K4 call203 J O3 (Yg 1 J J J (Yg 2 J J J Zq)) J c.h aA) λ_ _=>go 7 ?_;exact Oe a _ results174 J aA (Kc 4 Za)
theorem Yfl(xs ys:List Int)(e:Vp xs)(d:Vp ys)(f:∀i,bl (cf xs i-cf ys i).natAbs<=65536):Cal prog 175 #[v,u] [Yn 2 wv v xs,Yn 2 wv u ys] true (G:=Value) (λr=>True) (λr=> .tuple #[r,.int .i64 0]) (λr=>[Yn 2 wv r (Zbo xs ys)]):=by refine Zd func175 ntmps175 λh g c a=>go 8 ?_;refine Zu (Zv 3) λb _=>go 6 ?_;refine dt (d_mkf [_] J K1)<|tt (Qj 4 3 (Zuj ‹_› ‹_› ‹_›) J J J K4 call203 J O3 (Yg 1 J J J (Yg 2 J J J Zq)) J c.h aA) λ_ _=>go 7 ?_;exact Oe a _ results175 J aA (Kc 4 Za)
theorem Zsn(xs ys:List Int)(z:Vp xs)(y:Vp ys)(I:¬Az xs ys):Cal prog 173 #[v,u] [Yn 2 wv v xs,Yn 2 wv u ys] true (G:=Value) (λr=>True) (λr=> .tuple #[r,.int .i64 0]) (λr=>[Yn 2 wv r (Pa xs ys)]):=by
 refine Zd func173 ntmps173 λw0 Z B f=>?_;have M:=z.len;have H:=y.len;have S:=Oi z.sz;have V:=Oi y.sz;refine go 10 ?_;refine cl 2 [1] (Xk ‹_›) λ_ _=>go 3 ?_;refine Ns 2 [2] (Xk ‹_›) λ_ _=>go 14<|Zg 23 J (λD=>?_) (λD=>?_)
 .refine go 15 ?_;exact Oe f _ results173 J aA (Lh (Zfw (p:=xs) (q:=ys) (by first|(left;omega)|(right;omega))) Za)
 .refine go 6<|Zb J (λg=>?_) (λg=>?_)
  .refine go 8 ?_;exact Oe f _ results173 J aA (Lh (Zfw (p:=xs) (q:=ys) (by first|(left;omega)|(right;omega))) Za)
  .have c:xs≠[]:=by intro e;subst e;simp_all
   have d:ys≠[]:=by intro e;subst e;simp_all
   have Q:0<xs.length:=aL.2 c;have R:0<ys.length:=aL.2 d;refine go 13 ⟨O,O,?_⟩;refine Zg 35 J (λF=>?_) (λF=>?_)
   .exfalso;exact I ⟨c,d,.inl O⟩
   .refine go 1 ?_;refine Ns 2 [1] (Nv (by first|exact z.sz|exact y.sz)) λ_ _=>go 1 ?_;refine Ns 2 [2] (Nv (by first|exact z.sz|exact y.sz)) λ_ _=>?_;refine go 6 ⟨O,O,?_⟩;refine Zb J (λk=>?_) (λk=>?_)
    .exfalso;exact I ⟨c,d,by first|(left;omega)|(right;omega)⟩
    .have W:Pe xs+Pe ys+5<=65536:=O;have s:∀i j,bl (cf xs i*cf ys j).natAbs<=65536:=λi j=>by have:=Xx (cf xs i) (cf ys j);have:=Kt xs i;have:=Kt ys j;omega
     have n:∀i j t,i<25->bl (Za9 xs ys i j t).natAbs<=65536:=λi j t hi=>by have:=Yo1 (i:=i) (j:=j) (t:=t) (Kt xs) (Kt ys) O;omega
     have o:∀t,bl (acc xs ys xs.length t).natAbs<=65536:=λt=>by have:=bl_acc (i:=xs.length) (t:=t) (Kt xs) (Kt ys) O;omega
     have w:∀i j,i<25->bl (Za9 xs ys i j (i+j)+cf xs i*cf ys j).natAbs<=65536:=λi j hi=>by rw [<-Yc8];exact n i (j+1) _ hi
     refine go 4<|Zu (Zv 3) λb _=>?_;refine go 10 ⟨O,O,?_⟩;refine tt (Ey 4 (xs.length+ys.length-1) 24 (enc:=wv) 0 J J J J Mo ti130 J pV.cells pV.pos J J J B.h) λv _=>go 12 ?_;refine lp (G:=Nat) [1,6,7,51,52] [0,1,2,3] (λi=>[(53,.int .i64 (i:Int))]) (λi=>[(4,Nj 2 130 wv v (mk (xs.length+ys.length-1) (acc xs ys i)))]) (λi=>i<=xs.length) (λi=>xs.length-i) 0 O1 K1 ⟨by rw [Zvt];rfl,aA⟩ ?_;rintro i hi;refine go 6<|Zb J (λl=>?_) (λl=>?_)
     .refine go 9 ⟨O2,O2,?_⟩;refine Zu (Zv 5) λN _=>go 12 ?_;refine lp (G:=Nat) [1,6,7,8,9,51,52,53,58,59] [0,1,2,3,5] (λj=>[(60,.int .i64 (j:Int))]) (λj=>[(4,Nj 2 130 wv v (mk (xs.length+ys.length-1) (Za9 xs ys i j)))]) (λj=>j<=ys.length) (λj=>ys.length-j) 0 O1 K1 ⟨by rw [Yc7];rfl,aA⟩ ?_;rintro j Y;have a:i+j<xs.length+ys.length-1->(mk (xs.length+ys.length-1) (Za9 xs ys i j)).getD (i+j) 0=Za9 xs ys i j (i+j):=λh=>Zdu h;refine go 6<|Zb J (λm=>?_) (λm=>?_)
      .refine go 9 ⟨O2,O2,?_⟩;refine Zu (Zv 6) λP _=>go 4<|Pd (λx=>x=b) [(0,0),(1,0),(2,0),(3,0),(4,0),(5,0),(6,0),(7,0),(8,0),(9,0),(10,0),(11,0),(12,1),(13,1),(14,0),(15,3)]<|go 8 ⟨O,O,?_⟩;refine Qd J J (st1 3 J (Yl 4 (i+j) J J J J (Yk pV) Mo Oj O (by rw [Yz];omega)))<|go 3 ⟨by rw [Yz];omega,?_⟩;refine Br J (Qj 6 3 (Dk (z.sz _) (y.sz _) (s i j)) J J J K3 call199 J O3 Zq J B.h J) (λ_ _=>?_);refine Br J (Qj 6 3 (Zlv (by rw [a O];exact n i j _ O) (s i j) (by rw [a O];exact w i j O)) J J J K3 call202 J O3 Zq J B.h J) (λ_ _=>?_);refine Qd J J (st1 3 J (Yl 4 (i+j) J J J J (Yk pV) Mo Oj O (by rw [Yz];omega)))<|r3' J (Lp 4 (enc:=wv) J J J J J J pV J B.h O3 (by rw [Yz];omega)) (λ_ _=>?_);refine go 7 ⟨O,?_⟩;exact Ym (j+1) O1 O1 K1 ⟨by rw [<-Yj7 O,<-a O];rfl,aA⟩
      .refine go 10 ⟨O,?_⟩;obtain rfl:j=ys.length:=O;exact Ym (i+1) O1 O1 K1 ⟨by rw [<-Yj8];rfl,aA⟩
     .refine go 6 ?_;obtain rfl:i=xs.length:=O;refine Zt (Nq 4 J J pV)<|go 2 ?_;refine tt (Qj 7 3 (Za7 (Zf5 λt _=>o t)) J J J K2 call200 J O3 (Yg 4 J J J Zq) J B.h aA) λ_ _=>go 7 ?_;exact Oe f _ results173 J aA (Kc 7 Za (by rw [Yfo]<;>rfl))
theorem Zd9(g:Vp xs)(f:Vp ys):Xa prog 262 #[v,u] [Yn 2 wv v xs,Yn 2 wv u ys] (.tuple #[.bool (Yn1 xs ys),.int .i64 (Bc xs ys)]):=by
 refine Zd func262 ntmps262 λp o n c=>?_;have i:=g.len;have h:=f.len;have j:=Oi g.sz;have k:=Oi f.sz;refine go 11 ?_;refine cl 2 [1] (Xk ‹_›) λ_ _=>go 3 ?_;refine Ns 2 [2] (Xk ‹_›) λ_ _=>go 14<|Zb J (λd=>?_) (λd=>?_)
 .refine go 9 ?_;exact Oe c () results262 (by unfold Bc Yn1;rw [aO O,aH (l:=ys) O];rfl) aA Za
 .refine go 10<|Zb J (λe=>?_) (λe=>?_)
  .refine go 9 ?_;exact Oe c () results262 (by rw [Zgj O,aD O];unfold Bc;rw [aJ O,aO O]) aA Za
  .have m:(xs.length-ys.length+1)*(Pe ys+1)<=26*65537:=aS O O;have b:((xs.length:Int)-(ys.length:Int)+1)*((Pe ys:Int)+1)=(((xs.length-ys.length+1)*(Pe ys+1):Nat):Int):=by rw [gD];congr 1;omega
   refine go 3 ?_;refine cl 2 [1] (Nv (by first|exact g.sz|exact f.sz)) λ_ _=>?_;refine go 7 ⟨O,O,?_⟩;refine cl 2 [2] (Nv (by first|exact g.sz|exact f.sz)) λ_ _=>?_;refine go 7 ⟨O,by rw [b];exact⟨O,O⟩,by rw [b];exact⟨O,O⟩,?_⟩;refine Zb J (λa=>?_) (λa=>?_)
   .refine go 9 ?_;exact Oe c () results262 (by rw [b]at a;rw [Zgj O,aE O];unfold Bc;rw [aJ O,aJ O,aO O]) aA Za
   .refine go 10 ?_;exact Oe c () results262 (by rw [b]at a;rw [Zgj O,aE O];unfold Bc;rw [aJ O,aJ O,aJ O]) aA Za
theorem Znb(H:Vp xs)(s:Vp ys)(M:Bc xs ys=0):Cal prog 261 #[v,u] [Yn 2 wv v xs,Yn 2 wv u ys] true (G:=Value) (λr=>True) (λr=> .tuple #[r,.int .i64 0]) (λr=>[Yn 2 wv r (Qs xs ys)]):=by
 refine Zd func261 ntmps261 λw0 sc g q=>?_;have N:=H.len;have B:=s.len;have W:=Oi H.sz;have Y:=Oi s.sz;obtain⟨F,t⟩:=Zdv M;have o:=Zgj (p:=xs) F;refine go 10 ?_;refine cl 2 [1,2] (Zd9 H s) λ_ _=>go 14<|Zb J (λd=>?_) (λd=>?_)
 .exfalso;exact d M
 .refine go 5 ?_;refine tt (Zdf 3 Yam J J J K1 call263 (Yg 1 J J J Zq) J g.h) λv _=>go 9 ?_;refine Yo J (λa=>?_) (λa=>?_)
  .have D:xs.length<ys.length:=by rw [o]at a;simpa using a
   refine go 9 ?_;exact Oe q _ results261 J aA (gow 3 Za (by unfold Qs;rw [aO D]))
  .have z:ys.length<=xs.length:=by rw [o]at a;simpa using a
   have I:=t z;refine go 4<|Zu (Zv 4) λb _=>?_;refine go 8 ⟨O,?_⟩;refine dt (Yl 2 (ys.length-1) J J J J Zk Mo Oj)<|go 1 ⟨O,?_⟩;refine Zu (Zv 5) λP _=>?_;refine go 13 ⟨O,?_⟩;refine lp (G:=Nat) [1,8,9,10] [0,1,2,4,5] (λj=>[(11,.int .i64 ((xs.length:Int)-1-(j:Int)))]) (λj=>[(3,Nj 2 130 wv v (Og xs ys j))]) (λj=>j<=xs.length-ys.length+1) (λj=>xs.length-ys.length+1-j) 0 O1 ⟨by rw [show(xs.length:Int)-1-((0:Nat):Int)=(xs.length:Int)-1 by omega];rfl,aA⟩ K1 ?_;rintro j Z;refine go 10 ⟨O,?_⟩;refine Zb J (λk=>?_) (λk=>?_)
   .obtain⟨n,c,y⟩:=rest_b I (j:=j) O;have w:=Kb xs ys j;refine go 8 ?_;refine dt (Yl 3 (xs.length-1-j) J J J J (Yk pV) Mo Oj)<|go 1 ⟨O,?_⟩;refine Zu (Zv 6) λQ _=>go 12 ?_;refine lp (G:=Nat) [1,8,9,10,11,12,51] [0,1,2,4,5,6] (λi=>[(52,.int .i64 (i:Int))]) (λi=>[(3,Nj 2 130 wv v (Zk1 (Og xs ys j) (cf ys (ys.length-1)) i))]) (λi=>i<=xs.length) (λi=>xs.length-i) 0 O1 K1 ⟨by rw [Yb4];rfl,aA⟩ ?_;rintro i hi;have e:i<xs.length->(Zk1 (Og xs ys j) (cf ys (ys.length-1)) i).getD i 0=cf (Og xs ys j) i:=λh=>Ygf O;have S:=Zs9 (Og xs ys j) (cf ys (ys.length-1)) i;refine go 6<|Zb J (λl=>?_) (λl=>?_)
    .refine go 10<|Pd (λx=>x=b) [(0,0),(1,0),(2,0),(3,0),(4,0),(5,0),(6,0),(7,1),(8,0),(9,3)]<|go 4 ?_;refine Qd J J (st1 4 J (Yl 3 i J J J J (Yk pV) Mo Oj J))<|go 2 ⟨O,?_⟩;refine Br J (Qj 6 4 (Dk (by rw [e O];exact n _) (s.sz _) (by rw [e O];exact c _ _)) J J J K3 call199 J O3 Zq J g.h J) (λ_ _=>?_);refine Qd J J (st1 4 J (Yl 3 i J J J J (Yk pV) Mo Oj J))<|r3' J (Lp 3 (enc:=wv) J J J J J J pV J g.h) (λ_ _=>?_);refine go 7 ⟨O,?_⟩;exact Ym (i+1) O1 O1 K1 ⟨by rw [<-Yge O,<-e O];rfl,aA⟩
    .refine go 6 ?_;obtain rfl:i=xs.length:=O;refine go 7 ?_;refine lp (G:=Nat) [1,8,9,10,11,12,65,66] [0,1,2,4,5,6] (λi=>[(67,.int .i64 (i:Int))]) (λi=>[(3,Nj 2 130 wv v (Zoo ys (Og xs ys j) (cf ys (ys.length-1)) (cf (Og xs ys j) (xs.length-1-j)) (xs.length-1-j-(ys.length-1)) i))]) (λi=>i<=ys.length) (λi=>ys.length-i) 0 O1 K1 ⟨by rw [<-Ybg,w];rfl,aA⟩ ?_;rintro i hi;have f:i<ys.length->(Zoo ys (Og xs ys j) (cf ys (ys.length-1)) (cf (Og xs ys j) (xs.length-1-j)) (xs.length-1-j-(ys.length-1)) i).getD ((xs.length-1-j-(ys.length-1))+i) 0=cf (Og xs ys j) ((xs.length-1-j-(ys.length-1))+i)*(cf ys (ys.length-1)):=λh=>Yd5 O;have V:=Zs8 ys (Og xs ys j) (cf ys (ys.length-1)) (cf (Og xs ys j) (xs.length-1-j)) (xs.length-1-j-(ys.length-1)) i;refine go 6<|Zb J (λm=>?_) (λm=>?_)
     .refine go 9 ⟨O2,O2,?_⟩;refine Zu (Zv 7) λR _=>?_;refine go 16 ⟨O,O,O,?_⟩;refine Pd (λx=>x=b) [(0,0),(1,0),(2,0),(3,0),(4,0),(5,0),(6,0),(7,0),(8,1),(9,1),(10,0),(11,3)]<|go 4 ?_;refine Qd J J (st1 4 J (Yl 3 ((xs.length-1-j-(ys.length-1))+i) J J J J (Yk pV) Mo Oj))<|go 3 ⟨O,?_⟩;refine Br J (Qj 7 4 (Dk (n _) (s.sz _) (c _ _)) J J J K3 call199 J O3 Zq J g.h J) (λ_ _=>?_);refine Br J (Qj 7 4 (Zwp (by rw [f O];exact c _ _) (c _ _) (by rw [f O];exact y _ _ _ _)) J J J K3 call204 J O3 Zq J g.h J) (λ_ _=>?_);refine Qd J J (st1 4 J (Yl 3 ((xs.length-1-j-(ys.length-1))+i) J J J J (Yk pV) Mo Oj))<|r3' J (Lp 3 (enc:=wv) J J J J J J pV J g.h) (λ_ _=>?_);refine go 7 ⟨O,?_⟩;exact Ym (i+1) O1 O1 K1 ⟨by rw [<-Yd4 O,<-f O];rfl,aA⟩
     .refine go 11 ⟨O,?_⟩;obtain rfl:i=ys.length:=O;exact Ym (j+1) O1 O1 ⟨by rw [show(xs.length:Int)-1-((j+1:Nat):Int)=(xs.length:Int)-1-(j:Int)-1 by omega];rfl,aA⟩ ⟨by rfl,aA⟩
   .refine go 6 ?_;obtain rfl:j=xs.length-ys.length+1:=O;refine Zt (Nq 3 J J pV)<|go 2 ?_;refine tt (Qj 8 4 (Za7 (Zrq I)) J J J K2 call200 J O3 (Yg 3 J J J Zq) J g.h aA) λ_ _=>go 7 ?_;exact Oe q _ results261 J aA (Kc 8 Za (by unfold Qs;rw [aJ O]<;>rfl))
theorem Zcj(hv:Vp xs)(g:Vp ys)(hd:Bc xs ys=0):Cal prog 250 #[v,u] [Yn 2 wv v xs,Yn 2 wv u ys] true (G:=Value) (λr=>True) (λr=> .tuple #[r,.int .i64 (if pdv xs ys then 0 else 10)]) (λr=>[Yn 2 wv r (if pdv xs ys then Hf xs ys else [])]):=by
 refine Zd func250 ntmps250 λw0 sc D s=>?_;have a6:=hv.len;have a0:=g.len;have c2:=Oi hv.sz;have c3:=Oi g.sz;obtain⟨R,W⟩:=Zdv hd;have P:=Zgj (p:=xs) R;have c:cf ys (ys.length-1)≠0:=g.tr.mem (λe=>R (by rw [e];rfl));refine go 10 ?_;refine cl 2 [1,2] (Zd9 hv g) λ_ _=>go 16<|Zb J (λw=>?_) (λw=>?_)
 .exfalso;exact w hd
 .refine go 8<|Zb J (λl=>?_) (λl=>?_)
  .refine go 9 ?_;have S:xs=[]:=aH O;have d:pdv xs ys:= .inl S;exact Oe s _ results250 (by rw [aO d]) aA (Lh (by rw [aO d,S];rfl) Za)
  .have t:xs≠[]:=λe=>by rw [e]at l;simp at l
   refine go 6<|Yo J (λa=>?_) (λa=>?_)
   .have c1:xs.length<ys.length:=by rw [P]at a;simpa using a
    refine go 9 ?_;have d:¬pdv xs ys:=λh=>by rcases h with h|h;(exact t h);(have:=h.1;omega)
    exact Oe s _ results250 (by rw [aJ d]) aA (Lh (aJ d) Za)
   .have Q:ys.length<=xs.length:=by rw [P]at a;simpa using a
    have V:=W Q;refine go 5<|Zu (Zv 3) λb _=>go 5 ?_;refine tt (Zdf 4 Yam J J J K1 call263 (Yg 1 J J J Zq) J D.h) (λv _=>?_);refine go 11 ⟨O,O,?_⟩;refine tt (Ey 5 (xs.length-ys.length+1) 24 (enc:=wv) 0 J J J J Mo ti130 J pV.cells pV.pos J J J D.h) (λa2 _=>?_);refine go 13 ⟨⟨by simp only [aT];omega,by simp only [aT];omega⟩,?_⟩;refine lp (G:=Nat) [1,8,9,10] [0,1,2,3] (λj=>[(11,.int .i64 ((xs.length:Int)-(ys.length:Int)-(j:Int)))]) (λj=>[(4,Nj 2 130 wv v (Pi xs ys j)),(5,Nj 2 130 wv a2 (Zmn xs ys j))]) (λj=>(j<=xs.length-ys.length+1)/\(∀k,xs.length-ys.length<k+j->k<=xs.length-ys.length->Hc xs ys k)) (λj=>xs.length-ys.length+1-j) 0 ⟨O1,λk h1 h2=>O⟩ ⟨by simp only [aT];exact aF some (Yg1 O),aA⟩ ⟨J,by rw [Yct];rfl,aA⟩ ?_;rintro j ⟨hj,hx⟩;have d2:=Zco xs ys j;refine go 7<|Zb J (λF=>?_) (λF=>?_)
    .obtain⟨f,Z⟩:=div_b V (j:=j) O hx;have b6:=Zau xs ys j;have b9:xs.length-ys.length-j+ys.length-1<xs.length:=O;refine go 4 ?_;refine jn (G:=Nat×Nat) [1,8,9,10,11] [0,4,5,1,2,3] (λq=>[(12,.pointer (some ⟨q.1,0,none⟩)),(13,.pointer (some ⟨q.2,0,none⟩)),(14,.int .i64 0)]) (λq=>[(97,box q.1 130 (wc (Bz (dq ys (Pi xs ys j) (xs.length-ys.length-j))))),(98,box q.2 130 (wc (Bz (cf (Pi xs ys j) ((xs.length-ys.length-j)+ys.length-1)%cf ys (ys.length-1)))))]) (λq=>True) ?_ ?_
     .refine Qz [2,4] [23]<|Zp 10 [(0,0),(1,0),(2,0),(3,0),(4,0),(5,0),(6,0),(7,0),(8,0),(9,0),(10,0),(11,0),(12,0),(13,0)]<|go 6 ⟨O,O,?_⟩;refine Qd J J (Fp (Yl 4 ((xs.length-ys.length-j)+ys.length-1) J J J J (Yk pV) Mo Oj) K2)<|go 5 ⟨O,O,?_⟩;refine Qd J J (Fp (Yl 2 (ys.length-1) J J J J Zk Mo Oj) K2)<|go 2 ⟨O,?_⟩;refine Ykf 9 14 19 20 ?_ ?_ ?_
      .refine Ko (Zx 5 [] (Bk (f _) (g.sz _) c)) λ_ _=>?_;refine Zp 5 [(15,0),(16,0),(17,0),(18,0)]<|go 5 ?_;refine Oo 4 19 20 ?_ ?_
       .refine Ko (Ov 97) λa8 ho=>?_;refine Zp 0 [(20,1),(21,1),(22,1),(23,3)]<|Ql (Ov 98) λa9 c4=>go 4 ?_;exact Ye<|Ge (_,_) aA K3 K2
       .refine Ko (Ov 98) λb0 c5=>?_;refine Zp 0 [(19,1),(21,1),(22,1),(23,3)]<|Ql (Ov 97) λb1 c6=>go 4 ?_;exact Ye<|Ge (_,_) aA K3 K2
      .refine Ko (Ov 97) λb2 c7=>?_;refine Oo 8 14 20 ?_ ?_
       .refine Ko (Zx 5 [] (Bk (f _) (g.sz _) c)) λ_ _=>?_;refine Zp 0 [(15,0),(16,0),(17,0),(18,0),(20,1),(21,1),(22,1),(23,3)]<|go 4 ?_;refine Ql (Ov 98) λb3 c8=>go 4<|Ye ?_;exact Ge (_,_) aA K3 K2
       .refine Ko (Ov 98) λb4 c9=>?_;refine Zp 0 [(14,1),(15,0),(16,0),(17,0),(18,0),(21,1),(22,1),(23,3)]<|Ql (Zx 5 [] (Bk (f _) (g.sz _) c)) λ_ _=>go 8 ?_;exact Ye<|Ge (_,_) aA K3 K2
      .refine Ko (Ov 98) λb5 d0=>?_;refine Oo 8 14 19 ?_ ?_
       .refine Ko (Zx 5 [] (Bk (f _) (g.sz _) c)) λ_ _=>?_;refine Zp 0 [(15,0),(16,0),(17,0),(18,0),(19,1),(21,1),(22,1),(23,3)]<|go 4 ?_;refine Ql (Ov 97) λa3 d1=>go 4<|Ye ?_;exact Ge (_,_) aA K3 K2
       .refine Ko (Ov 97) λa4 a7=>?_;refine Zp 0 [(14,1),(15,0),(16,0),(17,0),(18,0),(21,1),(22,1),(23,3)]<|Ql (Zx 5 [] (Bk (f _) (g.sz _) c)) λ_ _=>go 8 ?_;exact Ye<|Ge (_,_) aA K3 K2
     .rintro⟨b7,b8⟩ -;dsimp only;refine go 7<|Zb J (λy=>?_) (λy=>?_)
      .exfalso;exact y rfl
      .refine go 6 ?_;refine cl 5 [] (Iz Zje) λ_ _=>go 3<|Zb J (λm=>?_) (λm=>?_)
       .have a1:¬Hc xs ys (xs.length-ys.length-j):=λhe=>m (by rw [Zuo c (g.sz _),(Zt7 O).1 he];rfl);refine go 13 ?_;have d:¬pdv xs ys:=λh=>by rcases h with h|h;(exact t h);(exact a1 (h.2.1 _ O))
        exact Oe s _ results250 (by rw [aJ d]) aA (Lh (aJ d) Za)
       .have N:Hc xs ys (xs.length-ys.length-j):=(Zt7 O).2 (by have h0:=bP m;rw [Zuo c (g.sz _)]at h0;exact fL.1 h0);obtain⟨I,M,Y⟩:=Z N;refine Zt (Qe 97 (q:=box b7 130 (wc (dq ys (Pi xs ys j) (xs.length-ys.length-j)))) (by rw [Np I]) J J)<|go 7 ?_;refine dt (Yl 5 (xs.length-ys.length-j) J J J J (Yk pV) Mo Oj)<|tt (Lp 5 (enc:=wv) J J J J J J pV J D.h) λ_ _=>go 10 ?_;refine lp (G:=Nat) [1,8,9,10,11,12,78,79] [0,97,98,5,1,2,3] (λi=>[(80,.int .i64 (i:Int))]) (λi=>[(4,Nj 2 130 wv v (Zqj ys (Pi xs ys j) (dq ys (Pi xs ys j) (xs.length-ys.length-j)) (xs.length-ys.length-j) i))]) (λi=>i<=ys.length) (λi=>ys.length-i) 0 O1 K1 ⟨by rw [<-Ycr];rfl,aA⟩ ?_;rintro i hi;have B:i<ys.length->(Zqj ys (Pi xs ys j) (dq ys (Pi xs ys j) (xs.length-ys.length-j)) (xs.length-ys.length-j) i).getD ((xs.length-ys.length-j)+i) 0=cf (Pi xs ys j) ((xs.length-ys.length-j)+i):=λh=>Yie O;have c0:=Zta ys (Pi xs ys j) (dq ys (Pi xs ys j) (xs.length-ys.length-j)) (xs.length-ys.length-j) i;refine go 6<|Zb J (λH=>?_) (λH=>?_)
        .refine go 9 ⟨O2,O2,?_⟩;refine Zu (Zv 6) λa5 _=>go 4<|Pd (λx=>x=b) [(0,0),(1,0),(2,0),(3,0),(4,0),(5,0),(6,0),(7,0),(8,0),(9,0),(10,0),(11,0),(12,1),(13,1),(14,0),(15,3)]<|go 8 ⟨O,O,?_⟩;refine Qd J J (st1 3 J (Yl 4 ((xs.length-ys.length-j)+i) J J J J (Yk pV) Mo Oj))<|go 3 ⟨O,?_⟩;refine Br J (Qj 6 3 (Dk I (g.sz _) (M _)) J J J K3 call199 J O3 Zq J D.h J) (λ_ _=>?_);refine Br J (Qj 6 3 (Zwp (by rw [B O];exact f _) (M _) (by rw [B O];exact Y _ _)) J J J K3 call204 J O3 Zq J D.h J) (λ_ _=>?_);refine Qd J J (st1 3 J (Yl 4 ((xs.length-ys.length-j)+i) J J J J (Yk pV) Mo Oj))<|r3' J (Lp 4 (enc:=wv) J J J J J J pV J D.h) (λ_ _=>?_);refine go 7 ⟨O,?_⟩;exact Ym (i+1) O1 O1 K1 ⟨by rw [<-Yid O,<-B O];rfl,aA⟩
        .refine go 11 ⟨O,?_⟩;obtain rfl:i=ys.length:=O;exact Ym (j+1) ⟨O1,λk h1 h2=>by rcases aW (xs.length-ys.length) (k+j)with h3|h3;(exact hx k h3 h2);(rw [show k=xs.length-ys.length-j by omega];exact N)⟩ O1 ⟨by rw [show(xs.length:Int)-(ys.length:Int)-((j+1:Nat):Int)=(xs.length:Int)-(ys.length:Int)-(j:Int)-1 by omega];rfl,aA⟩ ⟨by rfl,by rw [<-Yih O];rfl,aA⟩
    .refine go 7 ?_;obtain rfl:j=xs.length-ys.length+1:=O;have o:∀k,k<=xs.length-ys.length->Hc xs ys k:=λk hk=>hx k O hk;refine Zt (Nq 4 J J pV)<|go 6<|Zg 105 J (λz=>?_) (λz=>?_)
     .refine go 1 ?_;refine Ns 7 [4] (Zdj (Yd2 V o)) λ_ _=>go 5<|Zb J (λn=>?_) (λn=>?_)
      .refine go 8 ?_;have d:¬pdv xs ys:=λh=>by rcases h with h|h;(exact t h);(rw [h.2.2]at n;simp at n)
       exact Oe s _ results250 (by rw [aJ d]) aA (Lh (aJ d) Za)
      .refine go 3<|Zt (Nq 5 J J pV)<|go 2 ?_;refine tt (Qj 8 3 (Za7 (Zxx V o)) J J J K2 call200 J O3 (Yg 5 J J J Zq) J D.h aA) λ_ _=>go 7 ?_;have d:pdv xs ys:= .inr ⟨Q,o,aH O⟩;exact Oe s _ results250 (by rw [aO d]<;>rfl) aA (Kc 8 Za (by rw [aO d,Zsk t,<-Zgi]<;>rfl))
     .exfalso;exact z rfl
theorem Zo8(xs:List Int)(x y z:Int)(k:Vp xs)(hx:bl x.natAbs<=65536)(hy:bl y.natAbs<=65536)(R:bl z.natAbs<=65536)(a9:0<z)(hE:¬Zly xs x y z):Cal prog 242 #[v,wv x,wv y,wv z] [Yn 2 wv v xs] true (G:=Value) (λr=>True) (λr=> .tuple #[r,.int .i64 0]) (λr=>[Yn 2 wv r (Ks xs x y z)]):=by
 refine Zd func242 ntmps242 λw0 sc a t=>?_;have P:=k.len;refine go 2<|Zu (Zo 2) λb _=>Zu (Zo 3) λW _=>Zu (Zo 4) λY _=>go 8 ?_;refine cl 4 [1] (Xk ‹_›) λ_ _=>go 3 ?_;refine Ns 4 [] (Lv ‹_›) λ_ _=>go 4 ?_;refine Ns 4 [] (Lv ‹_›) λ_ _=>go 4 ?_;refine Ns 4 [] (Lv ‹_›) λ_ _=>go 11 ?_;refine cl 4 [] (Iz R) λ_ _=>go 3<|Zb J (λm=>?_) (λm=>?_)
 .exfalso;have h2:=bC.1 (Zbi z);omega
 .refine go 10<|Zb J (λf=>?_) (λf=>?_)
  .refine go 8 ?_;exact Oe t _ results242 J aA (Lh (by unfold Ks;rw [aO O]) Za)
  .have B:xs≠[]:=λe=>by rw [e]at f;simp at f
   have a6:=Oi k.sz;have d:Sz 65536 [x,y,z]:=Sz.of_mem (by intro q Q;simp at Q;rcases Q with rfl|rfl|rfl<;>assumption);have a7:=Oi d;have a8:(xs.length-1)*(Pe [x,y,z]+1)<=24*65537:=aS O O;have c:((xs.length:Int)-1)*((Pe [x,y,z]:Int)+1)=(((xs.length-1)*(Pe [x,y,z]+1):Nat):Int):=by rw [gD];congr 1;omega
   refine go 3 ?_;refine jn (G:=Unit) [0,5,6,7] [0,1,2,3,4] (λ_=>[(55,.bool (decide ((65536:Int)<(Pe xs:Int)+((xs.length:Int)-1)*((Pe [x,y,z]:Int)+1)+8)))]) (λ_=>[]) (λ_=>True) ?_ ?_
   .refine Zah (λ_=>False) []<|Zp 8 [(0,0),(2,0),(3,0),(4,0),(5,0),(6,0),(7,0)]<|go 8 ⟨O,?_⟩;refine Oo 7 1 8 ?_ ?_
    .refine Ko (Zx 4 [1] (Nv (by first|exact k.sz|exact d))) λ_ _=>?_;refine Zp 0 [(8,1),(9,1),(10,0),(11,0),(12,0),(13,0),(14,0)]<|Br J (Pv [(0,_),(1,_),(2,_)] 90 (enc:=wv) [x,y,z] J J K6 Yk6 ti130 J J Yhu J J pV.cells J J a.h) λv _=>Ql (Zx 4 [90] (Nv (by first|exact k.sz|exact d))) λ_ _=>?_;refine go 6 ⟨O,by rw [c];exact⟨O,O⟩,by rw [c];exact⟨O,O⟩,by rw [c];exact⟨O,O⟩,?_⟩;exact Ye<|Ge () aA K1 aA
    .refine Zam J J (Pv [(0,_),(1,_),(2,_)] 90 (enc:=wv) [x,y,z] J J K6 Yk6 ti130 J J Yhu J J pV.cells J J a.h) (λb0 _=>?_);refine Zp 0 [(1,1),(9,1),(10,0),(11,0),(12,0),(13,0),(14,0)]<|Ql (Zx 4 [1] (Nv (by first|exact k.sz|exact d))) λ_ _=>Ql (Zx 4 [90] (Nv (by first|exact k.sz|exact d))) λ_ _=>?_;refine go 6 ⟨O,by rw [c];exact⟨O,O⟩,by rw [c];exact⟨O,O⟩,by rw [c];exact⟨O,O⟩,?_⟩;exact Ye<|Ge () aA K1 aA
   .rintro _ -;refine Zb J (λg=>?_) (λg=>?_)
    .exfalso;exact hE ⟨B,by rw [c]at g;omega⟩
    .have N:Pe xs+(xs.length-1)*(Pe [x,y,z]+1)+8<=65536:=by rw [c]at g;omega
     refine go 4<|Zu (Zv 5) λl _=>go 2 ?_;refine jn (G:=Value×Nat) [0,5,6,7,10] [0,1,2,3,4,5] (λq=>[(11,q.1),(12,.pointer (some ⟨q.2,0,none⟩))]) (λq=>[(70,Nj 2 130 wv q.1 (Kj xs x y z 0)),(98,box q.2 130 (wc 1))]) (λq=>True) ?_ ?_
     .refine Zah (λ_=>False) [9,10]<|Zp 5 [(0,0),(1,0),(2,0),(3,0),(4,0),(5,0)]<|go 4 ⟨O,?_⟩;refine Qd J J (Pt (Yl 1 (xs.length-1) J J J J Zk Mo Oj))<|go 2 ⟨O,?_⟩;refine Ykf 4 6 7 8 ?_ ?_ ?_
      .refine Zam J J (Pv [(0,_)] 70 (enc:=wv) [cf xs (xs.length-1)] J J K2 Mo ti130 J J J J J pV.cells J J a.h) (λb1 _=>?_);refine Oo 3 7 8 ?_ ?_
       .refine Ko (Zx 5 [] (Zn _ (by first|assumption|exact⟨O,O⟩))) λ_ _=>?_;refine Zp 0 [(8,1),(9,3),(10,3)]<|Ql (Zv 98) λZ _=>go 3 ?_;exact Ye<|Ge (_,_) aA K2 ⟨by rw [Dn];rfl,rfl,aA⟩
       .refine Ko (Zv 98) λa0 _=>?_;refine Zp 0 [(7,1),(9,3),(10,3)]<|Ql (Zx 5 [] (Zn _ (by first|assumption|exact⟨O,O⟩))) λ_ _=>go 3 ?_;exact Ye<|Ge (_,_) aA K2 ⟨by rw [Dn];rfl,rfl,aA⟩
      .refine Ko (Zx 5 [] (Zn _ (by first|assumption|exact⟨O,O⟩))) λ_ _=>?_;refine Oo 3 6 8 ?_ ?_
       .refine Zam J J (Pv [(0,_)] 70 (enc:=wv) [cf xs (xs.length-1)] J J K2 Mo ti130 J J J J J pV.cells J J a.h) (λb2 _=>?_);refine Zp 0 [(8,1),(9,3),(10,3)]<|Ql (Zv 98) λa1 _=>go 3 ?_;exact Ye<|Ge (_,_) aA K2 ⟨by rw [Dn];rfl,rfl,aA⟩
       .refine Ko (Zv 98) λa2 _=>?_;refine Zp 0 [(6,1),(9,3),(10,3)]<|Br J (Pv [(0,_)] 70 (enc:=wv) [cf xs (xs.length-1)] J J K2 Mo ti130 J J J J J pV.cells J J a.h) λb3 _=>go 3 ?_;exact Ye<|Ge (_,_) aA K2 ⟨by rw [Dn];rfl,rfl,aA⟩
      .refine Ko (Zv 98) λa3 _=>?_;refine Oo 3 6 7 ?_ ?_
       .refine Zam J J (Pv [(0,_)] 70 (enc:=wv) [cf xs (xs.length-1)] J J K2 Mo ti130 J J J J J pV.cells J J a.h) (λb4 _=>?_);refine Zp 0 [(7,1),(9,3),(10,3)]<|Ql (Zx 5 [] (Zn _ (by first|assumption|exact⟨O,O⟩))) λ_ _=>go 3 ?_;exact Ye<|Ge (_,_) aA K2 ⟨by rw [Dn];rfl,rfl,aA⟩
       .refine Ko (Zx 5 [] (Zn _ (by first|assumption|exact⟨O,O⟩))) λ_ _=>?_;refine Zp 0 [(6,1),(9,3),(10,3)]<|Br J (Pv [(0,_)] 70 (enc:=wv) [cf xs (xs.length-1)] J J K2 Mo ti130 J J J J J pV.cells J J a.h) λb5 _=>go 3 ?_;exact Ye<|Ge (_,_) aA K2 ⟨by rw [Dn];rfl,rfl,aA⟩
     .rintro⟨S,V⟩ -;dsimp only;refine go 10 ⟨O,?_⟩;refine lp (G:=Nat×Value) [0,5,6,7,10,12] [0,1,2,3,4,5] (λq=>[(13,.int .i64 ((xs.length:Int)-2-(q.1:Int))),(11,q.2)]) (λq=>[(70,Nj 2 130 wv q.2 (Kj xs x y z q.1)),(98,box V 130 (wc (z^q.1)))]) (λq=>q.1<=xs.length-1) (λq=>xs.length-1-q.1) (0,S) O1 ⟨by rw [show(xs.length:Int)-2-((0:Nat):Int)=(xs.length:Int)-2 by omega];rfl,rfl,aA⟩ ⟨J,by rw [eJ];rfl,aA⟩ ?_;rintro⟨j,S⟩ hj;dsimp only at hj;dsimp only;refine go 7<|Zb J (λn=>?_) (λn=>?_)
      .obtain⟨c1,H,I,w,c5,c6,c7,M,c9⟩:=cp_all N (j:=j) O;have a4:=Zcp xs x y z j;refine go 8 ?_;refine tt (Qj 5 5 (Dk c1 R (by rw [<-eC];exact H)) J J J K3 call199 J O3 Zq J a.h aA) (λ_ _=>?_);refine go 8 ⟨O,?_⟩;refine tt (Ey 71 ((Kj xs x y z j).length+1) 24 (enc:=wv) 0 J J J J Mo ti130 J pV.cells pV.pos J J J a.h) λD _=>go 12 ?_;refine lp (G:=Nat) [0,5,6,7,10,12,13,14,78,79] [0,70,98,1,2,3,4,5] (λi=>[(80,.int .i64 (i:Int))]) (λi=>[(71,Nj 2 130 wv D (cnx (Kj xs x y z j) x y i))]) (λi=>i<=(Kj xs x y z j).length) (λi=>(Kj xs x y z j).length-i) 0 O1 K1 ⟨by rw [Yi3];rfl,aA⟩ ?_;rintro i hi;have s:i<(Kj xs x y z j).length->(cnx (Kj xs x y z j) x y i).getD i 0=if i=0 then 0 else cf (Kj xs x y z j) (i-1)*y:=λh=>Yal h
       have a5:=Fj (Kj xs x y z j) x y i;refine go 6<|Zb J (λo=>?_) (λo=>?_)
       .refine go 9 ⟨O2,O2,?_⟩;refine Zu (Zv 6) λF _=>go 5<|Pd (λx=>x=l) [(0,0),(1,0),(2,0),(3,0),(4,0),(5,0),(6,0),(7,0),(8,1),(9,1),(10,0),(11,3)]<|go 4 ?_;refine Qd J J (st1 5 J (Yl 71 i J J J J (Yk pV) Mo Oj J))<|go 3 ⟨O,?_⟩;refine Br J (Qj 6 5 (Dk (I _) hx (w _)) J J J K3 call199 J O3 Zq J a.h J) (λ_ _=>?_);refine Br J (Qj 6 5 (Zlv (by rw [s O];exact c6 i) (w _) (by rw [s O];exact c7 i)) J J J K3 call202 J O3 Zq J a.h J) (λ_ _=>?_);refine Qd J J (st1 5 J (Yl 71 i J J J J (Yk pV) Mo Oj J))<|r3' J (Lp 71 (enc:=wv) J J J J J J pV J a.h) (λ_ _=>?_);refine go 8 ⟨O,?_⟩;refine tt (Qj 6 5 (Dk (I _) hy (c5 _)) J J J K3 call199 J O3 Zq J a.h aA) (λ_ _=>?_);refine dt (Yl 71 (i+1) J J J J (Yk pV) Mo Oj O (by rw [cC];omega))<|tt (Lp 71 (enc:=wv) J J J J J J pV J a.h O3 (by rw [cC];omega)) (λ_ _=>?_);refine go 7 ⟨O,?_⟩;exact Ym (i+1) O1 O1 K1 ⟨by rw [<-Yob O];rfl,aA⟩
       .refine go 6 ?_;obtain rfl:i=(Kj xs x y z j).length:=O;have p:(cnx (Kj xs x y z j) x y (Kj xs x y z j).length).getD 0 0=cf (Kj xs x y z j) 0*x:=Zum O;refine Pd (λx=>x=l) [(0,0),(1,0),(2,0),(3,0),(4,0),(5,0),(6,0),(7,0),(8,0),(9,1),(10,1),(11,0),(12,3)]<|go 6 ⟨O,O,?_⟩;refine Qd J J (st1 5 J (Yl 1 (xs.length-2-j) J J J J Zk Mo Oj))<|go 2 ⟨O,?_⟩;refine Br J (Qj 6 5 (Dk (k.sz _) (by rw [<-eC];exact H) (by rw [<-eC];exact M)) J J J K3 call199 J O3 Zq J a.h J) (λ_ _=>?_);refine Br J (Qj 6 5 (Zlv (by rw [p];exact w 0) (by rw [<-eC];exact M) (by rw [p,<-eC];exact c9)) J J J K3 call202 J O3 Zq J a.h J) (λ_ _=>?_);refine go 1 ⟨O,?_⟩;refine r3' J (Lp 71 (enc:=wv) J J J J J J pV J a.h) (λ_ _=>?_);refine go 13 ⟨O,?_⟩;exact Xf (s_move 71 70 J J J J)<|Ym (j+1,_) O1 O1 ⟨by rw [show(xs.length:Int)-2-((j+1:Nat):Int)=(xs.length:Int)-2-(j:Int)-1 by omega];rfl,rfl,aA⟩ ⟨by rw [Yoc O];simp only [<-eC];rfl,by rw [eC];rfl,aA⟩
      .refine go 6 ?_;obtain rfl:j=xs.length-1:=O;refine Zt (Nq 70 J J pV)<|go 2 ?_;refine tt (Qj 7 5 (Za7 (Yn8 N)) J J J K2 call200 J O3 (Yg 70 J J J Zq) J a.h aA) λ_ _=>go 7 ?_;exact Oe t _ results242 J aA (Kc 7 Za (by unfold Ks;rw [aJ O]<;>rfl))
theorem Zso(z:Vp xs)(y:Vp ys)(F:Nat)(hg:¬Znm xs ys)(V:eok F (gA xs ys) (gB xs ys)):Cal prog 249 #[v,u] [Yn 2 wv v xs,Yn 2 wv u ys] true (G:=Value) (λr=>True) (λr=> .tuple #[r,.int .i64 0]) (λr=>[Yn 2 wv r (Mt F xs ys)]):=by
 refine Zd func249 ntmps249 λw0 sc hw x=>?_;have Z:=z.len;have S:=y.len;have a2:=Oi z.sz;have a3:=Oi y.sz;have a4:=Yp xs;have a5:=Yp ys;have Q:(max xs.length ys.length+2)*(max xs.length ys.length+2)<=27*27:=aS O O;have a0:(max xs.length ys.length+2)*(max xs.length ys.length+2)*(max (Pe xs) (Pe ys)+8)<=27*27*65544:=aS Q O;have H:(max (xs.length:Int) (ys.length:Int)+2)*(max (xs.length:Int) (ys.length:Int)+2)=(((max xs.length ys.length+2)*(max xs.length ys.length+2):Nat):Int):=by rw [gD,show(((max xs.length ys.length+2):Nat):Int)=(max (xs.length:Int) (ys.length:Int)+2) by omega]
 have j:(max (xs.length:Int) (ys.length:Int)+2)*(max (xs.length:Int) (ys.length:Int)+2)*(max (Pe xs:Int) (Pe ys:Int)+8)=(((max xs.length ys.length+2)*(max xs.length ys.length+2)*(max (Pe xs) (Pe ys)+8):Nat):Int):=by rw [H,gD ((max xs.length ys.length+2)*(max xs.length ys.length+2)),show((max (Pe xs) (Pe ys)+8:Nat):Int)=max (Pe xs:Int) (Pe ys:Int)+8 by omega]
 refine go 10 ?_;refine cl 2 [1] (Xk ‹_›) λ_ _=>go 3 ?_;refine Ns 2 [2] (Xk ‹_›) λ_ _=>go 14 ?_;refine dt (Ci J J J)<|go 4 ⟨O,?_⟩;refine jn (G:=Unit) [0,1] [0,1,2] (λ_=>[(46,.bool (decide (Znm xs ys)))]) (λ_=>[]) (λ_=>True) ?_ ?_
 .refine go 5<|Zg 29 J (λN=>?_) (λN=>?_)
  .refine go 5<|Zg 34 J (λk=>?_) (λk=>?_)
   .refine go 4 ⟨by rw [H];exact⟨O,O⟩,?_⟩;refine Ns 2 [1] (Nv (by first|exact z.sz|exact y.sz)) λ_ _=>go 1 ?_;refine Ns 2 [2] (Nv (by first|exact z.sz|exact y.sz)) λ_ _=>?_;refine Kh (Ci J J J) J J<|go 5 ⟨O,by rw [j];exact⟨O,O⟩,?_⟩;exact Ge () aA ⟨by first|(rw [j];exact aF some (vB (bC.2 ⟨λh=>⟨O,O,O⟩,λh=>by have:=h.2.2;omega⟩)))|exact aF some (vB (aE (λh=>by have W:=h.1;have Y:=h.2.1;omega)).symm),aA⟩ aA
   .refine go 13 ?_;exact Ge () aA ⟨by first|(rw [j];exact aF some (vB (bC.2 ⟨λh=>⟨O,O,O⟩,λh=>by have:=h.2.2;omega⟩)))|exact aF some (vB (aE (λh=>by have W:=h.1;have Y:=h.2.1;omega)).symm),aA⟩ aA
  .refine go 18 ?_;exact Ge () aA ⟨by first|(rw [j];exact aF some (vB (bC.2 ⟨λh=>⟨O,O,O⟩,λh=>by have:=h.2.2;omega⟩)))|exact aF some (vB (aE (λh=>by have W:=h.1;have Y:=h.2.1;omega)).symm),aA⟩ aA
 .rintro _ -;refine Zb J (λl=>?_) (λl=>?_)
  .exfalso;exact hg l
  .refine go 5 ?_;refine cl 3 [1] (Ma z) λ_ _=>go 14<|Zb J (λm=>?_) (λm=>?_)
   .exfalso;exact m rfl
   .refine go 5 ?_;refine cl 4 [2] (Ma y) λ_ _=>go 14<|Zb J (λn=>?_) (λn=>?_)
    .exfalso;exact n rfl
    .refine go 2 ?_;refine jn (G:=Value×Value) [] [0,1,2,3,4] (λq=>[(7,q.1),(9,q.2)]) (λq=>[(80,Yn 2 wv q.1 (gA xs ys)),(81,Yn 2 wv q.2 (gB xs ys))]) (λq=>True) ?_ ?_
     .refine go 9<|Zb J (λD=>?_) (λD=>?_)
      .refine go 6<|Xf (Kg 4 80 J J J)<|Xf (Kg 3 81 J J J) ?_;exact Ge (_,_) aA K2 ⟨by unfold gA;first|rw [aO O];rfl|rw [aJ O];rfl,by unfold gB;first|rw [aO O];rfl|rw [aJ O];rfl,aA⟩
      .refine go 1<|Xf (Kg 3 80 J J J)<|Xf (Kg 4 81 J J J) ?_;exact Ge (_,_) aA K2 ⟨by unfold gA;first|rw [aO O];rfl|rw [aJ O];rfl,by unfold gB;first|rw [aO O];rfl|rw [aJ O];rfl,aA⟩
     .rintro⟨va,vb⟩ -;dsimp only;refine go 2 ?_;refine lp (G:=Value×Value×List Int×List Int×Nat) [] [0,1,2,3,4] (λq=>[(7,q.1),(9,q.2.1)]) (λq=>[(80,Yn 2 wv q.1 q.2.2.1),(81,Yn 2 wv q.2.1 q.2.2.2.1)]) (λq=>(Vp q.2.2.1)/\(Vp q.2.2.2.1)/\(eok q.2.2.2.2 q.2.2.1 q.2.2.2.1)/\(eu q.2.2.2.2 q.2.2.1 q.2.2.2.1=eu F (gA xs ys) (gB xs ys))) (λq=>q.2.2.2.2) (va,vb,gA xs ys,gB xs ys,F) ⟨vp_gA z y,vp_gB z y,V,J⟩ K2 K2 ?_;rintro⟨va,vb,a,b,f⟩ ⟨d,B,t,g⟩;dsimp only at d B t g;dsimp only;refine go 8<|Zb J (λi=>?_) (λi=>?_)
      .have R:b≠[]:=λe=>by rw [e]at i;simp at i
       obtain⟨f1,rfl,w,M,I⟩:=Yh9 t R;refine go 7 ?_;refine cl 5 [80,81] (Znb d B w) λ_ _=>go 14<|Zb J (λo=>?_) (λo=>?_)
       .exfalso;exact o rfl
       .refine go 6 ?_;refine cl 6 [5] (Ma (Zb9 d w)) λ_ _=>go 13<|Zb J (λp=>?_) (λp=>?_)
        .exfalso;exact p rfl
        .refine go 9<|Xf (Kg 81 80 J J J)<|Xf (Kg 6 81 J J J) ?_;exact Ym (_,_,b,Yv (Qs a b),f1) ⟨B,Ir (Zb9 d w),M,by rw [<-I];exact g⟩ (Nat.lt_succ_self f1) K2 K2
      .obtain rfl:b=[]:=aH O;rw [Zlq]at g;have a1:=d.len;refine go 12<|Zg 95 J (λP=>?_) (λP=>?_)
       .refine go 4 ⟨O,?_⟩;refine Kh (Yl 80 (a.length-1) J J J J Zk Mo Oj) J J<|go 1 ⟨O,?_⟩;refine Ns 6 [] (Iz (d.sz _)) λ_ _=>go 4<|Zb J (λs=>?_) (λs=>?_)
        .have c:a.length≠0/\cf a (a.length-1)<0:=⟨O,(sign_neg_iff _).1 s⟩;refine go 3 ?_;refine cl 6 [] (Zn (-1) (by first|assumption|exact⟨O,O⟩)) λ_ _=>cl 7 [80] (Lz (-1) d O3 (Zb1 d.sz)) λ_ _=>go 8 ?_;exact Oe x _ results249 J aA (Kc 7 Za (by unfold Mt Ga;rw [<-g,aO c]<;>rfl))
        .refine go 10 ?_;have c:¬(a.length≠0/\cf a (a.length-1)<0):=λh=>by first|omega|exact absurd ((sign_neg_iff (cf a (a.length-1))).2 h.2) ‹_›
         exact Oe x _ results249 J aA (Kc 80 Za (by unfold Mt Ga;rw [<-g,aJ c]<;>rfl))
       .refine go 22 ?_;have c:¬(a.length≠0/\cf a (a.length-1)<0):=λh=>by first|omega|exact absurd ((sign_neg_iff (cf a (a.length-1))).2 h.2) ‹_›
        exact Oe x _ results249 J aA (Kc 80 Za (by unfold Mt Ga;rw [<-g,aJ c]<;>rfl))
theorem Zfv{l:List Int}(f:∀x∈l,My x)(g:l.length<=1000:=by decide):Cal prog 170 #[v] [Yn 1 Xi v l] true (G:=Value) (λr=>True) (λr=> .tuple #[r,.int .i64 (if 25<(tzl l).length then 7 else 0)]) (λr=>[Yn 2 wv r (if 25<(tzl l).length then []else tzl l)]):=by
 refine Zd func170 ntmps170 λp n h b=>?_;have e:=Yld f;refine go 20<|Zt (Hs 70 2 130 wv) ?_;refine lp (G:=Nat×Value) [7,8] [0,1] (λq=>[(9,.int .i64 (q.1:Int)),(4,q.2)]) (λq=>[(70,Nj 2 130 wv q.2 (l.take q.1))]) (λq=>q.1<=l.length) (λq=>l.length-q.1) (0,.slice none 0 0) O1 K2 K1 ?_;rintro⟨k,o⟩ i;dsimp only at i;dsimp only;have j:(l.take k).length=k:=by rw [dS];omega
 refine go 6<|Zb J (λc=>?_) (λc=>?_)
 .refine go 14 ⟨O2,O2,?_⟩;refine cl 1 [] (Zn _ (f _ (Zl O))) λ_ _=>?_;refine tt (Pv [(0,_)] 2 (enc:=wv) [l.getD k 0] J J K2 Mo ti130 J J J J J pV.cells J J h.h) (λv _=>?_);refine tt (Fv 70 2 24 J J J J J J O3 J (Yk pV) Mo ti130 J pV J J J O10 O3 J h.h) (λm _=>?_);refine go 8 ⟨O,?_⟩;exact Ym (k+1,_) O1 O1 K2 ⟨by rw [Pw 0 _ _ O];rfl,aA⟩
 .refine go 6 ?_;obtain rfl:k=l.length:=O;rw [cF];refine Zt (Nq 70 J J pV)<|go 2 ?_;refine cl 3 [70] (Zdj e) λ_ _=>go 11<|Zb J (λd=>?_) (λd=>?_)
  .refine go 8 ?_;have a:25<(tzl l).length:=O;exact Oe b _ results170 (by rw [aO a]) aA (Lh (aO a) Za)
  .refine go 10 ?_;have a:¬25<(tzl l).length:=O;exact Oe b _ results170 (by rw [aJ a]<;>rfl) aA (Kc 3 Za (by rw [aJ a]<;>rfl))
end Go.Sky

