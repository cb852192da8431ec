/- Rules, arithmetic and contracts: part 10. No conditions but those that each theorem names. -/
import Derived.Test.YteikicbnfbgpnaaGreatDc08
set_option linter.all false
namespace Go.Sky
open Go.Proofs.Tryz
open Go.Proofs
set_option synthInstance.maxHeartbeats 0
set_option synthInstance.maxSize 100000
set_option maxRecDepth 20000
set_option maxHeartbeats 1000000
set_option linter.unusedSimpArgs false
def Zbk(b:Bool)(s:ByteArray):Xs prog 178 #[.agg #[.bool b,.string s]] [] (.bool (okW b s)):=by
 refine Zh func178 ntmps178 λh g f c=>go 2 ?_;refine Yg (Yh 1) λb _=>go 8 ?_;refine dt (Zxi J J J J)<|go 2 ?_;refine Zd J (λa=>?_) (λa=>?_)
 .refine go 10 ?_;exact Xd c () results178 (by unfold okW;rw [aG a]) aA Za
 .refine go 6 ?_;refine dt (Ya5 (i:=0) J J J uT9 J)<|go 2 ?_;refine Yt (d:=13) J (λe=>?_) (λe=>?_)
  .refine go 9 ?_;exact Xd c () results178 (by unfold okW;rw [aD a];simp_all<;>omega) aA Za
  .refine go 9 ?_;exact Xd c () results178 (by unfold okW;rw [aD a];simp_all<;>omega) aA Za
def Ko(x:Int)(a:bl x.natAbs<=65536):Cal prog 178 #[wv x] [] false (G:=Unit) (λ_=>True) (λ_=> .bool true) (λ_=>[]):=Zcx a▸Zbk _ _
def Znf(b:Bool)(s:ByteArray)(c:Bool)(t:ByteArray):Xs prog 228 #[.agg #[.bool b,.string s],.agg #[.bool c,.string t]] [] (.bool (okW b s && okW c t)):=by
 refine Zh func228 ntmps228 λi h g a=>go 2 ?_;refine Yg (Yh 1) λb _=>Yg (Yh 2) λf _=>go 6 ?_;refine cl 2 [] (Zbk _ _) λ_ _=>go 1 ?_;refine Zgl (d:=7) J (λe=>?_) (λe=>?_)
 .refine go 1 ?_;refine Gm 2 [] (Zbk _ _) λ_ _=>go 5 ?_;exact Xd a () results228 (by simp_all) aA Za
 .refine go 7 ?_;exact Xd a () results228 (by simp_all) aA Za
def Ip(x y:Int)(a:bl x.natAbs<=65536)(b:bl y.natAbs<=65536):Xs prog 228 #[wv x,wv y] [] (.bool true):=by have h:=Znf (decide (x<0)) (Qv x.natAbs) (decide (y<0)) (Qv y.natAbs);rw [Zcx a,Zcx b]at h;exact h
def Hb(x:Int)(e:bl x.natAbs<=65536):Xs prog 237 #[wv x] [] (.int .i64 x.sign):=by refine Zh func237 ntmps237 λh f d a=>go 2 ?_;refine Yg (Yh 1) λb _=>go 7 ?_;refine cl 1 [] (Ko _ ‹_›) λ_ _=>go 9 ?_;refine cl 2 [] (Qq _ _ (Xh _)) λg c=>cl 2 [2] (Zlg _ _ _ ‹_›) λ_ _=>go 4 ?_;exact Xd a () results237 J aA Za
def Zj7(x:Int)(d:bl x.natAbs<=65536):Xs prog 240 #[wv x] [] (.int .i64 (bl x.natAbs:Int)):=by refine Zh func240 ntmps240 λf e c a=>go 2 ?_;refine Yg (Yh 1) λb _=>go 7 ?_;refine cl 1 [] (Ko _ ‹_›) λ_ _=>go 10 ?_;refine cl 2 [] (Zdm _) λv _=>cl 2 [2] (Zlh _ _) λ_ _=>go 4 ?_;exact Xd a () results240 J aA Za
def Zr7(x y:Int)(m:bl x.natAbs<=65536)(n:bl y.natAbs<=65536):Xs prog 180 #[wv x,wv y] [] (Zci (x+y)):=by refine Zh func180 ntmps180 λp o l a=>?_;have j:=Kz x y;refine go 2 ?_;refine Yg (Yh 1) λb _=>Yg (Yh 2) λe _=>Yg (Yb 3) λf _=>go 8 ?_;refine cl 3 [] (Ip _ _ ‹_› ‹_›) λ_ _=>go 7 ?_;refine Qg (λ_=>False) [(0,0),(2,0),(1,1),(3,1),(4,1),(5,1),(6,0),(7,0),(8,3),(9,3)]<|go 2 ?_;refine Yn (Zk 4 [] (Qq _ _ (Xh _))) λg k=>Yn (Zk 5 [] (Qq _ _ (Xh _))) λh c=>Yn (Zk 6 [4,5] (Zga _ _ _ _ _ _ ‹_› ‹_›)) λi d=>Yn (Zk 6 [6] (Ht _ _ _ ‹_›)) λ_ _=>go 7 ?_;exact Mi a () results180 J aA Za
def Yel(x y:Int)(p:bl x.natAbs<=65536)(q:bl y.natAbs<=65536):Xs prog 239 #[wv x,wv y] [] (Zci (x-y)):=by refine Zh func239 ntmps239 λs r o a=>?_;have m:=Bn x y;have l:=Zmr y;refine go 2 ?_;refine Yg (Yh 1) λb _=>Yg (Yh 2) λf _=>Yg (Yb 3) λh _=>go 8 ?_;refine cl 3 [] (Ip _ _ ‹_› ‹_›) λ_ _=>go 7 ?_;refine Qg (λ_=>False) [(0,0),(2,0),(1,1),(3,1),(4,1),(5,1),(6,1),(7,0),(8,0),(9,3),(10,3)]<|go 2 ?_;refine Yn (Zk 4 [] (Qq _ _ (Xh _))) λg n=>Yn (Zk 5 [] (Qq _ _ (Xh _))) λi c=>Yn (Zk 6 [5] (Zp6 _ _ _ ‹_›)) λj d=>Yn (Zk 7 [4,6] (Zga _ _ _ _ _ _ ‹_› ‹_›)) λk e=>Yn (Zk 7 [7] (Ht _ _ _ ‹_› (by rw [<-fH];omega))) λ_ _=>go 7 ?_;exact Mi a () results239 (by rw [fH]<;>rfl) aA Za
def Zr4(x y:Int)(m:bl x.natAbs<=65536)(n:bl y.natAbs<=65536):Xs prog 234 #[wv x,wv y] [] (Zci (x*y)):=by refine Zh func234 ntmps234 λp o l a=>?_;have j:=Yo x y;refine go 2 ?_;refine Yg (Yh 1) λb _=>Yg (Yh 2) λe _=>Yg (Yb 3) λf _=>go 8 ?_;refine cl 3 [] (Ip _ _ ‹_› ‹_›) λ_ _=>go 7 ?_;refine Qg (λ_=>False) [(0,0),(2,0),(1,1),(3,1),(4,1),(5,1),(6,0),(7,0),(8,3),(9,3)]<|go 2 ?_;refine Yn (Zk 4 [] (Qq _ _ (Xh _))) λg k=>Yn (Zk 5 [] (Qq _ _ (Xh _))) λh c=>Yn (Zk 6 [4,5] (Zd0 _ _ _ _ _ _ ‹_› ‹_›)) λi d=>Yn (Zk 6 [6] (Ht _ _ _ ‹_›)) λ_ _=>go 7 ?_;exact Mi a () results234 J aA Za
def Zr6(x y:Int)(k:bl x.natAbs<=65536)(l:bl y.natAbs<=65536):Xs prog 188 #[wv x,wv y] [] (Zci (Int.gcd x y:Int)):=by refine Zh func188 ntmps188 λn m j c=>?_;have h:=Zrs x.natAbs y.natAbs;refine go 2 ?_;refine Yg (Yh 1) λb _=>Yg (Yh 2) λd _=>Yg (Yb 3) λe _=>go 8 ?_;refine cl 3 [] (Ip _ _ ‹_› ‹_›) λ_ _=>go 7 ?_;refine Qg (λ_=>False) [(0,0),(1,0),(3,0),(4,0),(2,1),(5,1),(6,1),(7,0),(8,1),(9,0),(10,0),(11,3),(12,3)]<|go 4 ?_;refine Yn (Zk 4 [] (Zdm _)) λv _=>Yn (Zk 5 [] (Zdm _)) λf _=>Yn (Zk 6 [4,5] (Zqa _ _ _ _)) λg _=>?_;refine Xe J J (Xt (Qy (ivs:=[(0,_),(1,_)]) J K4 (λa w hs=>Ia ((Yr J) a w hs) ((Oe (i:=6) J Zq) a w hs))))<|Yn (Zk 6 [6] (Ht false _ (Int.gcd x y:Int) (by simp [sg]) (by show bl (Nat.gcd x.natAbs y.natAbs)<=_;omega))) λ_ _=>go 7 ?_;exact Mi c () results188 J aA Za
def Bu(x y:Int)(hx:bl x.natAbs<=65536)(hy:bl y.natAbs<=65536)(a:y≠0):Xs prog 179 #[wv x,wv y] [] (.tuple #[wv (Zbc (x/y)),wv (Zbc (x%y)),.int .i64 0]):=by
 refine Zh func179 ntmps179 λw0 sc hw Q=>?_;have hb:=Zj6 x y;have i9:=Zrr x y a;refine go 2 ?_;refine Yg (Yh 1) λb _=>Yg (Yh 2) λh3 _=>Yg (Yb 3) λh4 _=>Yg (Yb 4) λh5 _=>go 8 ?_;refine cl 4 [] (Ip _ _ ‹_› ‹_›) λ_ _=>go 11 ?_;refine dt (Zxi J J J J)<|go 2 ?_;refine Zd J (λc=>?_) (λc=>?_)
 .rw [Fw]at c;exfalso;exact a (by have:=(Ok (by omega:2<=256) y.natAbs).1 c;omega)
 .refine go 2 ?_;refine jn (G:=Bool×Value×Value×Nat×Nat) [4,5] [0,1,2,3,4] (λq=>[(7,.pointer (some ⟨q.2.2.2.1,0,none⟩)),(8,.pointer (some ⟨q.2.2.2.2,0,none⟩))]) (λq=>[(84,Ey q.2.1 (x/y).natAbs),(85,Ey q.2.2.1 (x%y).natAbs),(86,box q.2.2.2.1 219 #[.bool q.1,q.2.1]),(87,box q.2.2.2.2 219 #[.bool false,q.2.2.1])]) (λq=>sg q.1 (x/y)) ?_ ?_
  .refine Px [1,2] [11]<|Zj (n:=10) [(0,0),(2,0)]<|go 3 ?_;refine Zaj (n:=9) 1 8 9 ?_ ?_ ?_
   .refine Pz (Zk 81 [] (Qq _ _ (Xh _))) λg hg=>?_;refine Zaj (n:=8) 3 8 9 ?_ ?_ ?_
    .refine Pz (Zk 82 [] (Qq _ _ (Xh _))) λi1 e5=>?_;refine Zaj (n:=7) 4 8 9 ?_ ?_ ?_
     .refine Pz (Zk 84 [81,82] (Nl _ _ _ _ _ _ ‹_› ‹_› a)) λi2 e6=>?_;refine Zj (n:=4) [(5,0),(6,0),(7,0)]<|go 4 ?_;refine Qj (n:=3) 8 9 ?_ ?_
      .refine Pz (Xg 86) λh6 ho=>?_;refine Zj (n:=0) [(9,1),(10,1),(11,3)]<|Yn (Xg 87) λh7 j0=>go 3 ?_;exact Zn<|Po (_,_,_,_,_) ‹_› K2 K4
      .refine Pz (Xg 87) λh8 j1=>?_;refine Zj (n:=0) [(8,1),(10,1),(11,3)]<|Yn (Xg 86) λh9 j2=>go 3 ?_;exact Zn<|Po (_,_,_,_,_) ‹_› K2 K4
     .refine Pz (Xg 86) λi0 j3=>?_;refine Qj (n:=6) 4 9 ?_ ?_
      .refine Pz (Zk 84 [81,82] (Nl _ _ _ _ _ _ ‹_› ‹_› a)) λi3 e7=>?_;refine Zj (n:=0) [(5,0),(6,0),(7,0),(9,1),(10,1),(11,3)]<|go 3 ?_;refine Yn (Xg 87) λR j4=>go 3 ?_;exact Zn<|Po (_,_,_,_,_) ‹_› K2 K4
      .refine Pz (Xg 87) λS j5=>?_;refine Zj (n:=0) [(4,1),(5,0),(6,0),(7,0),(10,1),(11,3)]<|Yn (Zk 84 [81,82] (Nl _ _ _ _ _ _ ‹_› ‹_› a)) λi4 e8=>go 6 ?_;exact Zn<|Po (_,_,_,_,_) ‹_› K2 K4
     .refine Pz (Xg 87) λV j6=>?_;refine Qj (n:=6) 4 8 ?_ ?_
      .refine Pz (Zk 84 [81,82] (Nl _ _ _ _ _ _ ‹_› ‹_› a)) λi5 e9=>?_;refine Zj (n:=0) [(5,0),(6,0),(7,0),(8,1),(10,1),(11,3)]<|go 3 ?_;refine Yn (Xg 86) λW j7=>go 3 ?_;exact Zn<|Po (_,_,_,_,_) ‹_› K2 K4
      .refine Pz (Xg 86) λY f3=>?_;refine Zj (n:=0) [(4,1),(5,0),(6,0),(7,0),(10,1),(11,3)]<|Yn (Zk 84 [81,82] (Nl _ _ _ _ _ _ ‹_› ‹_› a)) λi6 f0=>go 6 ?_;exact Zn<|Po (_,_,_,_,_) ‹_› K2 K4
    .refine Pz (Xg 86) λZ f4=>?_;refine Qj (n:=7) 3 9 ?_ ?_
     .refine Pz (Zk 82 [] (Qq _ _ (Xh _))) λi7 f1=>?_;refine Qj (n:=6) 4 9 ?_ ?_
      .refine Pz (Zk 84 [81,82] (Nl _ _ _ _ _ _ ‹_› ‹_› a)) λi8 f2=>?_;refine Zj (n:=0) [(5,0),(6,0),(7,0),(9,1),(10,1),(11,3)]<|go 3 ?_;refine Yn (Xg 87) λa0 f5=>go 3 ?_;exact Zn<|Po (_,_,_,_,_) ‹_› K2 K4
      .refine Pz (Xg 87) λa1 f6=>?_;refine Zj (n:=0) [(4,1),(5,0),(6,0),(7,0),(10,1),(11,3)]<|Yn (Zk 84 [81,82] (Nl _ _ _ _ _ _ ‹_› ‹_› a)) λb9 d=>go 6 ?_;exact Zn<|Po (_,_,_,_,_) ‹_› K2 K4
     .refine Pz (Xg 87) λa2 f7=>?_;refine Zj (n:=0) [(3,1),(4,1),(5,0),(6,0),(7,0),(10,1),(11,3)]<|Yn (Zk 82 [] (Qq _ _ (Xh _))) λc0 e=>Yn (Zk 84 [81,82] (Nl _ _ _ _ _ _ ‹_› ‹_› a)) λc1 f=>go 6 ?_;exact Zn<|Po (_,_,_,_,_) ‹_› K2 K4
    .refine Pz (Xg 87) λa3 f8=>?_;refine Qj (n:=7) 3 8 ?_ ?_
     .refine Pz (Zk 82 [] (Qq _ _ (Xh _))) λc2 h=>?_;refine Qj (n:=6) 4 8 ?_ ?_
      .refine Pz (Zk 84 [81,82] (Nl _ _ _ _ _ _ ‹_› ‹_› a)) λc3 i=>?_;refine Zj (n:=0) [(5,0),(6,0),(7,0),(8,1),(10,1),(11,3)]<|go 3 ?_;refine Yn (Xg 86) λa4 f9=>go 3 ?_;exact Zn<|Po (_,_,_,_,_) ‹_› K2 K4
      .refine Pz (Xg 86) λa5 g0=>?_;refine Zj (n:=0) [(4,1),(5,0),(6,0),(7,0),(10,1),(11,3)]<|Yn (Zk 84 [81,82] (Nl _ _ _ _ _ _ ‹_› ‹_› a)) λc4 j=>go 6 ?_;exact Zn<|Po (_,_,_,_,_) ‹_› K2 K4
     .refine Pz (Xg 86) λa6 g1=>?_;refine Zj (n:=0) [(3,1),(4,1),(5,0),(6,0),(7,0),(10,1),(11,3)]<|Yn (Zk 82 [] (Qq _ _ (Xh _))) λc5 k=>Yn (Zk 84 [81,82] (Nl _ _ _ _ _ _ ‹_› ‹_› a)) λc6 l=>go 6 ?_;exact Zn<|Po (_,_,_,_,_) ‹_› K2 K4
   .refine Pz (Xg 86) λa7 g2=>?_;refine Qj (n:=8) 1 9 ?_ ?_
    .refine Pz (Zk 81 [] (Qq _ _ (Xh _))) λc7 m=>?_;refine Qj (n:=7) 3 9 ?_ ?_
     .refine Pz (Zk 82 [] (Qq _ _ (Xh _))) λc8 o=>?_;refine Qj (n:=6) 4 9 ?_ ?_
      .refine Pz (Zk 84 [81,82] (Nl _ _ _ _ _ _ ‹_› ‹_› a)) λc9 p=>?_;refine Zj (n:=0) [(5,0),(6,0),(7,0),(9,1),(10,1),(11,3)]<|go 3 ?_;refine Yn (Xg 87) λa8 g3=>go 3 ?_;exact Zn<|Po (_,_,_,_,_) ‹_› K2 K4
      .refine Pz (Xg 87) λa9 g4=>?_;refine Zj (n:=0) [(4,1),(5,0),(6,0),(7,0),(10,1),(11,3)]<|Yn (Zk 84 [81,82] (Nl _ _ _ _ _ _ ‹_› ‹_› a)) λd0 r=>go 6 ?_;exact Zn<|Po (_,_,_,_,_) ‹_› K2 K4
     .refine Pz (Xg 87) λb0 g5=>?_;refine Zj (n:=0) [(3,1),(4,1),(5,0),(6,0),(7,0),(10,1),(11,3)]<|Yn (Zk 82 [] (Qq _ _ (Xh _))) λd1 s=>Yn (Zk 84 [81,82] (Nl _ _ _ _ _ _ ‹_› ‹_› a)) λd2 t=>go 6 ?_;exact Zn<|Po (_,_,_,_,_) ‹_› K2 K4
    .refine Pz (Xg 87) λb1 g6=>?_;refine Zj (n:=0) [(1,1),(3,1),(4,1),(5,0),(6,0),(7,0),(10,1),(11,3)]<|Yn (Zk 81 [] (Qq _ _ (Xh _))) λd3 u=>Yn (Zk 82 [] (Qq _ _ (Xh _))) λd4 v=>Yn (Zk 84 [81,82] (Nl _ _ _ _ _ _ ‹_› ‹_› a)) λd5 w=>go 6 ?_;exact Zn<|Po (_,_,_,_,_) ‹_› K2 K4
   .refine Pz (Xg 87) λb2 g7=>?_;refine Qj (n:=8) 1 8 ?_ ?_
    .refine Pz (Zk 81 [] (Qq _ _ (Xh _))) λd6 z=>?_;refine Qj (n:=7) 3 8 ?_ ?_
     .refine Pz (Zk 82 [] (Qq _ _ (Xh _))) λd7 B=>?_;refine Qj (n:=6) 4 8 ?_ ?_
      .refine Pz (Zk 84 [81,82] (Nl _ _ _ _ _ _ ‹_› ‹_› a)) λd8 D=>?_;refine Zj (n:=0) [(5,0),(6,0),(7,0),(8,1),(10,1),(11,3)]<|go 3 ?_;refine Yn (Xg 86) λb3 g9=>go 3 ?_;exact Zn<|Po (_,_,_,_,_) ‹_› K2 K4
      .refine Pz (Xg 86) λb4 h0=>?_;refine Zj (n:=0) [(4,1),(5,0),(6,0),(7,0),(10,1),(11,3)]<|Yn (Zk 84 [81,82] (Nl _ _ _ _ _ _ ‹_› ‹_› a)) λd9 F=>go 6 ?_;exact Zn<|Po (_,_,_,_,_) ‹_› K2 K4
     .refine Pz (Xg 86) λb5 h1=>?_;refine Zj (n:=0) [(3,1),(4,1),(5,0),(6,0),(7,0),(10,1),(11,3)]<|Yn (Zk 82 [] (Qq _ _ (Xh _))) λe0 H=>Yn (Zk 84 [81,82] (Nl _ _ _ _ _ _ ‹_› ‹_› a)) λe1 I=>go 6 ?_;exact Zn<|Po (_,_,_,_,_) ‹_› K2 K4
    .refine Pz (Xg 86) λb6 h2=>?_;refine Zj (n:=0) [(1,1),(3,1),(4,1),(5,0),(6,0),(7,0),(10,1),(11,3)]<|Yn (Zk 81 [] (Qq _ _ (Xh _))) λe2 M=>Yn (Zk 82 [] (Qq _ _ (Xh _))) λe3 N=>Yn (Zk 84 [81,82] (Nl _ _ _ _ _ _ ‹_› ‹_› a)) λe4 P=>go 6 ?_;exact Zn<|Po (_,_,_,_,_) ‹_› K2 K4
  .rintro⟨qb,qv,rv,b7,b8⟩ hq;dsimp only at hq;dsimp only;refine go 3 ?_;refine cl 4 [84] (Ht _ _ _ ‹_›) λ_ _=>go 9 ?_;refine cl 4 [85] (Ht _ _ _ (Ymd x a)) λ_ _=>go 7 ?_;refine Px [4] [3,4]<|Zj (n:=0) [(1,0),(0,1),(2,1),(3,3),(4,3)]<|go 6 ?_;refine Zn<|go 2 ?_;exact xe3 Q () results179 J aA Za
def Zch(s t:Bool)(v w:Value)(x y:Int)(hs:sg s x)(p:sg t y)(m:y≠0)(hx:bl x.natAbs<=1000000000:=by omega)(hy:bl y.natAbs<=1000000000:=by omega):Xs prog 165 #[.agg #[.bool s,v],.agg #[.bool t,w]] [Ey v x.natAbs,Ey w y.natAbs] (Zbu x y):=by
 refine Zh func165 ntmps165 λw0 sc Z c=>?_;have W:=Zrs x.natAbs y.natAbs;have f:Lv x y≠0:=Ynj m;have j:sg t (Lv x y):=Ymb p m;have h:=Zcz x y;have R:=Zj6 x (Lv x y);have S:=Zj6 y (Lv x y);refine go 2 ?_;refine Yg (Yh 3) λb _=>Yg (Yh 4) λz _=>Yg (Yb 5) λB _=>go 4 ?_;refine Li (λ_=>False) [9]<|Zj (n:=4) [(0,0),(1,0),(2,0),(3,0),(4,0),(5,0)]<|go 7 ?_;refine Qj (n:=3) 6 8 ?_ ?_
 .refine Pz (Zk 81 [1,2] (Zqa _ _ _ _)) λv _=>?_;refine Zj (n:=0) [(7,0),(8,1),(9,3)]<|Xe J J (Xt (Qy (ivs:=[(0,_),(1,_)]) J K4 (λa w hs=>Ia ((Yr J) a w hs) ((Oe (i:=81) J Zq) a w hs))))<|Yn (Yb 82) λD _=>go 2 ?_;refine Zn<|go 2 ?_;refine Zg (Nw 81 (Zz5 _ x y) J J)<|go 3 ?_;refine cl 6 [1,81] (Nl _ _ _ _ x (Lv x y) hs j f O (by rw [h];omega)) λg Y=>go 10 ?_;refine cl 8 [2,81] (Nl _ _ _ _ y (Lv x y) p j f O (by rw [h];omega)) λN q=>go 9 ?_;refine cl 9 [6] (Ht _ _ _ ‹_›) λ_ _=>go 3 ?_;refine Yg (Yb 10) λF _=>go 7 ?_;refine cl 10 [8] (Ht _ _ _ ‹_›) λ_ _=>go 3 ?_;refine Yg (Yb 11) λG _=>go 10 ?_;refine Yt (d:=43) J (λo=>?_) (λo=>?_)
  .refine go 8 ?_;refine dt (Qy (ivs:=[]) J aA (λa w hs=>Ykz))<|go 6 ?_;exact Mi c () results165 (Zbt (by unfold Ic;first|exact .inl (Zag ‹_›)|exact .inr (Zag ‹_›))) aA Za
  .refine go 5 ?_;refine Zd J (λl=>?_) (λl=>?_)
   .refine go 2 ?_;refine dt (Qy (ivs:=[]) J aA (λa w hs=>Ykz))<|go 6 ?_;exact Mi c () results165 (Zbt (by unfold Ic;first|exact .inl (Zag ‹_›)|exact .inr (Zag ‹_›))) aA Za
   .refine go 6 ?_;refine dt (Qy (ivs:=[(0,_),(1,_)]) J K4 (λa w hs=>Zmu))<|go 5 ?_;exact Mi c () results165 (Zs8 (cH ‹_›) (cH ‹_›)) aA Za
 .refine Pz (Yb 82) λH _=>?_;refine Zj (n:=0) [(6,1),(7,0),(9,3)]<|Yn (Zk 81 [1,2] (Zqa _ _ _ _)) λV _=>?_;refine Xe J J (Xt (Qy (ivs:=[(0,_),(1,_)]) J K4 (λa w hs=>Ia ((Yr J) a w hs) ((Oe (i:=81) J Zq) a w hs))))<|go 2 ?_;refine Zn<|go 2 ?_;refine Zg (Nw 81 (Zz5 _ x y) J J)<|go 3 ?_;refine cl 12 [1,81] (Nl _ _ _ _ x (Lv x y) hs j f O (by rw [h];omega)) λP r=>go 10 ?_;refine cl 14 [2,81] (Nl _ _ _ _ y (Lv x y) p j f O (by rw [h];omega)) λQ u=>go 9 ?_;refine cl 15 [12] (Ht _ _ _ ‹_›) λ_ _=>go 3 ?_;refine Yg (Yb 16) λI _=>go 7 ?_;refine cl 16 [14] (Ht _ _ _ ‹_›) λ_ _=>go 3 ?_;refine Yg (Yb 17) λM _=>go 10 ?_;refine Yt (d:=43) J (λk=>?_) (λk=>?_)
  .refine go 8 ?_;refine dt (Qy (ivs:=[]) J aA (λa w hs=>Ykz))<|go 6 ?_;exact Mi c () results165 (Zbt (by unfold Ic;first|exact .inl (Zag ‹_›)|exact .inr (Zag ‹_›))) aA Za
  .refine go 5 ?_;refine Zd J (λe=>?_) (λe=>?_)
   .refine go 2 ?_;refine dt (Qy (ivs:=[]) J aA (λa w hs=>Ykz))<|go 6 ?_;exact Mi c () results165 (Zbt (by unfold Ic;first|exact .inl (Zag ‹_›)|exact .inr (Zag ‹_›))) aA Za
   .refine go 6 ?_;refine dt (Qy (ivs:=[(0,_),(1,_)]) J K4 (λa w hs=>Zmu))<|go 5 ?_;exact Mi c () results165 (Zs8 (cH ‹_›) (cH ‹_›)) aA Za
def Zev(x y:Int)(l:bl x.natAbs<=65536)(m:bl y.natAbs<=65536)(c:y≠0:=by omega):Xs prog 221 #[wv x,wv y] [] (Zbu x y):=by
 refine Zh func221 ntmps221 λo n k d=>go 2 ?_;refine Yg (Yh 1) λb _=>Yg (Yh 2) λf _=>Yg (Yb 3) λh _=>go 8 ?_;refine cl 3 [] (Ip _ _ ‹_› ‹_›) λ_ _=>go 11 ?_;refine dt (Zxi J J J J)<|go 2 ?_;refine Zd J (λa=>?_) (λa=>?_)
 .rw [Fw]at a;exfalso;exact c (by have:=(Ok (by omega:2<=256) y.natAbs).1 a;omega)
 .refine go 3 ?_;refine Qg (λ_=>False) [(0,0),(2,0),(1,1),(3,1),(4,1),(5,0),(6,0),(7,3),(8,3)]<|go 2 ?_;refine Yn (Zk 4 [] (Qq _ _ (Xh _))) λg j=>Yn (Zk 5 [] (Qq _ _ (Xh _))) λi e=>Yn (Zk 5 [4,5] (Zch _ _ _ _ _ _ ‹_› ‹_› c)) λ_ _=>go 7 ?_;exact Mi d () results221 J aA Za
def Ziy(b:Bool)(s:ByteArray)(c:Bool)(t:ByteArray):Xs prog 216 #[.agg #[.bool b,.string s,.bool c,.string t]] [] (.bool (okR b s c t)):=by
 refine Zh func216 ntmps216 λm l k h=>go 2 ?_;refine Yg (Yh 1) λb _=>go 9 ?_;refine cl 1 [] (Znf _ _ _ _) λ_ _=>go 1 ?_;refine Zgl (d:=8) J (λi=>?_) (λi=>?_)
 .have j:okW c t=true:=by simp_all
  have e:=Zp3 j;obtain⟨a,f,g⟩:=Classical.choose_spec e;generalize Classical.choose e=z at a f g ⊢;subst f;subst g
  try clear e
  refine go 2 ?_;refine Gm 1 [] (Hb z a) λ_ _=>go 6 ?_;exact Xd h () results216 (by first|rw [Ztr (by simp_all) a]|(unfold okR;simp_all)) aA Za
 .refine go 9 ?_;exact Xd h () results216 (by first|rw [Ztr (by simp_all) a]|(unfold okR;simp_all)) aA Za
def Lo(x y:Int)(b:bl x.natAbs<=65536)(c:bl y.natAbs<=65536)(a:0<y):Cal prog 216 #[rX x y] [] false (G:=Unit) (λ_=>True) (λ_=> .bool true) (λ_=>[]):=okR_wv b c a▸Ziy _ _ _ _
def Zz(x:Int)(f:Nx x:=by exact⟨O,O⟩):Xs prog 131 #[.int .i64 x] [] (wv x):=by
 refine Zh func131 ntmps131 λn m h e=>?_;have j:=f.1;have k:=f.2;have d:x.natAbs<U:=by simp only [U];omega
 have l:bl x.natAbs<=64:=(Qm 64 _).2 (by rw [<-Ylb];exact d);refine go 2 ?_;refine Yg (Yb 1) λb _=>go 5 ?_;refine dt (Yog (r:=x%18446744073709551616) J J uT3 Zat J)<|go 3 ?_;refine jn (G:=Unit) [0,2] [0,1] (λ_=>[(3,.int .u64 ((x.natAbs:Nat):Int))]) (λ_=>[]) (λ_=>True) ?_ ?_
 .refine go 6 ?_;refine Zd J (λc=>?_) (λc=>?_)
  .refine go 2 ?_;refine dt (Yes (r:=x.natAbs) J J O)<|go 2 ?_;exact Po () aA ⟨by first|rfl|(rw [show x%18446744073709551616=((x.natAbs:Nat):Int) by omega];rfl),aA⟩ aA
  .refine go 1 ?_;exact Po () aA ⟨by first|rfl|(rw [show x%18446744073709551616=((x.natAbs:Nat):Int) by omega];rfl),aA⟩ aA
 .rintro _ -;refine go 5 ?_;refine tt (Xw (i:=2) (ivs:=[(0,_)]) (enc:=Mv) [x.natAbs] J J K2 Oj ti232 J J J J J pU.cells J J h.h) λv _=>cl 2 [2] (Oo _ _) λ_ _=>?_;refine Xy (Zay 2 J J pU)<|Xy (Zej 2 (Zhf d) J J)<|dt (Qy (ivs:=[(0,_),(1,_)]) J K4 (λa w hs=>Ia ((Yr J) a w hs) ((Oe (i:=2) J (Yd pU)) a w hs)))<|cl 2 [2] (Ht _ _ x (Xh _)) λ_ _=>go 3 ?_;refine Yg (Yb 3) λg _=>go 11 ?_;exact Xd e () results131 (by rw [Iw O]<;>rfl) aA Za
def Zdx(v:Value)(xs:List Int)(hs:Sz 65536 xs):Cal prog 189 #[v] [Yw 2 wv v xs] true (G:=Unit) (λ_=>True) (λ_=>Kr v (tzl xs).length) (λ_=>[Yw 2 wv (Kr v (tzl xs).length) (tzl xs)]):=by
 refine Zh func189 ntmps189 λp o n c=>?_;refine Pv (Zw7 (i:=1) J Zq) (λa=>?_);refine Pv (Le (i:=1) J Zq) λm=>go 7 ?_;refine lp (G:=Nat) [] [0] (λk=>[(0,Kr v k)]) (λk=>[(1,Yw 2 wv (Kr v k) (xs.take k))]) (λk=>(k<=xs.length)/\(tzl (xs.take k)=tzl xs)) (λk=>k) xs.length ⟨aH _,by rw [bL]⟩ ⟨by rw [a];rfl,aA⟩ ⟨by rw [a,bL];rfl,aA⟩ ?_;rintro k ⟨h,j⟩;have f:(xs.take k).length=k:=by rw [aR];omega
 refine go 7 ?_;refine Yt (d:=6) J (λl=>?_) (λl=>?_)
 .refine go 4 ⟨O,?_⟩;refine Fa (Zv (ii:=1) (i:=k-1) J J J J Zq Mn Kh) J J<|go 1 ⟨O,?_⟩;refine Gm 1 [] (Hb _ ((hs.take _).getD _)) λ_ _=>go 4 ?_;refine Zd J (λg=>?_) (λg=>?_)
  .have b:=Zsa h O (Zkj (k:=k) O (eP.1 ‹_›):cf xs (k-1)=0);refine go 8 ⟨O,?_⟩;refine dt (Ya2 (ii:=1) (i:=k-1) J J J J Zq Mn Kh)<|go 3 ?_;exact Zr (Yf1 1 1 (k-1) J J)<|Yp (k-1) ⟨O1,by rw [<-j,<-b]⟩ O1 ⟨by rw [<-Fn v k (k-1)];rfl,aA⟩ ⟨by rw [Fn,iG,dG O];rfl,aA⟩
  .refine go 12 ?_;have e:tzl xs=xs.take k:=by rw [<-j];exact Zfm h (by first|(left;omega)|(right;exact Zfp (k:=k) O ‹_›))
   exact Xd c () results189 (by rw [e,f]) aA (Pt 1 Za (by rw [e,f]))
 .refine go 24 ?_;have e:tzl xs=xs.take k:=by rw [<-j];exact Zfm h (by first|(left;omega)|(right;exact Zfp (k:=k) O ‹_›))
  exact Xd c () results189 (by rw [e,f]) aA (Pt 1 Za (by rw [e,f]))
def Zwl(v:Value)(r:List (Bool×ByteArray)):Xs prog 190 #[v] [Yw 2 Zxc v r] (.bool (okP r)):=by
 refine Zh func190 ntmps190 λu t s a=>?_;refine Pv (Le (i:=1) J Zq) λg=>go 14 ?_;refine lp (G:=Nat) [0,5,6] [0,1] (λk=>[(7,.int .i64 (k:Int))]) (λk=>[]) (λk=>(k<=r.length)/\((r.take k).all (λw=>okW w.1 w.2)=true)) (λk=>r.length-k) 0 ⟨O1,O5⟩ K1 aA ?_;rintro k ⟨p,l⟩;refine go 6 ?_;refine Zd J (λj=>?_) (λj=>?_)
 .refine go 7 ⟨O2,?_⟩;refine dt (Xl (ii:=1) (false,⟨#[]⟩) J J J Zq pW O2)<|Yg (Yb 2) λb _=>go 6 ?_;refine cl 2 [] (Zbk _ _) λ_ _=>go 3 ?_;refine Lj J (λf=>?_) (λf=>?_)
  .refine go 11 ?_;exact Xd a () results190 (by rw [Ym9 (Ze (i:=k) (d:=(false,⟨#[]⟩))) (by simp_all)]) aA Za
  .refine go 7 ⟨O,?_⟩;exact Yp (k+1) ⟨O1,by rw [Py (false,⟨#[]⟩) _ _ O,mL,l];simpa using f⟩ O1 K1 aA
 .refine go 6 ?_;obtain rfl:k=r.length:=O;rw [bL]at l;obtain⟨o,c,rfl⟩:=Ztq (cP.1 l);have m:=Sz.of_mem c;rw [aP]at g;refine Zg (Zpa 1 (q:=Yw 2 wv v o) J J (Yl7 v o) (λ_ h=>fpn h) J)<|go 5 ?_;refine Yt (d:=18) J (λn=>?_) (λn=>?_)
  .refine go 4 ?_;refine Yt (d:=22) J (λe=>?_) (λe=>?_)
   .refine go 14 ?_;exact Xd a () results190 (by rw [Zp4 c];first|(simp_all;done)|(simp_all;omega)) aA Za
   .refine go 4 ⟨O,?_⟩;refine Fa (Zv (ii:=1) (i:=o.length-1) J J J J Zq Mn Kh) J J<|go 1 ⟨O,?_⟩;refine Gm 2 [] (Hb _ (m.getD _)) λ_ _=>go 7 ?_;exact Xd a () results190 (by rw [Zp4 c];first|(simp_all;done)|(simp_all;omega)) aA Za
  .refine go 18 ?_;exact Xd a () results190 (by rw [Zp4 c];first|(simp_all;done)|(simp_all;omega)) aA Za
def Xp(v:Value)(xs:List Int)(h:Vp xs):Cal prog 190 #[v] [Yw 2 wv v xs] false (G:=Unit) (λ_=>True) (λ_=> .bool true) (λ_=>[]):=okP_wr h▸(Zwl v (xs.map wr)).imp (Zvz v xs) (λ_ h=>fpm h)
def Mb(v:Value)(xs:List Int)(hs:Sz 65536 xs):Xs prog 195 #[v] [Yw 2 wv v xs] (.int .i64 (Xo xs:Int)):=by
 refine Zh func195 ntmps195 λh g f c=>?_;refine Pv (Le (i:=1) J Zq) λd=>go 19 ?_;refine lp (G:=Nat) [6,7] [0,1] (λk=>[(8,.int .i64 (k:Int)),(3,.int .i64 (Xo (xs.take k):Int))]) (λk=>[]) (λk=>k<=xs.length) (λk=>xs.length-k) 0 O1 K2 aA ?_;rintro k e;refine go 6 ?_;refine Zd J (λa=>?_) (λa=>?_)
 .refine go 8 ⟨O2,O2,?_⟩;refine Yg (Yb 2) λb _=>go 6 ?_;refine cl 2 [] (Zj7 _ (hs.getD _)) λ_ _=>?_;refine dt (Zcb J J J)<|go 8 ⟨O,?_⟩;exact Yp (k+1) O1 O1 ⟨J,by rw [Py 0 _ _ O,Yh1];exact aF some (Zb1 O),aA⟩ aA
 .refine go 12 ?_;exact Xd c () results195 (by rw [bK O]) aA Za
def Zqx(f:Nat)(t:TypeId)(e g:Int)(n:Bool)(s:ByteArray):Zdk prog 238 #[.pointer (some ⟨f,0,none⟩),.agg #[.bool n,.string s],.int .i64 g] [] false f t #[.int .i64 e] (G:=Unit) (λ_=>True) (λ_=> .agg #[.bool n,.string s]) (λ_=>#[.int .i64 (if e=0 then g else e)]) (λ_=>[]):=by
 refine Et func238 J ntmps238 J aA ?_;intro l k h c;have h:=Hw.mk h;simp only [Oh,Qt];refine go 2 ?_;refine Yg (Yh 2) λb _=>Yg (Yb 3) λj _=>go 12 ?_;refine Zd J (λd=>?_) (λd=>?_)
 .refine go 15 ?_;exact Da (.inl J) c () _ (λa w hs=>Zed hs results238 (Ec (i:=3) J J isAgg80 Kh J)) J aA 1 J (by simp_all [Fq]) J J Za
 .refine go 9 ?_;exact Da (.inl J) c () _ (λa w hs=>Zed hs results238 (Ec (i:=3) J J isAgg80 Kh J)) J aA 1 J (by simp_all [Fq]) J J Za
def d_mul_(c:Nat)(e x y:Int)(j:bl x.natAbs<=65536)(k:bl y.natAbs<=65536):Zdk prog 191 #[.pointer (some ⟨c,0,none⟩),wv x,wv y] [] false c 250 #[.int .i64 e] (G:=Unit) (λ_=>True) (λ_=>wv (Zbc (x*y))) (λ_=>#[.int .i64 (err e (x*y))]) (λ_=>[]):=by refine Et func191 J ntmps191 J aA ?_;intro m l f d;have f:=Hw.mk f;simp only [Oh,Qt];refine go 2 ?_;refine Yg (Yh 2) λb _=>Yg (Yh 3) λg _=>Yg (Yb 4) λh _=>go 3 ?_;refine Qg (λx=>x=c) [(0,0),(1,0),(2,0),(3,0),(4,0),(5,1),(6,0),(7,0),(8,1),(9,3)]<|go 5 ?_;refine Yn (Zk 4 [] (Zr4 _ _ ‹_› ‹_›)) λ_ _=>go 2 ?_;refine Kq J (Qz (n:=4) (i:=1) (Zqx _ _ _ _ _ _) J J J K3 call238 J O3 Zo J f.h J) λ_ _=>go 4 ?_;exact Da (.inl J) d () _ (λa w hs=>Zed hs results191 (Ec (i:=4) J J isAgg80 Kh J)) J aA 1 J J J J Za
def Dn(a:Nat)(x y:Int)(c:bl x.natAbs<=65536)(d:bl y.natAbs<=65536)(b:bl (x*y).natAbs<=65536):Zdk prog 191 #[.pointer (some ⟨a,0,none⟩),wv x,wv y] [] false a 250 #[.int .i64 0] (G:=Unit) (λ_=>True) (λ_=>wv (x*y)) (λ_=>#[.int .i64 0]) (λ_=>[]):=by have h:=d_mul_ a 0 x y c d;rw [Iw b,Zxa b]at h;exact h
def d_add_(c:Nat)(e x y:Int)(j:bl x.natAbs<=65536)(k:bl y.natAbs<=65536):Zdk prog 196 #[.pointer (some ⟨c,0,none⟩),wv x,wv y] [] false c 250 #[.int .i64 e] (G:=Unit) (λ_=>True) (λ_=>wv (Zbc (x+y))) (λ_=>#[.int .i64 (err e (x+y))]) (λ_=>[]):=by refine Et func196 J ntmps196 J aA ?_;intro m l f d;have f:=Hw.mk f;simp only [Oh,Qt];refine go 2 ?_;refine Yg (Yh 2) λb _=>Yg (Yh 3) λg _=>Yg (Yb 4) λh _=>go 3 ?_;refine Qg (λx=>x=c) [(0,0),(1,0),(2,0),(3,0),(4,0),(5,1),(6,0),(7,0),(8,1),(9,3)]<|go 5 ?_;refine Yn (Zk 4 [] (Zr7 _ _ ‹_› ‹_›)) λ_ _=>go 2 ?_;refine Kq J (Qz (n:=4) (i:=1) (Zqx _ _ _ _ _ _) J J J K3 call238 J O3 Zo J f.h J) λ_ _=>go 4 ?_;exact Da (.inl J) d () _ (λa w hs=>Zed hs results196 (Ec (i:=4) J J isAgg80 Kh J)) J aA 1 J J J J Za
def Zmb(a:Nat)(x y:Int)(c:bl x.natAbs<=65536)(d:bl y.natAbs<=65536)(b:bl (x+y).natAbs<=65536):Zdk prog 196 #[.pointer (some ⟨a,0,none⟩),wv x,wv y] [] false a 250 #[.int .i64 0] (G:=Unit) (λ_=>True) (λ_=>wv (x+y)) (λ_=>#[.int .i64 0]) (λ_=>[]):=by have h:=d_add_ a 0 x y c d;rw [Iw b,Zxa b]at h;exact h
def d_sub_(c:Nat)(e x y:Int)(j:bl x.natAbs<=65536)(k:bl y.natAbs<=65536):Zdk prog 194 #[.pointer (some ⟨c,0,none⟩),wv x,wv y] [] false c 250 #[.int .i64 e] (G:=Unit) (λ_=>True) (λ_=>wv (Zbc (x-y))) (λ_=>#[.int .i64 (err e (x-y))]) (λ_=>[]):=by refine Et func194 J ntmps194 J aA ?_;intro m l f d;have f:=Hw.mk f;simp only [Oh,Qt];refine go 2 ?_;refine Yg (Yh 2) λb _=>Yg (Yh 3) λg _=>Yg (Yb 4) λh _=>go 3 ?_;refine Qg (λx=>x=c) [(0,0),(1,0),(2,0),(3,0),(4,0),(5,1),(6,0),(7,0),(8,1),(9,3)]<|go 5 ?_;refine Yn (Zk 4 [] (Yel _ _ ‹_› ‹_›)) λ_ _=>go 2 ?_;refine Kq J (Qz (n:=4) (i:=1) (Zqx _ _ _ _ _ _) J J J K3 call238 J O3 Zo J f.h J) λ_ _=>go 4 ?_;exact Da (.inl J) d () _ (λa w hs=>Zed hs results194 (Ec (i:=4) J J isAgg80 Kh J)) J aA 1 J J J J Za
def Zxf(a:Nat)(x y:Int)(c:bl x.natAbs<=65536)(d:bl y.natAbs<=65536)(b:bl (x-y).natAbs<=65536):Zdk prog 194 #[.pointer (some ⟨a,0,none⟩),wv x,wv y] [] false a 250 #[.int .i64 0] (G:=Unit) (λ_=>True) (λ_=>wv (x-y)) (λ_=>#[.int .i64 0]) (λ_=>[]):=by have h:=d_sub_ a 0 x y c d;rw [Iw b,Zxa b]at h;exact h
def Yjz(c:Nat)(v:Value)(xs:List Int)(hs:Sz 65536 xs):Cal prog 192 #[.pointer (some ⟨c,0,none⟩),v] [Fd c 250 #[.int .i64 0],Yw 2 wv v xs] true (G:=Unit) (λ_=>True) (λ_=> .tuple #[Kr v (tzl xs).length,.int .i64 0]) (λ_=>[Yw 2 wv (Kr v (tzl xs).length) (tzl xs)]):=by
 refine Zh func192 ntmps192 λf e d b=>go 17 ?_;refine Zd J (λa=>?_) (λa=>?_)
 .exfalso;simp_all
 .refine go 5 ?_;refine cl 3 [2] (Zdx _ _ ‹_›) λ_ _=>go 5 ?_;exact Mi b () results192 J aA (Pt 3 Za)
def Lr(v:Value)(xs:List Int)(c:Int)(g:Vp xs)(m:bl c.natAbs<=65536)(h:∀i,bl (cf xs i*c).natAbs<=65536):Cal prog 136 #[v,wv c] [Yw 2 wv v xs] true (G:=Value) (λr=>True) (λr=> .tuple #[r,.int .i64 0]) (λr=>[Yw 2 wv r (Zs xs c)]):=by
 refine Zh func136 ntmps136 λq p e d=>?_;have f:=g.len;refine go 2 ?_;refine Yg (Yh 2) λb _=>go 8 ?_;refine cl 2 [1] (Xp _ _ ‹_›) λ_ _=>go 3 ?_;refine Gm 2 [] (Ko _ ‹_›) λ_ _=>go 9 ?_;refine Yg (Yb 3) λj _=>go 6 ?_;refine tt (Iy (i:=4) (n:=_) (by_:=24) (enc:=wv) 0 J J J J Mn ti80 J pV.cells pV.pos J J J e.h J J) λv _=>go 12 ?_;refine lp (G:=Nat) [3,6,7,21,22] [0,1,2,3] (λk=>[(23,.int .i64 (k:Int))]) (λk=>[(4,On 2 80 wv v (fill xs.length k (λi=>cf xs i*c)))]) (λk=>k<=xs.length) (λk=>xs.length-k) 0 O1 K1 ⟨by rw [Bt xs.length (λi=>cf xs i*c)];rfl,aA⟩ ?_;rintro k o;refine go 6 ?_;refine Zd J (λa=>?_) (λa=>?_)
 .refine go 9 ⟨O2,O2,?_⟩;refine Yg (Yb 5) λl _=>go 9 ?_;refine tt (Qz (n:=5) (i:=3) (Dn _ _ _ (g.sz.getD _) m (h _)) J J J K3 call191 J O3 Zo J e.h aA) (λ_ _=>?_);refine dt (Zv (ii:=4) (i:=k) J J J J (Yd pV) Mn Kh J (by rw [Ps];omega))<|tt (Ka (i:=4) (enc:=wv) _ J J J J J J pV J e.h O3 (by rw [Ps];omega)) (λ_ _=>?_);refine go 7 ⟨O,?_⟩;exact Yp (k+1) O1 O1 K1 ⟨by rw [<-Zc3 O];rfl,aA⟩
 .refine go 6 ?_;obtain rfl:k=xs.length:=O;refine Zg (Xi 4 J J pV)<|Zg (Zkv 3 J J)<|go 2 ?_;refine cl 6 [3,4] (Yjz _ _ _ (by rw [El];exact Cw λi _=>h i)) λ_ _=>go 7 ?_;exact Mi d _ results136 J aA (Pt 6 Za (by rw [Yc6]<;>rfl))
def Az(v:Value)(xs:List Int)(e:Vp xs)(h:∀i,bl (cf xs (i+1)*((i:Int)+1)).natAbs<=65536):Cal prog 260 #[v] [Yw 2 wv v xs] true (G:=Value) (λr=>True) (λr=> .tuple #[r,.int .i64 0]) (λr=>[Yw 2 wv r (Yx xs)]):=by
 refine Zh func260 ntmps260 λo m f d=>?_;have g:=e.len;refine go 10 ?_;refine cl 1 [1] (Xp _ _ ‹_›) λ_ _=>go 14 ?_;refine Zd J (λa=>?_) (λa=>?_)
 .refine go 8 ?_;exact Mi d _ results260 J aA (My (Yhd O) Za)
 .refine go 4 ?_;refine Yg (Yb 2) λb _=>?_;refine go 7 ⟨O,?_⟩;refine tt (Iy (i:=3) (n:=(xs.length-1)) (by_:=24) (enc:=wv) 0 J J J J Mn ti80 J pV.cells pV.pos J J J f.h) λv _=>go 12 ?_;refine lp (G:=Nat) [0,4,5,18] [0,1,2] (λk=>[(19,.int .i64 (k:Int))]) (λk=>[(3,On 2 80 wv v (fill (xs.length-1) k (λi=>cf xs (i+1)*((i:Int)+1))))]) (λk=>k<=xs.length-1) (λk=>xs.length-1-k) 0 O1 K1 ⟨by rw [Bt (xs.length-1) (λi=>cf xs (i+1)*((i:Int)+1))];rfl,aA⟩ ?_;rintro k l;have j:(fill (xs.length-1) k (λi=>cf xs (i+1)*((i:Int)+1))).length=xs.length-1:=Ps _ _ _;refine go 6 ?_;refine Zd J (λc=>?_) (λc=>?_)
  .try rw [aT]at *
   refine go 10 ?_;refine Qg (λx=>x=b) [(0,0),(1,0),(2,0),(3,0),(4,0),(5,0),(6,0),(7,0),(8,0),(9,1),(10,1),(11,0),(12,3)]<|go 5 ⟨O,?_⟩;refine Xe J J (st1 2 J (Zv (ii:=1) (i:=k+1) J J J J Zq Mn Kh))<|go 3 ⟨O,O,?_⟩;refine Yn (Zk 3 [] (Zz _ (by first|assumption|exact⟨O,O⟩))) λ_ _=>?_;refine Kq J (Qz (n:=3) (i:=2) (Dn _ (cf xs (k+1)) ((k:Int)+1) (e.sz _) (aB (Oi (n:=32) O) O3) (h k)) J J J K3 call191 J O3 Zo J f.h J) (λ_ _=>?_);refine Xe J J (st1 2 J (Zv (ii:=3) (i:=k) J J J J (Yd pV) Mn Kh J (by rw [Ps];omega)))<|r3' J (Ka (i:=3) (enc:=wv) _ J J J J J J pV J f.h O3 (by rw [Ps];omega)) (λ_ _=>?_);refine go 7 ⟨O,?_⟩;exact Yp (k+1) O1 O1 K1 ⟨by rw [<-Zc3 O];rfl,aA⟩
  .try rw [aT]at *
   refine go 6 ?_;obtain rfl:k=xs.length-1:=O;refine Zg (Xi 3 J J pV)<|Zg (Zkv 2 J J)<|go 2 ?_;refine cl 4 [2,3] (Yjz _ _ _ (by rw [El];exact Cw λi _=>h i)) λ_ _=>go 7 ?_;exact Mi d _ results260 J aA (Pt 4 Za (by rw [Ym3 e.tr]<;>rfl))
def Zpw(v:Value)(xs:List Int)(l:Vp xs):Xs prog 197 #[v] [Yw 2 wv v xs] (.tuple #[wv (Ys xs),.int .i64 0]):=by
 refine Zh func197 ntmps197 λt s q j=>?_;have m:=l.len;have d:∀k,bl (Ys (xs.take k)).natAbs<=65536:=λk=>Za4 _ (l.sz.take k);refine go 2 ?_;refine Yg (Yb 2) λb _=>go 7 ?_;refine cl 2 [1] (Xp _ _ ‹_›) λ_ _=>go 8 ?_;refine Yg (Yb 3) λf _=>go 4 ?_;refine Yg (Yb 4) λg _=>go 11 ?_;refine lp (G:=Nat) [2,4,5,12,13] [0,1,2] (λk=>[(14,.int .i64 (k:Int))]) (λk=>[(4,box g 80 #[.bool (decide (Ys (xs.take k)<0)),.string (Qv (Ys (xs.take k)).natAbs)]),(3,box f 250 #[.int .i64 0])]) (λk=>k<=xs.length) (λk=>xs.length-k) 0 O1 K1 K2 ?_;rintro k r;have e:=λh=>Lb (p:=xs) (k:=k) h;refine go 6 ?_;refine Zd J (λc=>?_) (λc=>?_)
 .refine go 8 ⟨O2,O2,?_⟩;refine Yg (Yb 5) λo _=>go 7 ?_;refine cl 5 [] (Zr6 (Ys (xs.take k)) (xs.getD k 0) (d _) (l.sz.getD _)) λ_ _=>go 2 ?_;refine tt (Qz (n:=5) (i:=3) (Zqx _ _ _ _ _ _) J J J K3 call238 J O3 Zo J q.h aA) (λ_ _=>?_);refine go 8 ⟨O,?_⟩;have a:=d (k+1);rw [e O]at a;exact Yp (k+1) O1 O1 K1 ⟨by rw [e O];simp only [Iw a];rfl,by simp only [Zqp a];rfl,aA⟩
 .refine go 6 ?_;refine Px [3,4] [5]<|Zj (n:=0) [(0,0),(1,0),(2,0),(3,0),(4,1),(5,3)]<|go 7 ?_;refine Zn<|go 2 ?_;exact Mi j () results197 (by rw [show k=xs.length by omega,bL]<;>rfl) aA Za
def Znb(v:Value)(xs:List Int)(c:Int)(l:Sz 65536 xs)(j:xs.length<=1000)(s:bl c.natAbs<=65536)(t:∀i,c∣cf xs i)(f:xs≠[]->c≠0):Cal prog 198 #[v,wv c] [Yw 2 wv v xs] true (G:=Value) (λr=>True) (λr=> .tuple #[r,.int .i64 0]) (λr=>[Yw 2 wv r (xs.map (· / c))]):=by
 refine Zh func198 ntmps198 λx w m h=>go 2 ?_;refine Yg (Yh 2) λb _=>go 8 ?_;refine tt (Iy (i:=3) (n:=_) (by_:=24) (enc:=wv) 0 J J J J Mn ti80 J pV.cells pV.pos J J J m.h J J) λv _=>go 12 ?_;refine lp (G:=Nat) [3,6,15,16] [0,1,2] (λk=>[(17,.int .i64 (k:Int))]) (λk=>[(3,On 2 80 wv v (fill xs.length k (λi=>cf xs i/c)))]) (λk=>k<=xs.length) (λk=>xs.length-k) 0 O1 K1 ⟨by rw [Bt xs.length (λi=>cf xs i/c)];rfl,aA⟩ ?_;rintro k u;have g:Zbc (xs.getD k 0/c)=cf xs k/c:=Iw (Iv (t k) (l k));refine go 6 ?_;refine Zd J (λa=>?_) (λa=>?_)
 .refine go 9 ⟨O2,O2,?_⟩;refine Yg (Yb 4) λo _=>go 8 ?_;refine cl 4 [] (Bu _ _ (l.getD _) s (f (by intro e;rw [e]at a;simp at a;omega))) λ_ _=>go 4 ?_;refine Yg (Yb 5) λp _=>Yg (Yb 6) λq _=>go 12 ?_;refine Zd J (λd=>?_) (λd=>?_)
  .exfalso;simp_all
  .refine go 6 ?_;refine dt (Zv (ii:=3) (i:=k) J J J J (Yd pV) Mn Kh J (by rw [Ps];omega))<|tt (Ka (i:=3) (enc:=wv) _ J J J J J J pV J m.h O3 (by rw [Ps];omega)) (λ_ _=>?_);refine go 7 ⟨O,?_⟩;exact Yp (k+1) O1 O1 K1 ⟨by rw [<-Zc3 O];simp only [g];rfl,aA⟩
 .refine go 13 ?_;obtain rfl:k=xs.length:=O;exact Mi h _ results198 J aA (gow 3 Za (by rw [El,Zqb xs (· / c)]<;>rfl))
def Mr(v:Value)(xs:List Int)(c:Vp xs):Cal prog 140 #[v] [Yw 2 wv v xs] true (G:=Value) (λr=>True) (λr=> .tuple #[r,.int .i64 0]) (λr=>[Yw 2 wv r (Zx xs)]):=by
 refine Zh func140 ntmps140 λh g f d=>?_;have e:=c.len;refine go 9 ?_;refine cl 1 [1] (Zpw _ _ ‹_›) λ_ _=>go 3 ?_;refine Yg (Yb 2) λb _=>go 11 ?_;refine Zd J (λa=>?_) (λa=>?_)
 .exfalso;simp_all
 .refine go 6 ?_;refine cl 3 [1] (Znb _ _ _ c.sz O (Za4 _ c.sz) (Ln _) c.ne) λ_ _=>go 7 ?_;exact Mi d _ results140 J aA (Pt 3 Za J)
def Yda(v:Value)(xs:List Int)(x y:Int)(p:Vp xs)(S:bl x.natAbs<=65536)(hy:bl y.natAbs<=65536)(a8:0<y):Xs prog 308 #[v,rX x y] [Yw 2 wv v xs] (.tuple #[wv (evv xs x y),.int .i64 (eve xs x y)]):=by
 refine Zh func308 ntmps308 λw0 sc s r=>?_;have c:=p.len;refine go 2 ?_;refine Yg (Yh 2) λb _=>Yg (Yb 3) λZ _=>go 7 ?_;refine cl 3 [1] (Xp _ _ ‹_›) λ_ _=>go 3 ?_;refine Gm 3 [] (Lo _ _ ‹_› ‹_› ‹_›) λ_ _=>go 15 ?_;refine Zd J (λm=>?_) (λm=>?_)
 .refine go 2 ?_;refine dt (Qy (ivs:=[]) J aA (λa w hs=>b80_))<|go 6 ?_;exact Mi r () results308 (by rw [aC (l:=xs) O];rfl) aA Za
 .have M:xs≠[]:=λe=>by rw [e]at m;simp at m
  have a6:=Qp p.sz;have g:Sz 65536 [x,y]:=Sz.of_mem (by intro z V;simp at V;rcases V with rfl|rfl<;>assumption);have I:=Qp g;have a7:(xs.length-1)*Xo [x,y]<=24*65536:=aQ O I;have f:((xs.length:Int)-1)*(Xo [x,y]:Int)=(((xs.length-1)*Xo [x,y]:Nat):Int):=by rw [eW];congr 1;omega
  refine go 3 ?_;refine jn (G:=Unit) [0,3,4] [0,1,2,3] (λ_=>[(37,.bool (decide ((65536:Int)<(Xo xs:Int)+((xs.length:Int)-1)*(Xo [x,y]:Int)+8)))]) (λ_=>[]) (λ_=>True) ?_ ?_
  .refine Li (λ_=>False) []<|Zj (n:=7) [(0,0),(2,0),(3,0),(4,0),(5,0),(6,0),(7,0),(8,0)]<|go 9 ⟨O,?_⟩;refine Qj (n:=6) 1 9 ?_ ?_
   .refine Pz (Zk 3 [1] (Mb _ _ (by first|exact p.sz|exact g))) λ_ _=>?_;refine Zj (n:=0) [(9,1),(10,1),(11,0),(12,0),(13,0),(14,0)]<|Kq J (Xw (i:=90) (ivs:=[(0,_),(1,_)]) (enc:=wv) [x,y] J J K4 Ylq ti80 J J J J J pV.cells J J s.h) λv _=>Yn (Zk 3 [90] (Mb _ _ (by first|exact p.sz|exact g))) λ_ _=>?_;refine go 5 ⟨by rw [f];exact⟨O,O⟩,by rw [f];exact⟨O,O⟩,by rw [f];exact⟨O,O⟩,?_⟩;exact Zn<|Po () aA K1 aA
   .refine Kn J (Xw (i:=90) (ivs:=[(0,_),(1,_)]) (enc:=wv) [x,y] J J K4 Ylq ti80 J J J J J pV.cells J J s.h) (λa9 _=>?_);refine Zj (n:=0) [(1,1),(10,1),(11,0),(12,0),(13,0),(14,0)]<|Yn (Zk 3 [1] (Mb _ _ (by first|exact p.sz|exact g))) λ_ _=>Yn (Zk 3 [90] (Mb _ _ (by first|exact p.sz|exact g))) λ_ _=>?_;refine go 5 ⟨by rw [f];exact⟨O,O⟩,by rw [f];exact⟨O,O⟩,by rw [f];exact⟨O,O⟩,?_⟩;exact Zn<|Po () aA K1 aA
  .rintro _ -;refine Zd J (λo=>?_) (λo=>?_)
   .have B:Ks xs x y:=⟨M,by rw [f]at o;omega⟩;refine go 2 ?_;refine dt (Qy (ivs:=[]) J aA (λa w hs=>b80_))<|go 6 ?_;exact Mi r () results308 (by unfold evv eve;rw [aG B,aG B]<;>rfl) aA Za
   .have j:Xo xs+(xs.length-1)*Xo [x,y]+8<=65536:=by rw [f]at o;omega
    refine go 4 ?_;refine Yg (Yb 4) λH _=>go 2 ?_;refine jn (G:=Nat×Nat) [0,3,4,6] [0,1,2,3,4] (λq=>[(7,.pointer (some ⟨q.1,0,none⟩)),(8,.pointer (some ⟨q.2,0,none⟩))]) (λq=>[(97,box q.1 80 (wc (xs.getD (xs.length-1) 0))),(98,box q.2 80 (wc 1))]) (λq=>True) ?_ ?_
    .refine Li (λ_=>False) [9,10]<|Zj (n:=5) [(0,0),(1,0),(2,0),(3,0),(4,0),(5,0)]<|go 4 ⟨O,?_⟩;refine Xe J J (Xt (Zv (ii:=1) (i:=(xs.length-1)) J J J J Zq Mn Kh))<|go 2 ⟨O,?_⟩;refine Zaj (n:=4) 6 7 8 ?_ ?_ ?_
     .refine Pz (Zk 4 [] (Zz _ (by first|assumption|exact⟨O,O⟩))) λ_ _=>?_;refine Qj (n:=3) 7 8 ?_ ?_
      .refine Pz (Yb 97) λa0 _=>?_;refine Zj (n:=0) [(8,1),(9,3),(10,3)]<|Yn (Yb 98) λa1 _=>go 3 ?_;exact Zn<|Po (_,_) aA K2 K2
      .refine Pz (Yb 98) λa2 _=>?_;refine Zj (n:=0) [(7,1),(9,3),(10,3)]<|Yn (Yb 97) λa3 _=>go 3 ?_;exact Zn<|Po (_,_) aA K2 K2
     .refine Pz (Yb 97) λa4 _=>?_;refine Qj (n:=3) 6 8 ?_ ?_
      .refine Pz (Zk 4 [] (Zz _ (by first|assumption|exact⟨O,O⟩))) λ_ _=>?_;refine Zj (n:=0) [(8,1),(9,3),(10,3)]<|Yn (Yb 98) λa5 _=>go 3 ?_;exact Zn<|Po (_,_) aA K2 K2
      .refine Pz (Yb 98) λN _=>?_;refine Zj (n:=0) [(6,1),(9,3),(10,3)]<|Yn (Zk 4 [] (Zz _ (by first|assumption|exact⟨O,O⟩))) λ_ _=>go 3 ?_;exact Zn<|Po (_,_) aA K2 K2
     .refine Pz (Yb 98) λP _=>?_;refine Qj (n:=3) 6 7 ?_ ?_
      .refine Pz (Zk 4 [] (Zz _ (by first|assumption|exact⟨O,O⟩))) λ_ _=>?_;refine Zj (n:=0) [(7,1),(9,3),(10,3)]<|Yn (Yb 97) λQ _=>go 3 ?_;exact Zn<|Po (_,_) aA K2 K2
      .refine Pz (Yb 97) λR _=>?_;refine Zj (n:=0) [(6,1),(9,3),(10,3)]<|Yn (Zk 4 [] (Zz _ (by first|assumption|exact⟨O,O⟩))) λ_ _=>go 3 ?_;exact Zn<|Po (_,_) aA K2 K2
    .rintro⟨W,Y⟩ -;dsimp only;refine go 10 ⟨O,?_⟩;refine lp (G:=Nat) [0,3,4,6,7,8] [0,1,2,3,4] (λk=>[(9,.int .i64 ((k:Int)-1))]) (λk=>[(97,box W 80 (wc (Ig xs x y k))),(98,box Y 80 (wc (y^(xs.length-1-k))))]) (λk=>k<=xs.length-1) (λk=>k) (xs.length-1) O1 ⟨by rw [show((xs.length-1:Nat):Int)-1=(xs.length:Int)-2 by omega];rfl,aA⟩ ⟨by rw [Yns x y O];rfl,by rw [gX,cK];rfl,aA⟩ ?_;rintro k D;refine go 7 ?_;refine Zd J (λt=>?_) (λt=>?_)
     .have d:y^(xs.length-1-k)*y=y^(xs.length-1-(k-1)):=Yg3 y O D;have F:Ig xs x y k*x+xs.getD (k-1) 0*y^(xs.length-1-(k-1))=Ig xs x y (k-1):=Ydw x y O D;refine go 9 ?_;refine tt (Qz (n:=4) (i:=4) (Dn _ _ _ (Zqz j) hy (by rw [d];exact Zqz j)) J J J K3 call191 J O3 Zo J s.h aA) λ_ _=>go 3 ?_;refine Qg (λx=>x=H) [(0,0),(1,0),(2,0),(4,0),(5,0),(6,0),(7,0),(8,0),(3,1),(9,1),(10,1),(11,3)]<|go 5 ?_;refine Xe J J (st1 4 J (Zv (ii:=1) (i:=(k-1)) J J J J Zq Mn Kh))<|go 2 ⟨O,?_⟩;refine Kq J (Qz (n:=4) (i:=4) (Dn _ _ _ (by first|exact Zq0 j c _|exact p.sz.getD _) (by first|exact S|(rw [d];exact Zqz j)) (by first|exact Zw8 j c O D|(rw [d];exact Zqy j))) J J J K3 call191 J O3 Zo J s.h J) (λ_ _=>?_);refine Kq J (Qz (n:=4) (i:=4) (Dn _ _ _ (by first|exact Zq0 j c _|exact p.sz.getD _) (by first|exact S|(rw [d];exact Zqz j)) (by first|exact Zw8 j c O D|(rw [d];exact Zqy j))) J J J K3 call191 J O3 Zo J s.h J) (λ_ _=>?_);refine Kq J (Qz (n:=4) (i:=4) (Zmb _ _ _ (Zw8 j c O D) (by rw [d];exact Zqy j) (by rw [d,F];exact Zq0 j c _)) J J J K3 call196 J O3 Zo J s.h J) (λ_ _=>?_);refine go 9 ⟨O,?_⟩;exact Yp (k-1) O1 O1 ⟨by rw [show((k-1:Nat):Int)-1=(k:Int)-1-1 by omega];rfl,aA⟩ ⟨by rw [d,F];rfl,by rw [d];rfl,aA⟩
     .refine go 14 ?_;refine Zd J (λu=>?_) (λu=>?_)
      .exfalso;simp_all
      .refine go 10 ?_;obtain rfl:k=0:=O;have B:¬Ks xs x y:=λh=>by have:=h.2;omega
       exact Mi r () results308 (by unfold evv eve;rw [aD B,aD B,<-Zue]<;>rfl) aA Za
def Ztj(v:Value)(xs:List Int)(x y:Int)(e:Vp xs)(g:bl x.natAbs<=65536)(h:bl y.natAbs<=65536)(d:0<y):Xs prog 291 #[v,rX x y] [Yw 2 wv v xs] (.tuple #[.int .i64 (evv xs x y).sign,.int .i64 (eve xs x y)]):=by refine Zh func291 ntmps291 λk j i c=>?_;have a:=e.len;refine go 2 ?_;refine Yg (Yh 2) λb _=>go 8 ?_;refine cl 2 [1] (Yda _ _ _ _ e g h d) λ_ _=>go 3 ?_;refine Yg (Yb 3) λf _=>go 7 ?_;refine cl 3 [] (Hb _ (evv_bl a)) λ_ _=>go 6 ?_;exact Mi c () results291 J aA Za
def Zbb(d:Nat)(v:Value)(xs:List Int)(hs:Sz 65536 xs):Zdk prog 192 #[.pointer (some ⟨d,0,none⟩),v] [Yw 2 wv v xs] true d 250 #[.int .i64 0] (G:=Unit) (λ_=>True) (λ_=> .tuple #[Kr v (tzl xs).length,.int .i64 0]) (λ_=>#[.int .i64 0]) (λ_=>[Yw 2 wv (Kr v (tzl xs).length) (tzl xs)]):=by
 refine Et func192 J ntmps192 J K1 ?_;intro g f e c;have e:=Hw.mk e;simp only [Oh,Qt];refine go 17 ?_;refine Zd J (λb=>?_) (λb=>?_)
 .exfalso;simp_all
 .refine go 5 ?_;refine cl 3 [2] (Zdx _ _ ‹_›) λ_ _=>go 5 ?_;exact Da (.inl J) c () _ (λa w hs=>Yc2 hs results192 J J) J aA 1 J J J J (Gh 3 J J J Za)
def Ybk(v:Value)(xs:List Int)(g:xs.length*24<=140737488355328:=by omega):Ypo prog 305 #[v] [Yw 2 wv v xs] (G:=Value) (λr=>True) (λr=>r) (λr=>On 2 80 wv r xs):=by
 refine Ybt func305 J ntmps305 J K1 ?_;intro k h d e;have d:=Hw.mk d;simp only [Oh,Qt];refine Pv (f_nil (i:=1) J Zq) λc=>go 9 ?_;refine dt (Ya6 J J J (i:=1) J Zq Mn)<|go 2 ?_;refine Lj J (λb=>?_) (λb=>?_)
 .refine go 7 ?_;obtain rfl:xs=[]:=c (by simpa using b);exact Zr (Qr 9 2 80 wv)<|Zox (.inl J) (.slice none 0 0) _ (λa w hs=>Zed hs results305 J) J aA J 9 J J J
 .refine go 4 ?_;refine tt (t_bs0 (i:=2) (enc:=wv) J J J Mn pV J d.h) λv _=>go 1 ?_;refine tt (Oc (i:=2) (j:=1) (by_:=24) J J J J J J O3 J Zq Mn ti80 J pV J J J O8 O3 J d.h) λf _=>go 4 ?_;exact Zox (.inl J) _ _ (λa w hs=>Zed hs results305 J) J aA J 2 J (by rfl) J
def Zir(v:Value)(xs:List Int)(c:Vp xs):Xs prog 301 #[v] [Yw 2 wv v xs] (.tuple #[.int .i64 ((xs.length:Int)-1),.int .i64 0]):=by refine Zh func301 ntmps301 λf e d a=>?_;have b:=c.len;refine go 10 ?_;refine cl 1 [1] (Xp _ _ ‹_›) λ_ _=>?_;refine go 16 ⟨O,?_⟩;exact Mi a () results301 J aA Za
def Zoa(v:Value)(xs:List Int)(b:Vp xs):Xs prog 302 #[v] [Yw 2 wv v xs] (.tuple #[.int .i64 (Xo xs:Int),.int .i64 0]):=by refine Zh func302 ntmps302 λe d c a=>go 10 ?_;refine cl 1 [1] (Xp _ _ ‹_›) λ_ _=>go 9 ?_;refine cl 1 [1] (Mb _ _ b.sz) λ_ _=>go 5 ?_;exact Mi a () results302 J aA Za
def Zu7(h:Nat)(v u:Value)(xs ys:List Int)(q:Vp xs)(o:Vp ys)(s:∀i,bl (cf xs i+cf ys i).natAbs<=65536):Zdk prog 193 #[v,u,.pointer (some ⟨h,0,none⟩),.func (.func 196) #[.pointer (some ⟨h,0,none⟩)] #[]] [Yw 2 wv v xs,Yw 2 wv u ys] true h 250 #[.int .i64 0] (G:=Value) (λr=>True) (λr=> .tuple #[r,.int .i64 0]) (λr=>#[.int .i64 0]) (λr=>[Yw 2 wv r (Fh xs ys)]):=by
 refine Et func193 J ntmps193 J K2 ?_;intro z y c l;have c:=Hw.mk c;simp only [Oh,Qt];have m:=q.len;have j:=o.len;refine go 10 ?_;refine cl 3 [2] (Xp _ _ ‹_›) λ_ _=>go 3 ?_;refine Gm 3 [3] (Xp _ _ ‹_›) λ_ _=>go 13 ?_;refine dt (Zcb J J J)<|tt (Iy (i:=4) (n:=(max xs.length ys.length)) (by_:=24) (enc:=wv) 0 J J J J Mn ti80 J pV.cells pV.pos J J J c.h) λv _=>go 12 ?_;refine lp (G:=Nat) [0,1,2,3,10,29] [0,1,2,3] (λk=>[(30,.int .i64 (k:Int))]) (λk=>[(4,On 2 80 wv v (fill (max xs.length ys.length) k (λi=>cf xs i+cf ys i)))]) (λk=>k<=max xs.length ys.length) (λk=>max xs.length ys.length-k) 0 O1 K1 ⟨by rw [Bt (max xs.length ys.length) (λi=>cf xs i+cf ys i)];rfl,aA⟩ ?_;rintro k x;have t:(fill (max xs.length ys.length) k (λi=>cf xs i+cf ys i)).length=max xs.length ys.length:=Ps _ _ _;refine go 6 ?_;refine Zd J (λd=>?_) (λd=>?_)
 .try rw [aT]at *
  refine go 12 ?_;refine Yg (Yb 5) λb _=>Yg (Yb 6) λg _=>go 2 ?_;refine jn (G:=Unit) [0,1,2,3,10,11,12,13,29,30] [0,4,1,2,3,6] (λ_=>[]) (λ_=>[(5,box b 80 (wc (cf xs k)))]) (λ_=>True) ?_ ?_
  .refine go 8 ?_;refine Zd J (λe=>?_) (λe=>?_)
   .refine go 7 ⟨O2,O2,?_⟩;exact Po () aA aA ⟨by first|rfl|(rw [Yf (p:=xs) O];rfl),aA⟩
   .refine go 1 ?_;exact Po () aA aA ⟨by first|rfl|(rw [Yf (p:=xs) O];rfl),aA⟩
  .rintro _ -;refine jn (G:=Unit) [0,1,2,3,10,11,12,13,29,30] [0,5,4,1,2,3] (λ_=>[]) (λ_=>[(6,box g 80 (wc (cf ys k)))]) (λ_=>True) ?_ ?_
   .refine go 8 ?_;refine Zd J (λf=>?_) (λf=>?_)
    .refine go 7 ⟨O2,O2,?_⟩;exact Po () aA aA ⟨by first|rfl|(rw [Yf (p:=ys) O];rfl),aA⟩
    .refine go 1 ?_;exact Po () aA aA ⟨by first|rfl|(rw [Yf (p:=ys) O];rfl),aA⟩
   .rintro _ -;refine go 6 ?_;refine tt (Zse (n:=6) (i:=1) (fs:=[_]) (vs:=[_,_]) (Zmb _ _ _ (q.sz _) (o.sz _) (s _)) J J J J K2 call196 J O3 Zo J c.h aA) (λ_ _=>?_);refine dt (Zv (ii:=4) (i:=k) J J J J (Yd pV) Mn Kh J (by rw [Ps];omega))<|tt (Ka (i:=4) (enc:=wv) _ J J J J J J pV J c.h O3 (by rw [Ps];omega)) (λ_ _=>?_);refine go 7 ⟨O,?_⟩;exact Yp (k+1) O1 O1 K1 ⟨by rw [<-Zc3 O];rfl,aA⟩
 .try rw [aT]at *
  refine go 6 ?_;obtain rfl:k=max xs.length ys.length:=O;refine Zg (Xi 4 J J pV)<|go 3 ?_;refine tt (Qz (n:=7) (i:=1) (Zbb _ _ _ (by rw [El];exact Cw λi _=>s i)) J J J K2 call192 J O3 (Zm 4 J J J Zo) J c.h aA) λ_ _=>go 7 ?_;exact Da (.inl J) l _ _ (λa w hs=>Yc2 hs results193 J J) J aA 1 J J J J (Zl0 7 J J J (by rw [El]<;>rfl) Za)
def Zu6(h:Nat)(v u:Value)(xs ys:List Int)(q:Vp xs)(o:Vp ys)(s:∀i,bl (cf xs i-cf ys i).natAbs<=65536):Zdk prog 193 #[v,u,.pointer (some ⟨h,0,none⟩),.func (.func 194) #[.pointer (some ⟨h,0,none⟩)] #[]] [Yw 2 wv v xs,Yw 2 wv u ys] true h 250 #[.int .i64 0] (G:=Value) (λr=>True) (λr=> .tuple #[r,.int .i64 0]) (λr=>#[.int .i64 0]) (λr=>[Yw 2 wv r (Di xs ys)]):=by
 refine Et func193 J ntmps193 J K2 ?_;intro z y c l;have c:=Hw.mk c;simp only [Oh,Qt];have m:=q.len;have j:=o.len;refine go 10 ?_;refine cl 3 [2] (Xp _ _ ‹_›) λ_ _=>go 3 ?_;refine Gm 3 [3] (Xp _ _ ‹_›) λ_ _=>go 13 ?_;refine dt (Zcb J J J)<|tt (Iy (i:=4) (n:=(max xs.length ys.length)) (by_:=24) (enc:=wv) 0 J J J J Mn ti80 J pV.cells pV.pos J J J c.h) λv _=>go 12 ?_;refine lp (G:=Nat) [0,1,2,3,10,29] [0,1,2,3] (λk=>[(30,.int .i64 (k:Int))]) (λk=>[(4,On 2 80 wv v (fill (max xs.length ys.length) k (λi=>cf xs i-cf ys i)))]) (λk=>k<=max xs.length ys.length) (λk=>max xs.length ys.length-k) 0 O1 K1 ⟨by rw [Bt (max xs.length ys.length) (λi=>cf xs i-cf ys i)];rfl,aA⟩ ?_;rintro k x;have t:(fill (max xs.length ys.length) k (λi=>cf xs i-cf ys i)).length=max xs.length ys.length:=Ps _ _ _;refine go 6 ?_;refine Zd J (λd=>?_) (λd=>?_)
 .try rw [aT]at *
  refine go 12 ?_;refine Yg (Yb 5) λb _=>Yg (Yb 6) λg _=>go 2 ?_;refine jn (G:=Unit) [0,1,2,3,10,11,12,13,29,30] [0,4,1,2,3,6] (λ_=>[]) (λ_=>[(5,box b 80 (wc (cf xs k)))]) (λ_=>True) ?_ ?_
  .refine go 8 ?_;refine Zd J (λe=>?_) (λe=>?_)
   .refine go 7 ⟨O2,O2,?_⟩;exact Po () aA aA ⟨by first|rfl|(rw [Yf (p:=xs) O];rfl),aA⟩
   .refine go 1 ?_;exact Po () aA aA ⟨by first|rfl|(rw [Yf (p:=xs) O];rfl),aA⟩
  .rintro _ -;refine jn (G:=Unit) [0,1,2,3,10,11,12,13,29,30] [0,5,4,1,2,3] (λ_=>[]) (λ_=>[(6,box g 80 (wc (cf ys k)))]) (λ_=>True) ?_ ?_
   .refine go 8 ?_;refine Zd J (λf=>?_) (λf=>?_)
    .refine go 7 ⟨O2,O2,?_⟩;exact Po () aA aA ⟨by first|rfl|(rw [Yf (p:=ys) O];rfl),aA⟩
    .refine go 1 ?_;exact Po () aA aA ⟨by first|rfl|(rw [Yf (p:=ys) O];rfl),aA⟩
   .rintro _ -;refine go 6 ?_;refine tt (Zse (n:=6) (i:=1) (fs:=[_]) (vs:=[_,_]) (Zxf _ _ _ (q.sz _) (o.sz _) (s _)) J J J J K2 call194 J O3 Zo J c.h aA) (λ_ _=>?_);refine dt (Zv (ii:=4) (i:=k) J J J J (Yd pV) Mn Kh J (by rw [Ps];omega))<|tt (Ka (i:=4) (enc:=wv) _ J J J J J J pV J c.h O3 (by rw [Ps];omega)) (λ_ _=>?_);refine go 7 ⟨O,?_⟩;exact Yp (k+1) O1 O1 K1 ⟨by rw [<-Zc3 O];rfl,aA⟩
 .try rw [aT]at *
  refine go 6 ?_;obtain rfl:k=max xs.length ys.length:=O;refine Zg (Xi 4 J J pV)<|go 3 ?_;refine tt (Qz (n:=7) (i:=1) (Zbb _ _ _ (by rw [El];exact Cw λi _=>s i)) J J J K2 call192 J O3 (Zm 4 J J J Zo) J c.h aA) λ_ _=>go 7 ?_;exact Da (.inl J) l _ _ (λa w hs=>Yc2 hs results193 J J) J aA 1 J J J J (Zl0 7 J J J (by rw [El]<;>rfl) Za)
def Yg5(v u:Value)(xs ys:List Int)(e:Vp xs)(d:Vp ys)(f:∀i,bl (cf xs i+cf ys i).natAbs<=65536):Cal prog 139 #[v,u] [Yw 2 wv v xs,Yw 2 wv u ys] true (G:=Value) (λr=>True) (λr=> .tuple #[r,.int .i64 0]) (λr=>[Yw 2 wv r (Fh xs ys)]):=by refine Zh func139 ntmps139 λh g c a=>go 8 ?_;refine Yg (Yb 3) λb _=>go 6 ?_;refine dt (d_mkf (vs:=[_]) J K1)<|tt (Qz (n:=4) (i:=3) (Zu7 _ _ _ _ _ ‹_› ‹_› ‹_›) J J J K4 call193 J O3 (Zm 1 J J J (Zm 2 J J J Zo)) J c.h aA) λ_ _=>go 7 ?_;exact Mi a _ results139 J aA (Pt 4 Za)
def Yg4(v u:Value)(xs ys:List Int)(e:Vp xs)(d:Vp ys)(f:∀i,bl (cf xs i-cf ys i).natAbs<=65536):Cal prog 137 #[v,u] [Yw 2 wv v xs,Yw 2 wv u ys] true (G:=Value) (λr=>True) (λr=> .tuple #[r,.int .i64 0]) (λr=>[Yw 2 wv r (Di xs ys)]):=by refine Zh func137 ntmps137 λh g c a=>go 8 ?_;refine Yg (Yb 3) λb _=>go 6 ?_;refine dt (d_mkf (vs:=[_]) J K1)<|tt (Qz (n:=4) (i:=3) (Zu6 _ _ _ _ _ ‹_› ‹_› ‹_›) J J J K4 call193 J O3 (Zm 1 J J J (Zm 2 J J J Zo)) J c.h aA) λ_ _=>go 7 ?_;exact Mi a _ results137 J aA (Pt 4 Za)
def Ztk(v u:Value)(xs ys:List Int)(D:Vp xs)(B:Vp ys)(N:¬Zaa xs ys):Cal prog 138 #[v,u] [Yw 2 wv v xs,Yw 2 wv u ys] true (G:=Value) (λr=>True) (λr=> .tuple #[r,.int .i64 0]) (λr=>[Yw 2 wv r (Qn xs ys)]):=by
 refine Zh func138 ntmps138 λw0 sc F g=>?_;have P:=D.len;have M:=B.len;have W:=Qp D.sz;have Y:=Qp B.sz;refine go 10 ?_;refine cl 2 [1] (Xp _ _ ‹_›) λ_ _=>go 3 ?_;refine Gm 2 [2] (Xp _ _ ‹_›) λ_ _=>go 14 ?_;refine Yt (d:=23) J (λH=>?_) (λH=>?_)
 .refine go 15 ?_;exact Mi g _ results138 J aA (My (Za2 (p:=xs) (q:=ys) (by first|(left;omega)|(right;omega))) Za)
 .refine go 6 ?_;refine Zd J (λk=>?_) (λk=>?_)
  .refine go 8 ?_;exact Mi g _ results138 J aA (My (Za2 (p:=xs) (q:=ys) (by first|(left;omega)|(right;omega))) Za)
  .have c:xs≠[]:=by intro e;subst e;simp_all
   have f:ys≠[]:=by intro e;subst e;simp_all
   have S:0<xs.length:=aE.2 c;have V:0<ys.length:=aE.2 f;refine go 13 ⟨O,O,?_⟩;refine Yt (d:=35) J (λI=>?_) (λI=>?_)
   .exfalso;exact N ⟨c,f,.inl O⟩
   .refine go 1 ?_;refine Gm 2 [1] (Mb _ _ (by first|exact D.sz|exact B.sz)) λ_ _=>go 1 ?_;refine Gm 2 [2] (Mb _ _ (by first|exact D.sz|exact B.sz)) λ_ _=>?_;refine go 6 ⟨O,O,?_⟩;refine Zd J (λl=>?_) (λl=>?_)
    .exfalso;exact N ⟨c,f,by first|(left;omega)|(right;omega)⟩
    .have Z:Xo xs+Xo ys+5<=65536:=O;have y:∀i j,bl (cf xs i*cf ys j).natAbs<=65536:=λi j=>by have:=Yo (cf xs i) (cf ys j);have:=Pa xs i;have:=Pa ys j;omega
     have s:∀i j t,i<25->bl (Zbg xs ys i j t).natAbs<=65536:=λi j t hi=>by have:=Yph (i:=i) (j:=j) (t:=t) (Pa xs) (Pa ys) O;omega
     have w:∀t,bl (acc xs ys xs.length t).natAbs<=65536:=λt=>by have:=bl_acc (i:=xs.length) (t:=t) (Pa xs) (Pa ys) O;omega
     have z:∀i j,i<25->bl (Zbg xs ys i j (i+j)+cf xs i*cf ys j).natAbs<=65536:=λi j hi=>by rw [<-Yee];exact s i (j+1) _ hi
     refine go 4 ?_;refine Yg (Yb 3) λb _=>?_;refine go 10 ⟨O,O,?_⟩;refine tt (Iy (i:=4) (n:=(xs.length+ys.length-1)) (by_:=24) (enc:=wv) 0 J J J J Mn ti80 J pV.cells pV.pos J J J F.h) λv _=>go 12 ?_;refine lp (G:=Nat) [1,6,7,51,52] [0,1,2,3] (λi=>[(53,.int .i64 (i:Int))]) (λi=>[(4,On 2 80 wv v (mk (xs.length+ys.length-1) (acc xs ys i)))]) (λi=>i<=xs.length) (λi=>xs.length-i) 0 O1 K1 ⟨by rw [Zpm];rfl,aA⟩ ?_;rintro i hi;refine go 6 ?_;refine Zd J (λm=>?_) (λm=>?_)
     .refine go 9 ⟨O2,O2,?_⟩;refine Yg (Yb 5) λQ _=>go 12 ?_;refine lp (G:=Nat) [1,6,7,8,9,51,52,53,58,59] [0,1,2,3,5] (λj=>[(60,.int .i64 (j:Int))]) (λj=>[(4,On 2 80 wv v (mk (xs.length+ys.length-1) (Zbg xs ys i j)))]) (λj=>j<=ys.length) (λj=>ys.length-j) 0 O1 K1 ⟨by rw [Yed];rfl,aA⟩ ?_;rintro j hj;have a:i+j<xs.length+ys.length-1->(mk (xs.length+ys.length-1) (Zbg xs ys i j)).getD (i+j) 0=Zbg xs ys i j (i+j):=λh=>Zd6 h;refine go 6 ?_;refine Zd J (λo=>?_) (λo=>?_)
      .refine go 9 ⟨O2,O2,?_⟩;refine Yg (Yb 6) λR _=>go 4 ?_;refine Qg (λx=>x=b) [(0,0),(1,0),(2,0),(3,0),(4,0),(5,0),(6,0),(7,0),(8,0),(9,0),(10,0),(11,0),(12,1),(13,1),(14,0),(15,3)]<|go 8 ⟨O,O,?_⟩;refine Xe J J (st1 3 J (Zv (ii:=4) (i:=(i+j)) J J J J (Yd pV) Mn Kh O (by rw [Yu];omega)))<|go 3 ⟨by rw [Yu];omega,?_⟩;refine Kq J (Qz (n:=6) (i:=3) (Dn _ _ _ (D.sz _) (B.sz _) (y i j)) J J J K3 call191 J O3 Zo J F.h J) (λ_ _=>?_);refine Kq J (Qz (n:=6) (i:=3) (Zmb _ _ _ (by rw [a O];exact s i j _ O) (y i j) (by rw [a O];exact z i j O)) J J J K3 call196 J O3 Zo J F.h J) (λ_ _=>?_);refine Xe J J (st1 3 J (Zv (ii:=4) (i:=(i+j)) J J J J (Yd pV) Mn Kh O (by rw [Yu];omega)))<|r3' J (Ka (i:=4) (enc:=wv) _ J J J J J J pV J F.h O3 (by rw [Yu];omega)) (λ_ _=>?_);refine go 7 ⟨O,?_⟩;exact Yp (j+1) O1 O1 K1 ⟨by rw [<-Yk7 O,<-a O];rfl,aA⟩
      .refine go 10 ⟨O,?_⟩;obtain rfl:j=ys.length:=O;exact Yp (i+1) O1 O1 K1 ⟨by rw [<-Yk8];rfl,aA⟩
     .refine go 6 ?_;obtain rfl:i=xs.length:=O;refine Zg (Xi 4 J J pV)<|go 2 ?_;refine tt (Qz (n:=7) (i:=3) (Zbb _ _ _ (Cw λt _=>w t)) J J J K2 call192 J O3 (Zm 4 J J J Zo) J F.h aA) λ_ _=>go 7 ?_;exact Mi g _ results138 J aA (Pt 7 Za (by rw [Yg8]<;>rfl))
end Go.Sky

