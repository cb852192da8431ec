/- Rules, arithmetic and contracts: part 10. No conditions but those that each theorem names. -/
import Derived.Test.YteikicbnfbgpnaaGreatDe08
set_option linter.all false
namespace Go.Sky
open Go.Proofs.Tryz
open Go.Proofs
set_option synthInstance.maxHeartbeats 0
set_option synthInstance.maxSize 100000
set_option maxRecDepth 20000
set_option maxHeartbeats 1000000
set_option linter.unusedSimpArgs false
def Zan(b:Bool)(s:ByteArray):Xo prog 178 #[.agg #[.bool b,.string s]] [] (.bool (okW b s)):=by
 refine Zf func178 ntmps178 λh g f c=>go 2 ?_;refine Yh (Yi 1) λb _=>go 8 ?_;refine dt (Zve J J J J)<|go 2 ?_;refine Zc J (λa=>?_) (λa=>?_)
 .refine go 10 ?_;exact Xj c () results178 (by unfold okW;rw [aH a]) aA Za
 .refine go 6 ?_;refine dt (Yg0 (i:=0) J J J uT9 J)<|go 2 ?_;refine Yl (d:=13) J (λe=>?_) (λe=>?_)
  .refine go 9 ?_;exact Xj c () results178 (by unfold okW;rw [aE a];simp_all<;>omega) aA Za
  .refine go 9 ?_;exact Xj c () results178 (by unfold okW;rw [aE a];simp_all<;>omega) aA Za
def Lo(x:Int)(a:bl x.natAbs<=65536):Cal prog 178 #[wv x] [] false (G:=Unit) (λ_=>True) (λ_=> .bool true) (λ_=>[]):=Zbt a▸Zan _ _
def Zl9(b:Bool)(s:ByteArray)(c:Bool)(t:ByteArray):Xo prog 228 #[.agg #[.bool b,.string s],.agg #[.bool c,.string t]] [] (.bool (okW b s && okW c t)):=by
 refine Zf func228 ntmps228 λi h g a=>go 2 ?_;refine Yh (Yi 1) λb _=>Yh (Yi 2) λf _=>go 6 ?_;refine cl 2 [] (Zan _ _) λ_ _=>go 1 ?_;refine Zb0 (d:=7) J (λe=>?_) (λe=>?_)
 .refine go 1 ?_;refine Kl 2 [] (Zan _ _) λ_ _=>go 5 ?_;exact Xj a () results228 (by simp_all) aA Za
 .refine go 7 ?_;exact Xj a () results228 (by simp_all) aA Za
def Kr(x y:Int)(a:bl x.natAbs<=65536)(b:bl y.natAbs<=65536):Xo prog 228 #[wv x,wv y] [] (.bool true):=by have h:=Zl9 (decide (x<0)) (Xu x.natAbs) (decide (y<0)) (Xu y.natAbs);rw [Zbt a,Zbt b]at h;exact h
def Ij(x:Int)(e:bl x.natAbs<=65536):Xo prog 237 #[wv x] [] (.int .i64 x.sign):=by refine Zf func237 ntmps237 λh f d a=>go 2 ?_;refine Yh (Yi 1) λb _=>go 7 ?_;refine cl 1 [] (Lo _ ‹_›) λ_ _=>go 9 ?_;refine cl 2 [] (Xy _ _ (Xa _)) λg c=>cl 2 [2] (Zkc _ _ _ ‹_›) λ_ _=>go 4 ?_;exact Xj a () results237 J aA Za
def Zi1(x:Int)(d:bl x.natAbs<=65536):Xo prog 240 #[wv x] [] (.int .i64 (bl x.natAbs:Int)):=by refine Zf func240 ntmps240 λf e c a=>go 2 ?_;refine Yh (Yi 1) λb _=>go 7 ?_;refine cl 1 [] (Lo _ ‹_›) λ_ _=>go 10 ?_;refine cl 2 [] (Zcn _) λv _=>cl 2 [2] (Zkf _ _) λ_ _=>go 4 ?_;exact Xj a () results240 J aA Za
def Zqr(x y:Int)(m:bl x.natAbs<=65536)(n:bl y.natAbs<=65536):Xo prog 180 #[wv x,wv y] [] (Zbf (x+y)):=by refine Zf func180 ntmps180 λp o l a=>?_;have j:=Gj x y;refine go 2 ?_;refine Yh (Yi 1) λb _=>Yh (Yi 2) λe _=>Yh (Zw 3) λf _=>go 8 ?_;refine cl 3 [] (Kr _ _ ‹_› ‹_›) λ_ _=>go 7 ?_;refine Xw (λ_=>False) [(0,0),(2,0),(1,1),(3,1),(4,1),(5,1),(6,0),(7,0),(8,3),(9,3)]<|go 2 ?_;refine Yv (Zj 4 [] (Xy _ _ (Xa _))) λg k=>Yv (Zj 5 [] (Xy _ _ (Xa _))) λh c=>Yv (Zj 6 [4,5] (Zfn _ _ _ _ _ _ ‹_› ‹_›)) λi d=>Yv (Zj 6 [6] (Iy _ _ _ ‹_›)) λ_ _=>go 7 ?_;exact Mn a () results180 J aA Za
def Ybt(x y:Int)(p:bl x.natAbs<=65536)(q:bl y.natAbs<=65536):Xo prog 239 #[wv x,wv y] [] (Zbf (x-y)):=by refine Zf func239 ntmps239 λs r o a=>?_;have m:=Bx x y;have l:=Zqb y;refine go 2 ?_;refine Yh (Yi 1) λb _=>Yh (Yi 2) λf _=>Yh (Zw 3) λh _=>go 8 ?_;refine cl 3 [] (Kr _ _ ‹_› ‹_›) λ_ _=>go 7 ?_;refine Xw (λ_=>False) [(0,0),(2,0),(1,1),(3,1),(4,1),(5,1),(6,1),(7,0),(8,0),(9,3),(10,3)]<|go 2 ?_;refine Yv (Zj 4 [] (Xy _ _ (Xa _))) λg n=>Yv (Zj 5 [] (Xy _ _ (Xa _))) λi c=>Yv (Zj 6 [5] (Zop _ _ _ ‹_›)) λj d=>Yv (Zj 7 [4,6] (Zfn _ _ _ _ _ _ ‹_› ‹_›)) λk e=>Yv (Zj 7 [7] (Iy _ _ _ ‹_› (by rw [<-fL];omega))) λ_ _=>go 7 ?_;exact Mn a () results239 (by rw [fL]<;>rfl) aA Za
def Zqp(x y:Int)(m:bl x.natAbs<=65536)(n:bl y.natAbs<=65536):Xo prog 234 #[wv x,wv y] [] (Zbf (x*y)):=by refine Zf func234 ntmps234 λp o l a=>?_;have j:=Xe x y;refine go 2 ?_;refine Yh (Yi 1) λb _=>Yh (Yi 2) λe _=>Yh (Zw 3) λf _=>go 8 ?_;refine cl 3 [] (Kr _ _ ‹_› ‹_›) λ_ _=>go 7 ?_;refine Xw (λ_=>False) [(0,0),(2,0),(1,1),(3,1),(4,1),(5,1),(6,0),(7,0),(8,3),(9,3)]<|go 2 ?_;refine Yv (Zj 4 [] (Xy _ _ (Xa _))) λg k=>Yv (Zj 5 [] (Xy _ _ (Xa _))) λh c=>Yv (Zj 6 [4,5] (Zcz _ _ _ _ _ _ ‹_› ‹_›)) λi d=>Yv (Zj 6 [6] (Iy _ _ _ ‹_›)) λ_ _=>go 7 ?_;exact Mn a () results234 J aA Za
def Zqq(x y:Int)(k:bl x.natAbs<=65536)(l:bl y.natAbs<=65536):Xo prog 188 #[wv x,wv y] [] (Zbf (Int.gcd x y:Int)):=by refine Zf func188 ntmps188 λn m j c=>?_;have h:=Zqc x.natAbs y.natAbs;refine go 2 ?_;refine Yh (Yi 1) λb _=>Yh (Yi 2) λd _=>Yh (Zw 3) λe _=>go 8 ?_;refine cl 3 [] (Kr _ _ ‹_› ‹_›) λ_ _=>go 7 ?_;refine Xw (λ_=>False) [(0,0),(1,0),(3,0),(4,0),(2,1),(5,1),(6,1),(7,0),(8,1),(9,0),(10,0),(11,3),(12,3)]<|go 4 ?_;refine Yv (Zj 4 [] (Zcn _)) λv _=>Yv (Zj 5 [] (Zcn _)) λf _=>Yv (Zj 6 [4,5] (Zov _ _ _ _)) λg _=>?_;refine Xn J J (Xr (Qa (ivs:=[(0,_),(1,_)]) J K4 (λa w hs=>Kb ((Zr J) a w hs) ((Pg (i:=6) J Zo) a w hs))))<|Yv (Zj 6 [6] (Iy false _ (Int.gcd x y:Int) (by simp [sg]) (by show bl (Nat.gcd x.natAbs y.natAbs)<=_;omega))) λ_ _=>go 7 ?_;exact Mn c () results188 J aA Za
def Co(x y:Int)(hx:bl x.natAbs<=65536)(hy:bl y.natAbs<=65536)(a:y≠0):Xo prog 179 #[wv x,wv y] [] (.tuple #[wv (Zag (x/y)),wv (Zag (x%y)),.int .i64 0]):=by
 refine Zf func179 ntmps179 λw0 sc hw Q=>?_;have hb:=Ziy x y;have i9:=Zzf x y a;refine go 2 ?_;refine Yh (Yi 1) λb _=>Yh (Yi 2) λh3 _=>Yh (Zw 3) λh4 _=>Yh (Zw 4) λh5 _=>go 8 ?_;refine cl 4 [] (Kr _ _ ‹_› ‹_›) λ_ _=>go 11 ?_;refine dt (Zve J J J J)<|go 2 ?_;refine Zc J (λc=>?_) (λc=>?_)
 .rw [Et]at c;exfalso;exact a (by have:=(Pn (by omega:2<=256) y.natAbs).1 c;omega)
 .refine go 2 ?_;refine jn (G:=Bool×Value×Value×Nat×Nat) [4,5] [0,1,2,3,4] (λq=>[(7,.pointer (some ⟨q.2.2.2.1,0,none⟩)),(8,.pointer (some ⟨q.2.2.2.2,0,none⟩))]) (λq=>[(84,Ea q.2.1 (x/y).natAbs),(85,Ea q.2.2.1 (x%y).natAbs),(86,box q.2.2.2.1 219 #[.bool q.1,q.2.1]),(87,box q.2.2.2.2 219 #[.bool false,q.2.2.1])]) (λq=>sg q.1 (x/y)) ?_ ?_
  .refine Ld [1,2] [11]<|Zm (n:=10) [(0,0),(2,0)]<|go 3 ?_;refine Zlt (n:=9) 1 8 9 ?_ ?_ ?_
   .refine Nm (Zj 81 [] (Xy _ _ (Xa _))) λg hg=>?_;refine Zlt (n:=8) 3 8 9 ?_ ?_ ?_
    .refine Nm (Zj 82 [] (Xy _ _ (Xa _))) λi1 e5=>?_;refine Zlt (n:=7) 4 8 9 ?_ ?_ ?_
     .refine Nm (Zj 84 [81,82] (Ot _ _ _ _ _ _ ‹_› ‹_› a)) λi2 e6=>?_;refine Zm (n:=4) [(5,0),(6,0),(7,0)]<|go 4 ?_;refine Qs (n:=3) 8 9 ?_ ?_
      .refine Nm (Pv 86) λh6 ho=>?_;refine Zm (n:=0) [(9,1),(10,1),(11,3)]<|Yv (Pv 87) λh7 j0=>go 3 ?_;exact Zz<|Oj (_,_,_,_,_) ‹_› K2 K4
      .refine Nm (Pv 87) λh8 j1=>?_;refine Zm (n:=0) [(8,1),(10,1),(11,3)]<|Yv (Pv 86) λh9 j2=>go 3 ?_;exact Zz<|Oj (_,_,_,_,_) ‹_› K2 K4
     .refine Nm (Pv 86) λi0 j3=>?_;refine Qs (n:=6) 4 9 ?_ ?_
      .refine Nm (Zj 84 [81,82] (Ot _ _ _ _ _ _ ‹_› ‹_› a)) λi3 e7=>?_;refine Zm (n:=0) [(5,0),(6,0),(7,0),(9,1),(10,1),(11,3)]<|go 3 ?_;refine Yv (Pv 87) λR j4=>go 3 ?_;exact Zz<|Oj (_,_,_,_,_) ‹_› K2 K4
      .refine Nm (Pv 87) λS j5=>?_;refine Zm (n:=0) [(4,1),(5,0),(6,0),(7,0),(10,1),(11,3)]<|Yv (Zj 84 [81,82] (Ot _ _ _ _ _ _ ‹_› ‹_› a)) λi4 e8=>go 6 ?_;exact Zz<|Oj (_,_,_,_,_) ‹_› K2 K4
     .refine Nm (Pv 87) λV j6=>?_;refine Qs (n:=6) 4 8 ?_ ?_
      .refine Nm (Zj 84 [81,82] (Ot _ _ _ _ _ _ ‹_› ‹_› a)) λi5 e9=>?_;refine Zm (n:=0) [(5,0),(6,0),(7,0),(8,1),(10,1),(11,3)]<|go 3 ?_;refine Yv (Pv 86) λW j7=>go 3 ?_;exact Zz<|Oj (_,_,_,_,_) ‹_› K2 K4
      .refine Nm (Pv 86) λY f3=>?_;refine Zm (n:=0) [(4,1),(5,0),(6,0),(7,0),(10,1),(11,3)]<|Yv (Zj 84 [81,82] (Ot _ _ _ _ _ _ ‹_› ‹_› a)) λi6 f0=>go 6 ?_;exact Zz<|Oj (_,_,_,_,_) ‹_› K2 K4
    .refine Nm (Pv 86) λZ f4=>?_;refine Qs (n:=7) 3 9 ?_ ?_
     .refine Nm (Zj 82 [] (Xy _ _ (Xa _))) λi7 f1=>?_;refine Qs (n:=6) 4 9 ?_ ?_
      .refine Nm (Zj 84 [81,82] (Ot _ _ _ _ _ _ ‹_› ‹_› a)) λi8 f2=>?_;refine Zm (n:=0) [(5,0),(6,0),(7,0),(9,1),(10,1),(11,3)]<|go 3 ?_;refine Yv (Pv 87) λa0 f5=>go 3 ?_;exact Zz<|Oj (_,_,_,_,_) ‹_› K2 K4
      .refine Nm (Pv 87) λa1 f6=>?_;refine Zm (n:=0) [(4,1),(5,0),(6,0),(7,0),(10,1),(11,3)]<|Yv (Zj 84 [81,82] (Ot _ _ _ _ _ _ ‹_› ‹_› a)) λb9 d=>go 6 ?_;exact Zz<|Oj (_,_,_,_,_) ‹_› K2 K4
     .refine Nm (Pv 87) λa2 f7=>?_;refine Zm (n:=0) [(3,1),(4,1),(5,0),(6,0),(7,0),(10,1),(11,3)]<|Yv (Zj 82 [] (Xy _ _ (Xa _))) λc0 e=>Yv (Zj 84 [81,82] (Ot _ _ _ _ _ _ ‹_› ‹_› a)) λc1 f=>go 6 ?_;exact Zz<|Oj (_,_,_,_,_) ‹_› K2 K4
    .refine Nm (Pv 87) λa3 f8=>?_;refine Qs (n:=7) 3 8 ?_ ?_
     .refine Nm (Zj 82 [] (Xy _ _ (Xa _))) λc2 h=>?_;refine Qs (n:=6) 4 8 ?_ ?_
      .refine Nm (Zj 84 [81,82] (Ot _ _ _ _ _ _ ‹_› ‹_› a)) λc3 i=>?_;refine Zm (n:=0) [(5,0),(6,0),(7,0),(8,1),(10,1),(11,3)]<|go 3 ?_;refine Yv (Pv 86) λa4 f9=>go 3 ?_;exact Zz<|Oj (_,_,_,_,_) ‹_› K2 K4
      .refine Nm (Pv 86) λa5 g0=>?_;refine Zm (n:=0) [(4,1),(5,0),(6,0),(7,0),(10,1),(11,3)]<|Yv (Zj 84 [81,82] (Ot _ _ _ _ _ _ ‹_› ‹_› a)) λc4 j=>go 6 ?_;exact Zz<|Oj (_,_,_,_,_) ‹_› K2 K4
     .refine Nm (Pv 86) λa6 g1=>?_;refine Zm (n:=0) [(3,1),(4,1),(5,0),(6,0),(7,0),(10,1),(11,3)]<|Yv (Zj 82 [] (Xy _ _ (Xa _))) λc5 k=>Yv (Zj 84 [81,82] (Ot _ _ _ _ _ _ ‹_› ‹_› a)) λc6 l=>go 6 ?_;exact Zz<|Oj (_,_,_,_,_) ‹_› K2 K4
   .refine Nm (Pv 86) λa7 g2=>?_;refine Qs (n:=8) 1 9 ?_ ?_
    .refine Nm (Zj 81 [] (Xy _ _ (Xa _))) λc7 m=>?_;refine Qs (n:=7) 3 9 ?_ ?_
     .refine Nm (Zj 82 [] (Xy _ _ (Xa _))) λc8 o=>?_;refine Qs (n:=6) 4 9 ?_ ?_
      .refine Nm (Zj 84 [81,82] (Ot _ _ _ _ _ _ ‹_› ‹_› a)) λc9 p=>?_;refine Zm (n:=0) [(5,0),(6,0),(7,0),(9,1),(10,1),(11,3)]<|go 3 ?_;refine Yv (Pv 87) λa8 g3=>go 3 ?_;exact Zz<|Oj (_,_,_,_,_) ‹_› K2 K4
      .refine Nm (Pv 87) λa9 g4=>?_;refine Zm (n:=0) [(4,1),(5,0),(6,0),(7,0),(10,1),(11,3)]<|Yv (Zj 84 [81,82] (Ot _ _ _ _ _ _ ‹_› ‹_› a)) λd0 r=>go 6 ?_;exact Zz<|Oj (_,_,_,_,_) ‹_› K2 K4
     .refine Nm (Pv 87) λb0 g5=>?_;refine Zm (n:=0) [(3,1),(4,1),(5,0),(6,0),(7,0),(10,1),(11,3)]<|Yv (Zj 82 [] (Xy _ _ (Xa _))) λd1 s=>Yv (Zj 84 [81,82] (Ot _ _ _ _ _ _ ‹_› ‹_› a)) λd2 t=>go 6 ?_;exact Zz<|Oj (_,_,_,_,_) ‹_› K2 K4
    .refine Nm (Pv 87) λb1 g6=>?_;refine Zm (n:=0) [(1,1),(3,1),(4,1),(5,0),(6,0),(7,0),(10,1),(11,3)]<|Yv (Zj 81 [] (Xy _ _ (Xa _))) λd3 u=>Yv (Zj 82 [] (Xy _ _ (Xa _))) λd4 v=>Yv (Zj 84 [81,82] (Ot _ _ _ _ _ _ ‹_› ‹_› a)) λd5 w=>go 6 ?_;exact Zz<|Oj (_,_,_,_,_) ‹_› K2 K4
   .refine Nm (Pv 87) λb2 g7=>?_;refine Qs (n:=8) 1 8 ?_ ?_
    .refine Nm (Zj 81 [] (Xy _ _ (Xa _))) λd6 z=>?_;refine Qs (n:=7) 3 8 ?_ ?_
     .refine Nm (Zj 82 [] (Xy _ _ (Xa _))) λd7 B=>?_;refine Qs (n:=6) 4 8 ?_ ?_
      .refine Nm (Zj 84 [81,82] (Ot _ _ _ _ _ _ ‹_› ‹_› a)) λd8 D=>?_;refine Zm (n:=0) [(5,0),(6,0),(7,0),(8,1),(10,1),(11,3)]<|go 3 ?_;refine Yv (Pv 86) λb3 g9=>go 3 ?_;exact Zz<|Oj (_,_,_,_,_) ‹_› K2 K4
      .refine Nm (Pv 86) λb4 h0=>?_;refine Zm (n:=0) [(4,1),(5,0),(6,0),(7,0),(10,1),(11,3)]<|Yv (Zj 84 [81,82] (Ot _ _ _ _ _ _ ‹_› ‹_› a)) λd9 F=>go 6 ?_;exact Zz<|Oj (_,_,_,_,_) ‹_› K2 K4
     .refine Nm (Pv 86) λb5 h1=>?_;refine Zm (n:=0) [(3,1),(4,1),(5,0),(6,0),(7,0),(10,1),(11,3)]<|Yv (Zj 82 [] (Xy _ _ (Xa _))) λe0 H=>Yv (Zj 84 [81,82] (Ot _ _ _ _ _ _ ‹_› ‹_› a)) λe1 I=>go 6 ?_;exact Zz<|Oj (_,_,_,_,_) ‹_› K2 K4
    .refine Nm (Pv 86) λb6 h2=>?_;refine Zm (n:=0) [(1,1),(3,1),(4,1),(5,0),(6,0),(7,0),(10,1),(11,3)]<|Yv (Zj 81 [] (Xy _ _ (Xa _))) λe2 M=>Yv (Zj 82 [] (Xy _ _ (Xa _))) λe3 N=>Yv (Zj 84 [81,82] (Ot _ _ _ _ _ _ ‹_› ‹_› a)) λe4 P=>go 6 ?_;exact Zz<|Oj (_,_,_,_,_) ‹_› K2 K4
  .rintro⟨qb,qv,rv,b7,b8⟩ hq;dsimp only at hq;dsimp only;refine go 3 ?_;refine cl 4 [84] (Iy _ _ _ ‹_›) λ_ _=>go 9 ?_;refine cl 4 [85] (Iy _ _ _ (Yjn x a)) λ_ _=>go 7 ?_;refine Ld [4] [3,4]<|Zm (n:=0) [(1,0),(0,1),(2,1),(3,3),(4,3)]<|go 6 ?_;refine Zz<|go 2 ?_;exact xe3 Q () results179 J aA Za
def Zbe(s t:Bool)(v w:Value)(x y:Int)(hs:sg s x)(p:sg t y)(m:y≠0)(hx:bl x.natAbs<=1000000000:=by omega)(hy:bl y.natAbs<=1000000000:=by omega):Xo prog 165 #[.agg #[.bool s,v],.agg #[.bool t,w]] [Ea v x.natAbs,Ea w y.natAbs] (Zas x y):=by
 refine Zf func165 ntmps165 λw0 sc Z c=>?_;have W:=Zqc x.natAbs y.natAbs;have f:Lb x y≠0:=Ykt m;have j:sg t (Lb x y):=Yjl p m;have h:=Zbx x y;have R:=Ziy x (Lb x y);have S:=Ziy y (Lb x y);refine go 2 ?_;refine Yh (Yi 3) λb _=>Yh (Yi 4) λz _=>Yh (Zw 5) λB _=>go 4 ?_;refine Hr (λ_=>False) [9]<|Zm (n:=4) [(0,0),(1,0),(2,0),(3,0),(4,0),(5,0)]<|go 7 ?_;refine Qs (n:=3) 6 8 ?_ ?_
 .refine Nm (Zj 81 [1,2] (Zov _ _ _ _)) λv _=>?_;refine Zm (n:=0) [(7,0),(8,1),(9,3)]<|Xn J J (Xr (Qa (ivs:=[(0,_),(1,_)]) J K4 (λa w hs=>Kb ((Zr J) a w hs) ((Pg (i:=81) J Zo) a w hs))))<|Yv (Zw 82) λD _=>go 2 ?_;refine Zz<|go 2 ?_;refine Zg (Om 81 (Zxm _ x y) J J)<|go 3 ?_;refine cl 6 [1,81] (Ot _ _ _ _ x (Lb x y) hs j f O1 (by rw [h];omega)) λg Y=>go 10 ?_;refine cl 8 [2,81] (Ot _ _ _ _ y (Lb x y) p j f O1 (by rw [h];omega)) λN q=>go 9 ?_;refine cl 9 [6] (Iy _ _ _ ‹_›) λ_ _=>go 3 ?_;refine Yh (Zw 10) λF _=>go 7 ?_;refine cl 10 [8] (Iy _ _ _ ‹_›) λ_ _=>go 3 ?_;refine Yh (Zw 11) λG _=>go 10 ?_;refine Yl (d:=43) J (λo=>?_) (λo=>?_)
  .refine go 8 ?_;refine dt (Qa (ivs:=[]) J aA (λa w hs=>Yh2))<|go 6 ?_;exact Mn c () results165 (Zar (by unfold Kc;first|exact .inl (Bs ‹_›)|exact .inr (Bs ‹_›))) aA Za
  .refine go 5 ?_;refine Zc J (λl=>?_) (λl=>?_)
   .refine go 2 ?_;refine dt (Qa (ivs:=[]) J aA (λa w hs=>Yh2))<|go 6 ?_;exact Mn c () results165 (Zar (by unfold Kc;first|exact .inl (Bs ‹_›)|exact .inr (Bs ‹_›))) aA Za
   .refine go 6 ?_;refine dt (Qa (ivs:=[(0,_),(1,_)]) J K4 (λa w hs=>Zlp))<|go 5 ?_;exact Mn c () results165 (Zrm (cJ ‹_›) (cJ ‹_›)) aA Za
 .refine Nm (Zw 82) λH _=>?_;refine Zm (n:=0) [(6,1),(7,0),(9,3)]<|Yv (Zj 81 [1,2] (Zov _ _ _ _)) λV _=>?_;refine Xn J J (Xr (Qa (ivs:=[(0,_),(1,_)]) J K4 (λa w hs=>Kb ((Zr J) a w hs) ((Pg (i:=81) J Zo) a w hs))))<|go 2 ?_;refine Zz<|go 2 ?_;refine Zg (Om 81 (Zxm _ x y) J J)<|go 3 ?_;refine cl 12 [1,81] (Ot _ _ _ _ x (Lb x y) hs j f O1 (by rw [h];omega)) λP r=>go 10 ?_;refine cl 14 [2,81] (Ot _ _ _ _ y (Lb x y) p j f O1 (by rw [h];omega)) λQ u=>go 9 ?_;refine cl 15 [12] (Iy _ _ _ ‹_›) λ_ _=>go 3 ?_;refine Yh (Zw 16) λI _=>go 7 ?_;refine cl 16 [14] (Iy _ _ _ ‹_›) λ_ _=>go 3 ?_;refine Yh (Zw 17) λM _=>go 10 ?_;refine Yl (d:=43) J (λk=>?_) (λk=>?_)
  .refine go 8 ?_;refine dt (Qa (ivs:=[]) J aA (λa w hs=>Yh2))<|go 6 ?_;exact Mn c () results165 (Zar (by unfold Kc;first|exact .inl (Bs ‹_›)|exact .inr (Bs ‹_›))) aA Za
  .refine go 5 ?_;refine Zc J (λe=>?_) (λe=>?_)
   .refine go 2 ?_;refine dt (Qa (ivs:=[]) J aA (λa w hs=>Yh2))<|go 6 ?_;exact Mn c () results165 (Zar (by unfold Kc;first|exact .inl (Bs ‹_›)|exact .inr (Bs ‹_›))) aA Za
   .refine go 6 ?_;refine dt (Qa (ivs:=[(0,_),(1,_)]) J K4 (λa w hs=>Zlp))<|go 5 ?_;exact Mn c () results165 (Zrm (cJ ‹_›) (cJ ‹_›)) aA Za
def Zdz(x y:Int)(l:bl x.natAbs<=65536)(m:bl y.natAbs<=65536)(c:y≠0:=by omega):Xo prog 221 #[wv x,wv y] [] (Zas x y):=by
 refine Zf func221 ntmps221 λo n k d=>go 2 ?_;refine Yh (Yi 1) λb _=>Yh (Yi 2) λf _=>Yh (Zw 3) λh _=>go 8 ?_;refine cl 3 [] (Kr _ _ ‹_› ‹_›) λ_ _=>go 11 ?_;refine dt (Zve J J J J)<|go 2 ?_;refine Zc J (λa=>?_) (λa=>?_)
 .rw [Et]at a;exfalso;exact c (by have:=(Pn (by omega:2<=256) y.natAbs).1 a;omega)
 .refine go 3 ?_;refine Xw (λ_=>False) [(0,0),(2,0),(1,1),(3,1),(4,1),(5,0),(6,0),(7,3),(8,3)]<|go 2 ?_;refine Yv (Zj 4 [] (Xy _ _ (Xa _))) λg j=>Yv (Zj 5 [] (Xy _ _ (Xa _))) λi e=>Yv (Zj 5 [4,5] (Zbe _ _ _ _ _ _ ‹_› ‹_› c)) λ_ _=>go 7 ?_;exact Mn d () results221 J aA Za
def Zhz(b:Bool)(s:ByteArray)(c:Bool)(t:ByteArray):Xo prog 216 #[.agg #[.bool b,.string s,.bool c,.string t]] [] (.bool (okR b s c t)):=by
 refine Zf func216 ntmps216 λm l k h=>go 2 ?_;refine Yh (Yi 1) λb _=>go 9 ?_;refine cl 1 [] (Zl9 _ _ _ _) λ_ _=>go 1 ?_;refine Zb0 (d:=8) J (λi=>?_) (λi=>?_)
 .have j:okW c t=true:=by simp_all
  have e:=Zon j;obtain⟨a,f,g⟩:=kL e;generalize Classical.choose e=z at a f g ⊢;subst f;subst g
  try clear e
  refine go 2 ?_;refine Kl 1 [] (Ij z a) λ_ _=>go 6 ?_;exact Xj h () results216 (by first|rw [Zr1 (by simp_all) a]|(unfold okR;simp_all)) aA Za
 .refine go 9 ?_;exact Xj h () results216 (by first|rw [Zr1 (by simp_all) a]|(unfold okR;simp_all)) aA Za
def My(x y:Int)(b:bl x.natAbs<=65536)(c:bl y.natAbs<=65536)(a:0<y):Cal prog 216 #[rX x y] [] false (G:=Unit) (λ_=>True) (λ_=> .bool true) (λ_=>[]):=okR_wv b c a▸Zhz _ _ _ _
def Zn(x:Int)(f:Oz x:=by exact⟨O1,O1⟩):Xo prog 131 #[.int .i64 x] [] (wv x):=by
 refine Zf func131 ntmps131 λn m h e=>?_;have j:=f.1;have k:=f.2;have d:x.natAbs<U:=by simp only [U];omega
 have l:bl x.natAbs<=64:=(Xz 64 _).2 (by rw [<-Yig];exact d);refine go 2 ?_;refine Yh (Zw 1) λb _=>go 5 ?_;refine dt (Ylt (r:=x%18446744073709551616) J J uT3 Al J)<|go 3 ?_;refine jn (G:=Unit) [0,2] [0,1] (λ_=>[(3,.int .u64 ((x.natAbs:Nat):Int))]) (λ_=>[]) (λ_=>True) ?_ ?_
 .refine go 6 ?_;refine Zc J (λc=>?_) (λc=>?_)
  .refine go 2 ?_;refine dt (Yb0 (r:=x.natAbs) J J O1)<|go 2 ?_;exact Oj () aA ⟨by first|rfl|(rw [show x%18446744073709551616=((x.natAbs:Nat):Int) by omega];rfl),aA⟩ aA
  .refine go 1 ?_;exact Oj () aA ⟨by first|rfl|(rw [show x%18446744073709551616=((x.natAbs:Nat):Int) by omega];rfl),aA⟩ aA
 .rintro _ -;refine go 5 ?_;refine tt (Qr (i:=2) (ivs:=[(0,_)]) (enc:=Mb) [x.natAbs] J J K2 Pk ti232 J J J J J pU.cells J J h.h) λv _=>cl 2 [2] (Pr _ _) λ_ _=>?_;refine Xp (Zbd 2 J J pU)<|Xp (Zhl 2 (Zgj d) J J)<|dt (Qa (ivs:=[(0,_),(1,_)]) J K4 (λa w hs=>Kb ((Zr J) a w hs) ((Pg (i:=2) J (Yn pU)) a w hs)))<|cl 2 [2] (Iy _ _ x (Xa _)) λ_ _=>go 3 ?_;refine Yh (Zw 3) λg _=>go 11 ?_;exact Xj e () results131 (by rw [Kx O1]<;>rfl) aA Za
def Zcw(v:Value)(xs:List Int)(hs:Sz 65536 xs):Cal prog 189 #[v] [Ym 2 wv v xs] true (G:=Unit) (λ_=>True) (λ_=>Lq v (tzl xs).length) (λ_=>[Ym 2 wv (Lq v (tzl xs).length) (tzl xs)]):=by
 refine Zf func189 ntmps189 λp o n c=>?_;refine Oi (Zu4 (i:=1) J Zo) (λa=>?_);refine Oi (Ip (i:=1) J Zo) λm=>go 7 ?_;refine lp (G:=Nat) [] [0] (λk=>[(0,Lq v k)]) (λk=>[(1,Ym 2 wv (Lq v k) (xs.take k))]) (λk=>(k<=xs.length)/\(tzl (xs.take k)=tzl xs)) (λk=>k) xs.length ⟨aI _,by rw [bP]⟩ ⟨by rw [a];rfl,aA⟩ ⟨by rw [a,bP];rfl,aA⟩ ?_;rintro k ⟨h,j⟩;have f:(xs.take k).length=k:=by rw [aR];omega
 refine go 7 ?_;refine Yl (d:=6) J (λl=>?_) (λl=>?_)
 .refine go 4 ⟨O1,?_⟩;refine Kv (Zy (ii:=1) (i:=k-1) J J J J Zo Nw Lf) J J<|go 1 ⟨O1,?_⟩;refine Kl 1 [] (Ij _ ((hs.take _).getD _)) λ_ _=>go 4 ?_;refine Zc J (λg=>?_) (λg=>?_)
  .have b:=Zqv h O1 (Zjd (k:=k) O1 (fC.1 ‹_›):cf xs (k-1)=0);refine go 8 ⟨O1,?_⟩;refine dt (Zyk (ii:=1) (i:=k-1) J J J J Zo Nw Lf)<|go 3 ?_;exact Yg (Yde 1 1 (k-1) J J)<|Yq (k-1) ⟨O2,by rw [<-j,<-b]⟩ O2 ⟨by rw [<-Gv v k (k-1)];rfl,aA⟩ ⟨by rw [Gv,iM,dD O1];rfl,aA⟩
  .refine go 12 ?_;have e:tzl xs=xs.take k:=by rw [<-j];exact Zew h (by first|(left;omega)|(right;exact Ze0 (k:=k) O1 ‹_›))
   exact Xj c () results189 (by rw [e,f]) aA (Ns 1 Za (by rw [e,f]))
 .refine go 24 ?_;have e:tzl xs=xs.take k:=by rw [<-j];exact Zew h (by first|(left;omega)|(right;exact Ze0 (k:=k) O1 ‹_›))
  exact Xj c () results189 (by rw [e,f]) aA (Ns 1 Za (by rw [e,f]))
def Zui(v:Value)(r:List (Bool×ByteArray)):Xo prog 190 #[v] [Ym 2 Zu8 v r] (.bool (okP r)):=by
 refine Zf func190 ntmps190 λu t s a=>?_;refine Oi (Ip (i:=1) J Zo) λg=>go 14 ?_;refine lp (G:=Nat) [0,5,6] [0,1] (λk=>[(7,.int .i64 (k:Int))]) (λk=>[]) (λk=>(k<=r.length)/\((r.take k).all (λw=>okW w.1 w.2)=true)) (λk=>r.length-k) 0 ⟨O2,O7⟩ K1 aA ?_;rintro k ⟨p,l⟩;refine go 6 ?_;refine Zc J (λj=>?_) (λj=>?_)
 .refine go 7 ⟨O3,?_⟩;refine dt (Pe (ii:=1) (false,⟨#[]⟩) J J J Zo pW O3)<|Yh (Zw 2) λb _=>go 6 ?_;refine cl 2 [] (Zan _ _) λ_ _=>go 3 ?_;refine Mr J (λf=>?_) (λf=>?_)
  .refine go 11 ?_;exact Xj a () results190 (by rw [Ykh (Ze (i:=k) (d:=(false,⟨#[]⟩))) (by simp_all)]) aA Za
  .refine go 7 ⟨O1,?_⟩;exact Yq (k+1) ⟨O2,by rw [Ph (false,⟨#[]⟩) _ _ O1,List.all_append,l];simpa using f⟩ O2 K1 aA
 .refine go 6 ?_;obtain rfl:k=r.length:=O1;rw [bP]at l;obtain⟨o,c,rfl⟩:=Zr0 (cL.1 l);have m:=Sz.of_mem c;rw [aW]at g;refine Zg (Zn0 1 (q:=Ym 2 wv v o) J J (Yjh v o) (λ_ h=>fpn h) J)<|go 5 ?_;refine Yl (d:=18) J (λn=>?_) (λn=>?_)
  .refine go 4 ?_;refine Yl (d:=22) J (λe=>?_) (λe=>?_)
   .refine go 14 ?_;exact Xj a () results190 (by rw [Zoo c];first|(simp_all;done)|(simp_all;omega)) aA Za
   .refine go 4 ⟨O1,?_⟩;refine Kv (Zy (ii:=1) (i:=o.length-1) J J J J Zo Nw Lf) J J<|go 1 ⟨O1,?_⟩;refine Kl 2 [] (Ij _ (m.getD _)) λ_ _=>go 7 ?_;exact Xj a () results190 (by rw [Zoo c];first|(simp_all;done)|(simp_all;omega)) aA Za
  .refine go 18 ?_;exact Xj a () results190 (by rw [Zoo c];first|(simp_all;done)|(simp_all;omega)) aA Za
def Xf(v:Value)(xs:List Int)(h:Vp xs):Cal prog 190 #[v] [Ym 2 wv v xs] false (G:=Unit) (λ_=>True) (λ_=> .bool true) (λ_=>[]):=okP_wr h▸(Zui v (xs.map wr)).imp (Zt5 v xs) (λ_ h=>fpm h)
def Nj(v:Value)(xs:List Int)(hs:Sz 65536 xs):Xo prog 195 #[v] [Ym 2 wv v xs] (.int .i64 (Qm xs:Int)):=by
 refine Zf func195 ntmps195 λh g f c=>?_;refine Oi (Ip (i:=1) J Zo) λd=>go 19 ?_;refine lp (G:=Nat) [6,7] [0,1] (λk=>[(8,.int .i64 (k:Int)),(3,.int .i64 (Qm (xs.take k):Int))]) (λk=>[]) (λk=>k<=xs.length) (λk=>xs.length-k) 0 O2 K2 aA ?_;rintro k e;refine go 6 ?_;refine Zc J (λa=>?_) (λa=>?_)
 .refine go 8 ⟨O3,O3,?_⟩;refine Yh (Zw 2) λb _=>go 6 ?_;refine cl 2 [] (Zi1 _ (hs.getD _)) λ_ _=>?_;refine dt (Zdu J J J)<|go 8 ⟨O1,?_⟩;exact Yq (k+1) O2 O2 ⟨J,by rw [Ph 0 _ _ O1,Yet];exact aK some (Zb3 O1),aA⟩ aA
 .refine go 12 ?_;exact Xj c () results195 (by rw [bZ O1]) aA Za
def Zph(f:Nat)(t:TypeId)(e g:Int)(n:Bool)(s:ByteArray):Zcl prog 238 #[.pointer (some ⟨f,0,none⟩),.agg #[.bool n,.string s],.int .i64 g] [] false f t #[.int .i64 e] (G:=Unit) (λ_=>True) (λ_=> .agg #[.bool n,.string s]) (λ_=>#[.int .i64 (if e=0 then g else e)]) (λ_=>[]):=by
 refine Fv func238 J ntmps238 J aA ?_;intro l k h c;have h:=Hw.mk h;simp only [Qv,Yy];refine go 2 ?_;refine Yh (Yi 2) λb _=>Yh (Zw 3) λj _=>go 12 ?_;refine Zc J (λd=>?_) (λd=>?_)
 .refine go 15 ?_;exact Ec (.inl J) c () _ (λa w hs=>Zde hs results238 (Fh (i:=3) J J isAgg80 Lf J)) J aA 1 J (by simp_all [Gx]) J J Za
 .refine go 9 ?_;exact Ec (.inl J) c () _ (λa w hs=>Zde hs results238 (Fh (i:=3) J J isAgg80 Lf J)) J aA 1 J (by simp_all [Gx]) J J Za
def d_mul_(c:Nat)(e x y:Int)(j:bl x.natAbs<=65536)(k:bl y.natAbs<=65536):Zcl prog 191 #[.pointer (some ⟨c,0,none⟩),wv x,wv y] [] false c 250 #[.int .i64 e] (G:=Unit) (λ_=>True) (λ_=>wv (Zag (x*y))) (λ_=>#[.int .i64 (err e (x*y))]) (λ_=>[]):=by refine Fv func191 J ntmps191 J aA ?_;intro m l f d;have f:=Hw.mk f;simp only [Qv,Yy];refine go 2 ?_;refine Yh (Yi 2) λb _=>Yh (Yi 3) λg _=>Yh (Zw 4) λh _=>go 3 ?_;refine Xw (λx=>x=c) [(0,0),(1,0),(2,0),(3,0),(4,0),(5,1),(6,0),(7,0),(8,1),(9,3)]<|go 5 ?_;refine Yv (Zj 4 [] (Zqp _ _ ‹_› ‹_›)) λ_ _=>go 2 ?_;refine Dn J (Qd (n:=4) (i:=1) (Zph _ _ _ _ _ _) J J J K3 call238 J O4 Zx J f.h J) λ_ _=>go 4 ?_;exact Ec (.inl J) d () _ (λa w hs=>Zde hs results191 (Fh (i:=4) J J isAgg80 Lf J)) J aA 1 J J J J Za
def Eo(a:Nat)(x y:Int)(c:bl x.natAbs<=65536)(d:bl y.natAbs<=65536)(b:bl (x*y).natAbs<=65536):Zcl prog 191 #[.pointer (some ⟨a,0,none⟩),wv x,wv y] [] false a 250 #[.int .i64 0] (G:=Unit) (λ_=>True) (λ_=>wv (x*y)) (λ_=>#[.int .i64 0]) (λ_=>[]):=by have h:=d_mul_ a 0 x y c d;rw [Kx b,Zu7 b]at h;exact h
def d_add_(c:Nat)(e x y:Int)(j:bl x.natAbs<=65536)(k:bl y.natAbs<=65536):Zcl prog 196 #[.pointer (some ⟨c,0,none⟩),wv x,wv y] [] false c 250 #[.int .i64 e] (G:=Unit) (λ_=>True) (λ_=>wv (Zag (x+y))) (λ_=>#[.int .i64 (err e (x+y))]) (λ_=>[]):=by refine Fv func196 J ntmps196 J aA ?_;intro m l f d;have f:=Hw.mk f;simp only [Qv,Yy];refine go 2 ?_;refine Yh (Yi 2) λb _=>Yh (Yi 3) λg _=>Yh (Zw 4) λh _=>go 3 ?_;refine Xw (λx=>x=c) [(0,0),(1,0),(2,0),(3,0),(4,0),(5,1),(6,0),(7,0),(8,1),(9,3)]<|go 5 ?_;refine Yv (Zj 4 [] (Zqr _ _ ‹_› ‹_›)) λ_ _=>go 2 ?_;refine Dn J (Qd (n:=4) (i:=1) (Zph _ _ _ _ _ _) J J J K3 call238 J O4 Zx J f.h J) λ_ _=>go 4 ?_;exact Ec (.inl J) d () _ (λa w hs=>Zde hs results196 (Fh (i:=4) J J isAgg80 Lf J)) J aA 1 J J J J Za
def Zk9(a:Nat)(x y:Int)(c:bl x.natAbs<=65536)(d:bl y.natAbs<=65536)(b:bl (x+y).natAbs<=65536):Zcl prog 196 #[.pointer (some ⟨a,0,none⟩),wv x,wv y] [] false a 250 #[.int .i64 0] (G:=Unit) (λ_=>True) (λ_=>wv (x+y)) (λ_=>#[.int .i64 0]) (λ_=>[]):=by have h:=d_add_ a 0 x y c d;rw [Kx b,Zu7 b]at h;exact h
def d_sub_(c:Nat)(e x y:Int)(j:bl x.natAbs<=65536)(k:bl y.natAbs<=65536):Zcl prog 194 #[.pointer (some ⟨c,0,none⟩),wv x,wv y] [] false c 250 #[.int .i64 e] (G:=Unit) (λ_=>True) (λ_=>wv (Zag (x-y))) (λ_=>#[.int .i64 (err e (x-y))]) (λ_=>[]):=by refine Fv func194 J ntmps194 J aA ?_;intro m l f d;have f:=Hw.mk f;simp only [Qv,Yy];refine go 2 ?_;refine Yh (Yi 2) λb _=>Yh (Yi 3) λg _=>Yh (Zw 4) λh _=>go 3 ?_;refine Xw (λx=>x=c) [(0,0),(1,0),(2,0),(3,0),(4,0),(5,1),(6,0),(7,0),(8,1),(9,3)]<|go 5 ?_;refine Yv (Zj 4 [] (Ybt _ _ ‹_› ‹_›)) λ_ _=>go 2 ?_;refine Dn J (Qd (n:=4) (i:=1) (Zph _ _ _ _ _ _) J J J K3 call238 J O4 Zx J f.h J) λ_ _=>go 4 ?_;exact Ec (.inl J) d () _ (λa w hs=>Zde hs results194 (Fh (i:=4) J J isAgg80 Lf J)) J aA 1 J J J J Za
def Zvb(a:Nat)(x y:Int)(c:bl x.natAbs<=65536)(d:bl y.natAbs<=65536)(b:bl (x-y).natAbs<=65536):Zcl prog 194 #[.pointer (some ⟨a,0,none⟩),wv x,wv y] [] false a 250 #[.int .i64 0] (G:=Unit) (λ_=>True) (λ_=>wv (x-y)) (λ_=>#[.int .i64 0]) (λ_=>[]):=by have h:=d_sub_ a 0 x y c d;rw [Kx b,Zu7 b]at h;exact h
def Yg2(c:Nat)(v:Value)(xs:List Int)(hs:Sz 65536 xs):Cal prog 192 #[.pointer (some ⟨c,0,none⟩),v] [Ie c 250 #[.int .i64 0],Ym 2 wv v xs] true (G:=Unit) (λ_=>True) (λ_=> .tuple #[Lq v (tzl xs).length,.int .i64 0]) (λ_=>[Ym 2 wv (Lq v (tzl xs).length) (tzl xs)]):=by
 refine Zf func192 ntmps192 λf e d b=>go 17 ?_;refine Zc J (λa=>?_) (λa=>?_)
 .exfalso;simp_all
 .refine go 5 ?_;refine cl 3 [2] (Zcw _ _ ‹_›) λ_ _=>go 5 ?_;exact Mn b () results192 J aA (Ns 3 Za)
def Ob(v:Value)(xs:List Int)(c:Int)(g:Vp xs)(m:bl c.natAbs<=65536)(h:∀i,bl (cf xs i*c).natAbs<=65536):Cal prog 136 #[v,wv c] [Ym 2 wv v xs] true (G:=Value) (λr=>True) (λr=> .tuple #[r,.int .i64 0]) (λr=>[Ym 2 wv r (Zl xs c)]):=by
 refine Zf func136 ntmps136 λq p e d=>?_;have f:=g.len;refine go 2 ?_;refine Yh (Yi 2) λb _=>go 8 ?_;refine cl 2 [1] (Xf _ _ ‹_›) λ_ _=>go 3 ?_;refine Kl 2 [] (Lo _ ‹_›) λ_ _=>go 9 ?_;refine Yh (Zw 3) λj _=>go 6 ?_;refine tt (Gt (i:=4) (n:=_) (by_:=24) (enc:=wv) 0 J J J J Nw ti80 J pV.cells pV.pos J J J e.h J J) λv _=>go 12 ?_;refine lp (G:=Nat) [3,6,7,21,22] [0,1,2,3] (λk=>[(23,.int .i64 (k:Int))]) (λk=>[(4,Ox 2 80 wv v (fill xs.length k (λi=>cf xs i*c)))]) (λk=>k<=xs.length) (λk=>xs.length-k) 0 O2 K1 ⟨by rw [Cn xs.length (λi=>cf xs i*c)];rfl,aA⟩ ?_;rintro k o;refine go 6 ?_;refine Zc J (λa=>?_) (λa=>?_)
 .refine go 9 ⟨O3,O3,?_⟩;refine Yh (Zw 5) λl _=>go 9 ?_;refine tt (Qd (n:=5) (i:=3) (Eo _ _ _ (g.sz.getD _) m (h _)) J J J K3 call191 J O4 Zx J e.h aA) (λ_ _=>?_);refine dt (Zy (ii:=4) (i:=k) J J J J (Yn pV) Nw Lf J (by rw [Qn];omega))<|tt (Lj (i:=4) (enc:=wv) _ J J J J J J pV J e.h O4 (by rw [Qn];omega)) (λ_ _=>?_);refine go 7 ⟨O1,?_⟩;exact Yq (k+1) O2 O2 K1 ⟨by rw [<-Zb5 O1];rfl,aA⟩
 .refine go 6 ?_;obtain rfl:k=xs.length:=O1;refine Zg (Qx 4 J J pV)<|Zg (Zgq 3 J J)<|go 2 ?_;refine cl 6 [3,4] (Yg2 _ _ _ (by rw [Fo];exact Zdo λi _=>h i)) λ_ _=>go 7 ?_;exact Mn d _ results136 J aA (Ns 6 Za (by rw [Yai]<;>rfl))
def Bn(v:Value)(xs:List Int)(e:Vp xs)(h:∀i,bl (cf xs (i+1)*((i:Int)+1)).natAbs<=65536):Cal prog 260 #[v] [Ym 2 wv v xs] true (G:=Value) (λr=>True) (λr=> .tuple #[r,.int .i64 0]) (λr=>[Ym 2 wv r (Yu xs)]):=by
 refine Zf func260 ntmps260 λo m f d=>?_;have g:=e.len;refine go 10 ?_;refine cl 1 [1] (Xf _ _ ‹_›) λ_ _=>go 14 ?_;refine Zc J (λa=>?_) (λa=>?_)
 .refine go 8 ?_;exact Mn d _ results260 J aA (Mx (Yec O1) Za)
 .refine go 4 ?_;refine Yh (Zw 2) λb _=>?_;refine go 7 ⟨O1,?_⟩;refine tt (Gt (i:=3) (n:=(xs.length-1)) (by_:=24) (enc:=wv) 0 J J J J Nw ti80 J pV.cells pV.pos J J J f.h) λv _=>go 12 ?_;refine lp (G:=Nat) [0,4,5,18] [0,1,2] (λk=>[(19,.int .i64 (k:Int))]) (λk=>[(3,Ox 2 80 wv v (fill (xs.length-1) k (λi=>cf xs (i+1)*((i:Int)+1))))]) (λk=>k<=xs.length-1) (λk=>xs.length-1-k) 0 O2 K1 ⟨by rw [Cn (xs.length-1) (λi=>cf xs (i+1)*((i:Int)+1))];rfl,aA⟩ ?_;rintro k l;have j:(fill (xs.length-1) k (λi=>cf xs (i+1)*((i:Int)+1))).length=xs.length-1:=Qn _ _ _;refine go 6 ?_;refine Zc J (λc=>?_) (λc=>?_)
  .try rw [aV]at *
   refine go 10 ?_;refine Xw (λx=>x=b) [(0,0),(1,0),(2,0),(3,0),(4,0),(5,0),(6,0),(7,0),(8,0),(9,1),(10,1),(11,0),(12,3)]<|go 5 ⟨O1,?_⟩;refine Xn J J (st1 2 J (Zy (ii:=1) (i:=k+1) J J J J Zo Nw Lf))<|go 3 ⟨O1,O1,?_⟩;refine Yv (Zj 3 [] (Zn _ (by first|assumption|exact⟨O1,O1⟩))) λ_ _=>?_;refine Dn J (Qd (n:=3) (i:=2) (Eo _ (cf xs (k+1)) ((k:Int)+1) (e.sz _) (aB (Pu (n:=32) O1) O4) (h k)) J J J K3 call191 J O4 Zx J f.h J) (λ_ _=>?_);refine Xn J J (st1 2 J (Zy (ii:=3) (i:=k) J J J J (Yn pV) Nw Lf J (by rw [Qn];omega)))<|r3' J (Lj (i:=3) (enc:=wv) _ J J J J J J pV J f.h O4 (by rw [Qn];omega)) (λ_ _=>?_);refine go 7 ⟨O1,?_⟩;exact Yq (k+1) O2 O2 K1 ⟨by rw [<-Zb5 O1];rfl,aA⟩
  .try rw [aV]at *
   refine go 6 ?_;obtain rfl:k=xs.length-1:=O1;refine Zg (Qx 3 J J pV)<|Zg (Zgq 2 J J)<|go 2 ?_;refine cl 4 [2,3] (Yg2 _ _ _ (by rw [Fo];exact Zdo λi _=>h i)) λ_ _=>go 7 ?_;exact Mn d _ results260 J aA (Ns 4 Za (by rw [Ykc e.tr]<;>rfl))
def Zog(v:Value)(xs:List Int)(l:Vp xs):Xo prog 197 #[v] [Ym 2 wv v xs] (.tuple #[wv (Ys xs),.int .i64 0]):=by
 refine Zf func197 ntmps197 λt s q j=>?_;have m:=l.len;have d:∀k,bl (Ys (xs.take k)).natAbs<=65536:=λk=>Zrx _ (l.sz.take k);refine go 2 ?_;refine Yh (Zw 2) λb _=>go 7 ?_;refine cl 2 [1] (Xf _ _ ‹_›) λ_ _=>go 8 ?_;refine Yh (Zw 3) λf _=>go 4 ?_;refine Yh (Zw 4) λg _=>go 11 ?_;refine lp (G:=Nat) [2,4,5,12,13] [0,1,2] (λk=>[(14,.int .i64 (k:Int))]) (λk=>[(4,box g 80 #[.bool (decide (Ys (xs.take k)<0)),.string (Xu (Ys (xs.take k)).natAbs)]),(3,box f 250 #[.int .i64 0])]) (λk=>k<=xs.length) (λk=>xs.length-k) 0 O2 K1 K2 ?_;rintro k r;have e:=λh=>Ih (p:=xs) (k:=k) h;refine go 6 ?_;refine Zc J (λc=>?_) (λc=>?_)
 .refine go 8 ⟨O3,O3,?_⟩;refine Yh (Zw 5) λo _=>go 7 ?_;refine cl 5 [] (Zqq (Ys (xs.take k)) (xs.getD k 0) (d _) (l.sz.getD _)) λ_ _=>go 2 ?_;refine tt (Qd (n:=5) (i:=3) (Zph _ _ _ _ _ _) J J J K3 call238 J O4 Zx J q.h aA) (λ_ _=>?_);refine go 8 ⟨O1,?_⟩;have a:=d (k+1);rw [e O1]at a;exact Yq (k+1) O2 O2 K1 ⟨by rw [e O1];simp only [Kx a];rfl,by simp only [Zo8 a];rfl,aA⟩
 .refine go 6 ?_;refine Ld [3,4] [5]<|Zm (n:=0) [(0,0),(1,0),(2,0),(3,0),(4,1),(5,3)]<|go 7 ?_;refine Zz<|go 2 ?_;exact Mn j () results197 (by rw [show k=xs.length by omega,bP]<;>rfl) aA Za
def Zl5(v:Value)(xs:List Int)(c:Int)(l:Sz 65536 xs)(j:xs.length<=1000)(s:bl c.natAbs<=65536)(t:∀i,c∣cf xs i)(f:xs≠[]->c≠0):Cal prog 198 #[v,wv c] [Ym 2 wv v xs] true (G:=Value) (λr=>True) (λr=> .tuple #[r,.int .i64 0]) (λr=>[Ym 2 wv r (xs.map (· / c))]):=by
 refine Zf func198 ntmps198 λx w m h=>go 2 ?_;refine Yh (Yi 2) λb _=>go 8 ?_;refine tt (Gt (i:=3) (n:=_) (by_:=24) (enc:=wv) 0 J J J J Nw ti80 J pV.cells pV.pos J J J m.h J J) λv _=>go 12 ?_;refine lp (G:=Nat) [3,6,15,16] [0,1,2] (λk=>[(17,.int .i64 (k:Int))]) (λk=>[(3,Ox 2 80 wv v (fill xs.length k (λi=>cf xs i/c)))]) (λk=>k<=xs.length) (λk=>xs.length-k) 0 O2 K1 ⟨by rw [Cn xs.length (λi=>cf xs i/c)];rfl,aA⟩ ?_;rintro k u;have g:Zag (xs.getD k 0/c)=cf xs k/c:=Kx (Za0 (t k) (l k));refine go 6 ?_;refine Zc J (λa=>?_) (λa=>?_)
 .refine go 9 ⟨O3,O3,?_⟩;refine Yh (Zw 4) λo _=>go 8 ?_;refine cl 4 [] (Co _ _ (l.getD _) s (f (by intro e;rw [e]at a;simp at a;omega))) λ_ _=>go 4 ?_;refine Yh (Zw 5) λp _=>Yh (Zw 6) λq _=>go 12 ?_;refine Zc J (λd=>?_) (λd=>?_)
  .exfalso;simp_all
  .refine go 6 ?_;refine dt (Zy (ii:=3) (i:=k) J J J J (Yn pV) Nw Lf J (by rw [Qn];omega))<|tt (Lj (i:=3) (enc:=wv) _ J J J J J J pV J m.h O4 (by rw [Qn];omega)) (λ_ _=>?_);refine go 7 ⟨O1,?_⟩;exact Yq (k+1) O2 O2 K1 ⟨by rw [<-Zb5 O1];simp only [g];rfl,aA⟩
 .refine go 13 ?_;obtain rfl:k=xs.length:=O1;exact Mn h _ results198 J aA (gow 3 Za (by rw [Fo,Yeu xs (· / c)]<;>rfl))
def Oo(v:Value)(xs:List Int)(c:Vp xs):Cal prog 140 #[v] [Ym 2 wv v xs] true (G:=Value) (λr=>True) (λr=> .tuple #[r,.int .i64 0]) (λr=>[Ym 2 wv r (Zu xs)]):=by
 refine Zf func140 ntmps140 λh g f d=>?_;have e:=c.len;refine go 9 ?_;refine cl 1 [1] (Zog _ _ ‹_›) λ_ _=>go 3 ?_;refine Yh (Zw 2) λb _=>go 11 ?_;refine Zc J (λa=>?_) (λa=>?_)
 .exfalso;simp_all
 .refine go 6 ?_;refine cl 3 [1] (Zl5 _ _ _ c.sz O1 (Zrx _ c.sz) (Mv _) c.ne) λ_ _=>go 7 ?_;exact Mn d _ results140 J aA (Ns 3 Za J)
def Yal(v:Value)(xs:List Int)(x y:Int)(p:Vp xs)(S:bl x.natAbs<=65536)(hy:bl y.natAbs<=65536)(a8:0<y):Xo prog 308 #[v,rX x y] [Ym 2 wv v xs] (.tuple #[wv (evv xs x y),.int .i64 (eve xs x y)]):=by
 refine Zf func308 ntmps308 λw0 sc s r=>?_;have c:=p.len;refine go 2 ?_;refine Yh (Yi 2) λb _=>Yh (Zw 3) λZ _=>go 7 ?_;refine cl 3 [1] (Xf _ _ ‹_›) λ_ _=>go 3 ?_;refine Kl 3 [] (My _ _ ‹_› ‹_› ‹_›) λ_ _=>go 15 ?_;refine Zc J (λm=>?_) (λm=>?_)
 .refine go 2 ?_;refine dt (Qa (ivs:=[]) J aA (λa w hs=>b80_))<|go 6 ?_;exact Mn r () results308 (by rw [aD (l:=xs) O1];rfl) aA Za
 .have M:xs≠[]:=λe=>by rw [e]at m;simp at m
  have a6:=Pm p.sz;have g:Sz 65536 [x,y]:=Sz.of_mem (by intro z V;simp at V;rcases V with rfl|rfl<;>assumption);have I:=Pm g;have a7:(xs.length-1)*Qm [x,y]<=24*65536:=aQ O1 I;have f:((xs.length:Int)-1)*(Qm [x,y]:Int)=(((xs.length-1)*Qm [x,y]:Nat):Int):=by rw [eV];congr 1;omega
  refine go 3 ?_;refine jn (G:=Unit) [0,3,4] [0,1,2,3] (λ_=>[(37,.bool (decide ((65536:Int)<(Qm xs:Int)+((xs.length:Int)-1)*(Qm [x,y]:Int)+8)))]) (λ_=>[]) (λ_=>True) ?_ ?_
  .refine Hr (λ_=>False) []<|Zm (n:=7) [(0,0),(2,0),(3,0),(4,0),(5,0),(6,0),(7,0),(8,0)]<|go 9 ⟨O1,?_⟩;refine Qs (n:=6) 1 9 ?_ ?_
   .refine Nm (Zj 3 [1] (Nj _ _ (by first|exact p.sz|exact g))) λ_ _=>?_;refine Zm (n:=0) [(9,1),(10,1),(11,0),(12,0),(13,0),(14,0)]<|Dn J (Qr (i:=90) (ivs:=[(0,_),(1,_)]) (enc:=wv) [x,y] J J K4 Yiy ti80 J J J J J pV.cells J J s.h) λv _=>Yv (Zj 3 [90] (Nj _ _ (by first|exact p.sz|exact g))) λ_ _=>?_;refine go 5 ⟨by rw [f];exact⟨O1,O1⟩,by rw [f];exact⟨O1,O1⟩,by rw [f];exact⟨O1,O1⟩,?_⟩;exact Zz<|Oj () aA K1 aA
   .refine Aa J (Qr (i:=90) (ivs:=[(0,_),(1,_)]) (enc:=wv) [x,y] J J K4 Yiy ti80 J J J J J pV.cells J J s.h) (λa9 _=>?_);refine Zm (n:=0) [(1,1),(10,1),(11,0),(12,0),(13,0),(14,0)]<|Yv (Zj 3 [1] (Nj _ _ (by first|exact p.sz|exact g))) λ_ _=>Yv (Zj 3 [90] (Nj _ _ (by first|exact p.sz|exact g))) λ_ _=>?_;refine go 5 ⟨by rw [f];exact⟨O1,O1⟩,by rw [f];exact⟨O1,O1⟩,by rw [f];exact⟨O1,O1⟩,?_⟩;exact Zz<|Oj () aA K1 aA
  .rintro _ -;refine Zc J (λo=>?_) (λo=>?_)
   .have B:Lv xs x y:=⟨M,by rw [f]at o;omega⟩;refine go 2 ?_;refine dt (Qa (ivs:=[]) J aA (λa w hs=>b80_))<|go 6 ?_;exact Mn r () results308 (by unfold evv eve;rw [aH B,aH B]<;>rfl) aA Za
   .have j:Qm xs+(xs.length-1)*Qm [x,y]+8<=65536:=by rw [f]at o;omega
    refine go 4 ?_;refine Yh (Zw 4) λH _=>go 2 ?_;refine jn (G:=Nat×Nat) [0,3,4,6] [0,1,2,3,4] (λq=>[(7,.pointer (some ⟨q.1,0,none⟩)),(8,.pointer (some ⟨q.2,0,none⟩))]) (λq=>[(97,box q.1 80 (wc (xs.getD (xs.length-1) 0))),(98,box q.2 80 (wc 1))]) (λq=>True) ?_ ?_
    .refine Hr (λ_=>False) [9,10]<|Zm (n:=5) [(0,0),(1,0),(2,0),(3,0),(4,0),(5,0)]<|go 4 ⟨O1,?_⟩;refine Xn J J (Xr (Zy (ii:=1) (i:=(xs.length-1)) J J J J Zo Nw Lf))<|go 2 ⟨O1,?_⟩;refine Zlt (n:=4) 6 7 8 ?_ ?_ ?_
     .refine Nm (Zj 4 [] (Zn _ (by first|assumption|exact⟨O1,O1⟩))) λ_ _=>?_;refine Qs (n:=3) 7 8 ?_ ?_
      .refine Nm (Zw 97) λa0 _=>?_;refine Zm (n:=0) [(8,1),(9,3),(10,3)]<|Yv (Zw 98) λa1 _=>go 3 ?_;exact Zz<|Oj (_,_) aA K2 K2
      .refine Nm (Zw 98) λa2 _=>?_;refine Zm (n:=0) [(7,1),(9,3),(10,3)]<|Yv (Zw 97) λa3 _=>go 3 ?_;exact Zz<|Oj (_,_) aA K2 K2
     .refine Nm (Zw 97) λa4 _=>?_;refine Qs (n:=3) 6 8 ?_ ?_
      .refine Nm (Zj 4 [] (Zn _ (by first|assumption|exact⟨O1,O1⟩))) λ_ _=>?_;refine Zm (n:=0) [(8,1),(9,3),(10,3)]<|Yv (Zw 98) λa5 _=>go 3 ?_;exact Zz<|Oj (_,_) aA K2 K2
      .refine Nm (Zw 98) λN _=>?_;refine Zm (n:=0) [(6,1),(9,3),(10,3)]<|Yv (Zj 4 [] (Zn _ (by first|assumption|exact⟨O1,O1⟩))) λ_ _=>go 3 ?_;exact Zz<|Oj (_,_) aA K2 K2
     .refine Nm (Zw 98) λP _=>?_;refine Qs (n:=3) 6 7 ?_ ?_
      .refine Nm (Zj 4 [] (Zn _ (by first|assumption|exact⟨O1,O1⟩))) λ_ _=>?_;refine Zm (n:=0) [(7,1),(9,3),(10,3)]<|Yv (Zw 97) λQ _=>go 3 ?_;exact Zz<|Oj (_,_) aA K2 K2
      .refine Nm (Zw 97) λR _=>?_;refine Zm (n:=0) [(6,1),(9,3),(10,3)]<|Yv (Zj 4 [] (Zn _ (by first|assumption|exact⟨O1,O1⟩))) λ_ _=>go 3 ?_;exact Zz<|Oj (_,_) aA K2 K2
    .rintro⟨W,Y⟩ -;dsimp only;refine go 10 ⟨O1,?_⟩;refine lp (G:=Nat) [0,3,4,6,7,8] [0,1,2,3,4] (λk=>[(9,.int .i64 ((k:Int)-1))]) (λk=>[(97,box W 80 (wc (Kn xs x y k))),(98,box Y 80 (wc (y^(xs.length-1-k))))]) (λk=>k<=xs.length-1) (λk=>k) (xs.length-1) O2 ⟨by rw [show((xs.length-1:Nat):Int)-1=(xs.length:Int)-2 by omega];rfl,aA⟩ ⟨by rw [Yk4 x y O1];rfl,by rw [lF,cT];rfl,aA⟩ ?_;rintro k D;refine go 7 ?_;refine Zc J (λt=>?_) (λt=>?_)
     .have d:y^(xs.length-1-k)*y=y^(xs.length-1-(k-1)):=Yd3 y O1 D;have F:Kn xs x y k*x+xs.getD (k-1) 0*y^(xs.length-1-(k-1))=Kn xs x y (k-1):=Ya3 x y O1 D;refine go 9 ?_;refine tt (Qd (n:=4) (i:=4) (Eo _ _ _ (Zpk j) hy (by rw [d];exact Zpk j)) J J J K3 call191 J O4 Zx J s.h aA) λ_ _=>go 3 ?_;refine Xw (λx=>x=H) [(0,0),(1,0),(2,0),(4,0),(5,0),(6,0),(7,0),(8,0),(3,1),(9,1),(10,1),(11,3)]<|go 5 ?_;refine Xn J J (st1 4 J (Zy (ii:=1) (i:=(k-1)) J J J J Zo Nw Lf))<|go 2 ⟨O1,?_⟩;refine Dn J (Qd (n:=4) (i:=4) (Eo _ _ _ (by first|exact Zpl j c _|exact p.sz.getD _) (by first|exact S|(rw [d];exact Zpk j)) (by first|exact Zu6 j c O1 D|(rw [d];exact Zpj j))) J J J K3 call191 J O4 Zx J s.h J) (λ_ _=>?_);refine Dn J (Qd (n:=4) (i:=4) (Eo _ _ _ (by first|exact Zpl j c _|exact p.sz.getD _) (by first|exact S|(rw [d];exact Zpk j)) (by first|exact Zu6 j c O1 D|(rw [d];exact Zpj j))) J J J K3 call191 J O4 Zx J s.h J) (λ_ _=>?_);refine Dn J (Qd (n:=4) (i:=4) (Zk9 _ _ _ (Zu6 j c O1 D) (by rw [d];exact Zpj j) (by rw [d,F];exact Zpl j c _)) J J J K3 call196 J O4 Zx J s.h J) (λ_ _=>?_);refine go 9 ⟨O1,?_⟩;exact Yq (k-1) O2 O2 ⟨by rw [show((k-1:Nat):Int)-1=(k:Int)-1-1 by omega];rfl,aA⟩ ⟨by rw [d,F];rfl,by rw [d];rfl,aA⟩
     .refine go 14 ?_;refine Zc J (λu=>?_) (λu=>?_)
      .exfalso;simp_all
      .refine go 10 ?_;obtain rfl:k=0:=O1;have B:¬Lv xs x y:=λh=>by have:=h.2;omega
       exact Mn r () results308 (by unfold evv eve;rw [aE B,aE B,<-Zsn]<;>rfl) aA Za
def Zrs(v:Value)(xs:List Int)(x y:Int)(e:Vp xs)(g:bl x.natAbs<=65536)(h:bl y.natAbs<=65536)(d:0<y):Xo prog 291 #[v,rX x y] [Ym 2 wv v xs] (.tuple #[.int .i64 (evv xs x y).sign,.int .i64 (eve xs x y)]):=by refine Zf func291 ntmps291 λk j i c=>?_;have a:=e.len;refine go 2 ?_;refine Yh (Yi 2) λb _=>go 8 ?_;refine cl 2 [1] (Yal _ _ _ _ e g h d) λ_ _=>go 3 ?_;refine Yh (Zw 3) λf _=>go 7 ?_;refine cl 3 [] (Ij _ (evv_bl a)) λ_ _=>go 6 ?_;exact Mn c () results291 J aA Za
def Zae(d:Nat)(v:Value)(xs:List Int)(hs:Sz 65536 xs):Zcl prog 192 #[.pointer (some ⟨d,0,none⟩),v] [Ym 2 wv v xs] true d 250 #[.int .i64 0] (G:=Unit) (λ_=>True) (λ_=> .tuple #[Lq v (tzl xs).length,.int .i64 0]) (λ_=>#[.int .i64 0]) (λ_=>[Ym 2 wv (Lq v (tzl xs).length) (tzl xs)]):=by
 refine Fv func192 J ntmps192 J K1 ?_;intro g f e c;have e:=Hw.mk e;simp only [Qv,Yy];refine go 17 ?_;refine Zc J (λb=>?_) (λb=>?_)
 .exfalso;simp_all
 .refine go 5 ?_;refine cl 3 [2] (Zcw _ _ ‹_›) λ_ _=>go 5 ?_;exact Ec (.inl J) c () _ (λa w hs=>Yad hs results192 J J) J aA 1 J J J J (Hm 3 J J J Za)
def Zyz(v:Value)(xs:List Int)(g:xs.length*24<=140737488355328:=by omega):Ymx prog 305 #[v] [Ym 2 wv v xs] (G:=Value) (λr=>True) (λr=>r) (λr=>Ox 2 80 wv r xs):=by
 refine Zy6 func305 J ntmps305 J K1 ?_;intro k h d e;have d:=Hw.mk d;simp only [Qv,Yy];refine Oi (f_nil (i:=1) J Zo) λc=>go 9 ?_;refine dt (Zyo J J J (i:=1) J Zo Nw)<|go 2 ?_;refine Mr J (λb=>?_) (λb=>?_)
 .refine go 7 ?_;obtain rfl:xs=[]:=c (by simpa using b);exact Yg (Oy 9 2 80 wv)<|Znl (.inl J) (.slice none 0 0) _ (λa w hs=>Zde hs results305 J) J aA J 9 J J J
 .refine go 4 ?_;refine tt (t_bs0 (i:=2) (enc:=wv) J J J Nw pV J d.h) λv _=>go 1 ?_;refine tt (Lp (i:=2) (j:=1) (by_:=24) J J J J J J O4 J Zo Nw ti80 J pV J J J O9 O4 J d.h) λf _=>go 4 ?_;exact Znl (.inl J) _ _ (λa w hs=>Zde hs results305 J) J aA J 2 J (by rfl) J
def Zhq(v:Value)(xs:List Int)(c:Vp xs):Xo prog 301 #[v] [Ym 2 wv v xs] (.tuple #[.int .i64 ((xs.length:Int)-1),.int .i64 0]):=by refine Zf func301 ntmps301 λf e d a=>?_;have b:=c.len;refine go 10 ?_;refine cl 1 [1] (Xf _ _ ‹_›) λ_ _=>?_;refine go 16 ⟨O1,?_⟩;exact Mn a () results301 J aA Za
def Zmz(v:Value)(xs:List Int)(b:Vp xs):Xo prog 302 #[v] [Ym 2 wv v xs] (.tuple #[.int .i64 (Qm xs:Int),.int .i64 0]):=by refine Zf func302 ntmps302 λe d c a=>go 10 ?_;refine cl 1 [1] (Xf _ _ ‹_›) λ_ _=>go 9 ?_;refine cl 1 [1] (Nj _ _ b.sz) λ_ _=>go 5 ?_;exact Mn a () results302 J aA Za
def Zs9(h:Nat)(v u:Value)(xs ys:List Int)(q:Vp xs)(o:Vp ys)(s:∀i,bl (cf xs i+cf ys i).natAbs<=65536):Zcl prog 193 #[v,u,.pointer (some ⟨h,0,none⟩),.func (.func 196) #[.pointer (some ⟨h,0,none⟩)] #[]] [Ym 2 wv v xs,Ym 2 wv u ys] true h 250 #[.int .i64 0] (G:=Value) (λr=>True) (λr=> .tuple #[r,.int .i64 0]) (λr=>#[.int .i64 0]) (λr=>[Ym 2 wv r (Ah xs ys)]):=by
 refine Fv func193 J ntmps193 J K2 ?_;intro z y c l;have c:=Hw.mk c;simp only [Qv,Yy];have m:=q.len;have j:=o.len;refine go 10 ?_;refine cl 3 [2] (Xf _ _ ‹_›) λ_ _=>go 3 ?_;refine Kl 3 [3] (Xf _ _ ‹_›) λ_ _=>go 13 ?_;refine dt (Zdu J J J)<|tt (Gt (i:=4) (n:=(max xs.length ys.length)) (by_:=24) (enc:=wv) 0 J J J J Nw ti80 J pV.cells pV.pos J J J c.h) λv _=>go 12 ?_;refine lp (G:=Nat) [0,1,2,3,10,29] [0,1,2,3] (λk=>[(30,.int .i64 (k:Int))]) (λk=>[(4,Ox 2 80 wv v (fill (max xs.length ys.length) k (λi=>cf xs i+cf ys i)))]) (λk=>k<=max xs.length ys.length) (λk=>max xs.length ys.length-k) 0 O2 K1 ⟨by rw [Cn (max xs.length ys.length) (λi=>cf xs i+cf ys i)];rfl,aA⟩ ?_;rintro k x;have t:(fill (max xs.length ys.length) k (λi=>cf xs i+cf ys i)).length=max xs.length ys.length:=Qn _ _ _;refine go 6 ?_;refine Zc J (λd=>?_) (λd=>?_)
 .try rw [aV]at *
  refine go 12 ?_;refine Yh (Zw 5) λb _=>Yh (Zw 6) λg _=>go 2 ?_;refine jn (G:=Unit) [0,1,2,3,10,11,12,13,29,30] [0,4,1,2,3,6] (λ_=>[]) (λ_=>[(5,box b 80 (wc (cf xs k)))]) (λ_=>True) ?_ ?_
  .refine go 8 ?_;refine Zc J (λe=>?_) (λe=>?_)
   .refine go 7 ⟨O3,O3,?_⟩;exact Oj () aA aA ⟨by first|rfl|(rw [Yk (p:=xs) O1];rfl),aA⟩
   .refine go 1 ?_;exact Oj () aA aA ⟨by first|rfl|(rw [Yk (p:=xs) O1];rfl),aA⟩
  .rintro _ -;refine jn (G:=Unit) [0,1,2,3,10,11,12,13,29,30] [0,5,4,1,2,3] (λ_=>[]) (λ_=>[(6,box g 80 (wc (cf ys k)))]) (λ_=>True) ?_ ?_
   .refine go 8 ?_;refine Zc J (λf=>?_) (λf=>?_)
    .refine go 7 ⟨O3,O3,?_⟩;exact Oj () aA aA ⟨by first|rfl|(rw [Yk (p:=ys) O1];rfl),aA⟩
    .refine go 1 ?_;exact Oj () aA aA ⟨by first|rfl|(rw [Yk (p:=ys) O1];rfl),aA⟩
   .rintro _ -;refine go 6 ?_;refine tt (Zqz (n:=6) (i:=1) (fs:=[_]) (vs:=[_,_]) (Zk9 _ _ _ (q.sz _) (o.sz _) (s _)) J J J J K2 call196 J O4 Zx J c.h aA) (λ_ _=>?_);refine dt (Zy (ii:=4) (i:=k) J J J J (Yn pV) Nw Lf J (by rw [Qn];omega))<|tt (Lj (i:=4) (enc:=wv) _ J J J J J J pV J c.h O4 (by rw [Qn];omega)) (λ_ _=>?_);refine go 7 ⟨O1,?_⟩;exact Yq (k+1) O2 O2 K1 ⟨by rw [<-Zb5 O1];rfl,aA⟩
 .try rw [aV]at *
  refine go 6 ?_;obtain rfl:k=max xs.length ys.length:=O1;refine Zg (Qx 4 J J pV)<|go 3 ?_;refine tt (Qd (n:=7) (i:=1) (Zae _ _ _ (by rw [Fo];exact Zdo λi _=>s i)) J J J K2 call192 J O4 (Zt 4 J J J Zx) J c.h aA) λ_ _=>go 7 ?_;exact Ec (.inl J) l _ _ (λa w hs=>Yad hs results193 J J) J aA 1 J J J J (Zkw 7 J J J (by rw [Fo]<;>rfl) Za)
def Zs8(h:Nat)(v u:Value)(xs ys:List Int)(q:Vp xs)(o:Vp ys)(s:∀i,bl (cf xs i-cf ys i).natAbs<=65536):Zcl prog 193 #[v,u,.pointer (some ⟨h,0,none⟩),.func (.func 194) #[.pointer (some ⟨h,0,none⟩)] #[]] [Ym 2 wv v xs,Ym 2 wv u ys] true h 250 #[.int .i64 0] (G:=Value) (λr=>True) (λr=> .tuple #[r,.int .i64 0]) (λr=>#[.int .i64 0]) (λr=>[Ym 2 wv r (Cb xs ys)]):=by
 refine Fv func193 J ntmps193 J K2 ?_;intro z y c l;have c:=Hw.mk c;simp only [Qv,Yy];have m:=q.len;have j:=o.len;refine go 10 ?_;refine cl 3 [2] (Xf _ _ ‹_›) λ_ _=>go 3 ?_;refine Kl 3 [3] (Xf _ _ ‹_›) λ_ _=>go 13 ?_;refine dt (Zdu J J J)<|tt (Gt (i:=4) (n:=(max xs.length ys.length)) (by_:=24) (enc:=wv) 0 J J J J Nw ti80 J pV.cells pV.pos J J J c.h) λv _=>go 12 ?_;refine lp (G:=Nat) [0,1,2,3,10,29] [0,1,2,3] (λk=>[(30,.int .i64 (k:Int))]) (λk=>[(4,Ox 2 80 wv v (fill (max xs.length ys.length) k (λi=>cf xs i-cf ys i)))]) (λk=>k<=max xs.length ys.length) (λk=>max xs.length ys.length-k) 0 O2 K1 ⟨by rw [Cn (max xs.length ys.length) (λi=>cf xs i-cf ys i)];rfl,aA⟩ ?_;rintro k x;have t:(fill (max xs.length ys.length) k (λi=>cf xs i-cf ys i)).length=max xs.length ys.length:=Qn _ _ _;refine go 6 ?_;refine Zc J (λd=>?_) (λd=>?_)
 .try rw [aV]at *
  refine go 12 ?_;refine Yh (Zw 5) λb _=>Yh (Zw 6) λg _=>go 2 ?_;refine jn (G:=Unit) [0,1,2,3,10,11,12,13,29,30] [0,4,1,2,3,6] (λ_=>[]) (λ_=>[(5,box b 80 (wc (cf xs k)))]) (λ_=>True) ?_ ?_
  .refine go 8 ?_;refine Zc J (λe=>?_) (λe=>?_)
   .refine go 7 ⟨O3,O3,?_⟩;exact Oj () aA aA ⟨by first|rfl|(rw [Yk (p:=xs) O1];rfl),aA⟩
   .refine go 1 ?_;exact Oj () aA aA ⟨by first|rfl|(rw [Yk (p:=xs) O1];rfl),aA⟩
  .rintro _ -;refine jn (G:=Unit) [0,1,2,3,10,11,12,13,29,30] [0,5,4,1,2,3] (λ_=>[]) (λ_=>[(6,box g 80 (wc (cf ys k)))]) (λ_=>True) ?_ ?_
   .refine go 8 ?_;refine Zc J (λf=>?_) (λf=>?_)
    .refine go 7 ⟨O3,O3,?_⟩;exact Oj () aA aA ⟨by first|rfl|(rw [Yk (p:=ys) O1];rfl),aA⟩
    .refine go 1 ?_;exact Oj () aA aA ⟨by first|rfl|(rw [Yk (p:=ys) O1];rfl),aA⟩
   .rintro _ -;refine go 6 ?_;refine tt (Zqz (n:=6) (i:=1) (fs:=[_]) (vs:=[_,_]) (Zvb _ _ _ (q.sz _) (o.sz _) (s _)) J J J J K2 call194 J O4 Zx J c.h aA) (λ_ _=>?_);refine dt (Zy (ii:=4) (i:=k) J J J J (Yn pV) Nw Lf J (by rw [Qn];omega))<|tt (Lj (i:=4) (enc:=wv) _ J J J J J J pV J c.h O4 (by rw [Qn];omega)) (λ_ _=>?_);refine go 7 ⟨O1,?_⟩;exact Yq (k+1) O2 O2 K1 ⟨by rw [<-Zb5 O1];rfl,aA⟩
 .try rw [aV]at *
  refine go 6 ?_;obtain rfl:k=max xs.length ys.length:=O1;refine Zg (Qx 4 J J pV)<|go 3 ?_;refine tt (Qd (n:=7) (i:=1) (Zae _ _ _ (by rw [Fo];exact Zdo λi _=>s i)) J J J K2 call192 J O4 (Zt 4 J J J Zx) J c.h aA) λ_ _=>go 7 ?_;exact Ec (.inl J) l _ _ (λa w hs=>Yad hs results193 J J) J aA 1 J J J J (Zkw 7 J J J (by rw [Fo]<;>rfl) Za)
def Zru(v u:Value)(xs ys:List Int)(e:Vp xs)(d:Vp ys)(f:∀i,bl (cf xs i+cf ys i).natAbs<=65536):Cal prog 139 #[v,u] [Ym 2 wv v xs,Ym 2 wv u ys] true (G:=Value) (λr=>True) (λr=> .tuple #[r,.int .i64 0]) (λr=>[Ym 2 wv r (Ah xs ys)]):=by refine Zf func139 ntmps139 λh g c a=>go 8 ?_;refine Yh (Zw 3) λb _=>go 6 ?_;refine dt (d_mkf (vs:=[_]) J K1)<|tt (Qd (n:=4) (i:=3) (Zs9 _ _ _ _ _ ‹_› ‹_› ‹_›) J J J K4 call193 J O4 (Zt 1 J J J (Zt 2 J J J Zx)) J c.h aA) λ_ _=>go 7 ?_;exact Mn a _ results139 J aA (Ns 4 Za)
def Zrr(v u:Value)(xs ys:List Int)(e:Vp xs)(d:Vp ys)(f:∀i,bl (cf xs i-cf ys i).natAbs<=65536):Cal prog 137 #[v,u] [Ym 2 wv v xs,Ym 2 wv u ys] true (G:=Value) (λr=>True) (λr=> .tuple #[r,.int .i64 0]) (λr=>[Ym 2 wv r (Cb xs ys)]):=by refine Zf func137 ntmps137 λh g c a=>go 8 ?_;refine Yh (Zw 3) λb _=>go 6 ?_;refine dt (d_mkf (vs:=[_]) J K1)<|tt (Qd (n:=4) (i:=3) (Zs8 _ _ _ _ _ ‹_› ‹_› ‹_›) J J J K4 call193 J O4 (Zt 1 J J J (Zt 2 J J J Zx)) J c.h aA) λ_ _=>go 7 ?_;exact Mn a _ results137 J aA (Ns 4 Za)
def Zj7(v u:Value)(xs ys:List Int)(D:Vp xs)(B:Vp ys)(N:¬Bo xs ys):Cal prog 138 #[v,u] [Ym 2 wv v xs,Ym 2 wv u ys] true (G:=Value) (λr=>True) (λr=> .tuple #[r,.int .i64 0]) (λr=>[Ym 2 wv r (Qg xs ys)]):=by
 refine Zf func138 ntmps138 λw0 sc F g=>?_;have P:=D.len;have M:=B.len;have W:=Pm D.sz;have Y:=Pm B.sz;refine go 10 ?_;refine cl 2 [1] (Xf _ _ ‹_›) λ_ _=>go 3 ?_;refine Kl 2 [2] (Xf _ _ ‹_›) λ_ _=>go 14 ?_;refine Yl (d:=23) J (λH=>?_) (λH=>?_)
 .refine go 15 ?_;exact Mn g _ results138 J aA (Mx (Zfh (p:=xs) (q:=ys) (by first|(left;omega)|(right;omega))) Za)
 .refine go 6 ?_;refine Zc J (λk=>?_) (λk=>?_)
  .refine go 8 ?_;exact Mn g _ results138 J aA (Mx (Zfh (p:=xs) (q:=ys) (by first|(left;omega)|(right;omega))) Za)
  .have c:xs≠[]:=by intro e;subst e;simp_all
   have f:ys≠[]:=by intro e;subst e;simp_all
   have S:0<xs.length:=aC.2 c;have V:0<ys.length:=aC.2 f;refine go 13 ⟨O1,O1,?_⟩;refine Yl (d:=35) J (λI=>?_) (λI=>?_)
   .exfalso;exact N ⟨c,f,.inl O1⟩
   .refine go 1 ?_;refine Kl 2 [1] (Nj _ _ (by first|exact D.sz|exact B.sz)) λ_ _=>go 1 ?_;refine Kl 2 [2] (Nj _ _ (by first|exact D.sz|exact B.sz)) λ_ _=>?_;refine go 6 ⟨O1,O1,?_⟩;refine Zc J (λl=>?_) (λl=>?_)
    .exfalso;exact N ⟨c,f,by first|(left;omega)|(right;omega)⟩
    .have Z:Qm xs+Qm ys+5<=65536:=O1;have y:∀i j,bl (cf xs i*cf ys j).natAbs<=65536:=λi j=>by have:=Xe (cf xs i) (cf ys j);have:=Kf xs i;have:=Kf ys j;omega
     have s:∀i j t,i<25->bl (Zaj xs ys i j t).natAbs<=65536:=λi j t hi=>by have:=Ymp (i:=i) (j:=j) (t:=t) (Kf xs) (Kf ys) O1;omega
     have w:∀t,bl (acc xs ys xs.length t).natAbs<=65536:=λt=>by have:=bl_acc (i:=xs.length) (t:=t) (Kf xs) (Kf ys) O1;omega
     have z:∀i j,i<25->bl (Zaj xs ys i j (i+j)+cf xs i*cf ys j).natAbs<=65536:=λi j hi=>by rw [<-Ybm];exact s i (j+1) _ hi
     refine go 4 ?_;refine Yh (Zw 3) λb _=>?_;refine go 10 ⟨O1,O1,?_⟩;refine tt (Gt (i:=4) (n:=(xs.length+ys.length-1)) (by_:=24) (enc:=wv) 0 J J J J Nw ti80 J pV.cells pV.pos J J J F.h) λv _=>go 12 ?_;refine lp (G:=Nat) [1,6,7,51,52] [0,1,2,3] (λi=>[(53,.int .i64 (i:Int))]) (λi=>[(4,Ox 2 80 wv v (mk (xs.length+ys.length-1) (acc xs ys i)))]) (λi=>i<=xs.length) (λi=>xs.length-i) 0 O2 K1 ⟨by rw [Zuf];rfl,aA⟩ ?_;rintro i hi;refine go 6 ?_;refine Zc J (λm=>?_) (λm=>?_)
     .refine go 9 ⟨O3,O3,?_⟩;refine Yh (Zw 5) λQ _=>go 12 ?_;refine lp (G:=Nat) [1,6,7,8,9,51,52,53,58,59] [0,1,2,3,5] (λj=>[(60,.int .i64 (j:Int))]) (λj=>[(4,Ox 2 80 wv v (mk (xs.length+ys.length-1) (Zaj xs ys i j)))]) (λj=>j<=ys.length) (λj=>ys.length-j) 0 O2 K1 ⟨by rw [Ybl];rfl,aA⟩ ?_;rintro j hj;have a:i+j<xs.length+ys.length-1->(mk (xs.length+ys.length-1) (Zaj xs ys i j)).getD (i+j) 0=Zaj xs ys i j (i+j):=λh=>Zc9 h;refine go 6 ?_;refine Zc J (λo=>?_) (λo=>?_)
      .refine go 9 ⟨O3,O3,?_⟩;refine Yh (Zw 6) λR _=>go 4 ?_;refine Xw (λx=>x=b) [(0,0),(1,0),(2,0),(3,0),(4,0),(5,0),(6,0),(7,0),(8,0),(9,0),(10,0),(11,0),(12,1),(13,1),(14,0),(15,3)]<|go 8 ⟨O1,O1,?_⟩;refine Xn J J (st1 3 J (Zy (ii:=4) (i:=(i+j)) J J J J (Yn pV) Nw Lf O1 (by rw [Yj];omega)))<|go 3 ⟨by rw [Yj];omega,?_⟩;refine Dn J (Qd (n:=6) (i:=3) (Eo _ _ _ (D.sz _) (B.sz _) (y i j)) J J J K3 call191 J O4 Zx J F.h J) (λ_ _=>?_);refine Dn J (Qd (n:=6) (i:=3) (Zk9 _ _ _ (by rw [a O1];exact s i j _ O1) (y i j) (by rw [a O1];exact z i j O1)) J J J K3 call196 J O4 Zx J F.h J) (λ_ _=>?_);refine Xn J J (st1 3 J (Zy (ii:=4) (i:=(i+j)) J J J J (Yn pV) Nw Lf O1 (by rw [Yj];omega)))<|r3' J (Lj (i:=4) (enc:=wv) _ J J J J J J pV J F.h O4 (by rw [Yj];omega)) (λ_ _=>?_);refine go 7 ⟨O1,?_⟩;exact Yq (j+1) O2 O2 K1 ⟨by rw [<-Yid O1,<-a O1];rfl,aA⟩
      .refine go 10 ⟨O1,?_⟩;obtain rfl:j=ys.length:=O1;exact Yq (i+1) O2 O2 K1 ⟨by rw [<-Yie];rfl,aA⟩
     .refine go 6 ?_;obtain rfl:i=xs.length:=O1;refine Zg (Qx 4 J J pV)<|go 2 ?_;refine tt (Qd (n:=7) (i:=3) (Zae _ _ _ (Zdo λt _=>w t)) J J J K2 call192 J O4 (Zt 4 J J J Zx) J F.h aA) λ_ _=>go 7 ?_;exact Mn g _ results138 J aA (Ns 7 Za (by rw [Yd6]<;>rfl))
end Go.Sky

