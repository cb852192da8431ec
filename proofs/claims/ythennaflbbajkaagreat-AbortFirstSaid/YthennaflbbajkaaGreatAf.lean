/- The law: part 21. No conditions but those that each theorem names. -/
import Derived.Test.YthennaflbbajkaaGreatAf19
set_option linter.all false
set_option maxHeartbeats 4000000
namespace Go.Sky
open Go.Proofs.Tryz
open Go.Proofs
set_option synthInstance.maxHeartbeats 0
set_option synthInstance.maxSize 100000
set_option maxRecDepth 20000
set_option linter.unusedSimpArgs false
variable{v:Value}{ax ay az bx by_ bz:Int}{b:Bool}
theorem Zl0(fo h:SL)(po:List Yc)(ph:List Nn)(fl fu:Int)(g:GdT)(q:Yc)(e:Ga po ph fl fu=true)(B:Gp g=true)(w:Lo q=true):Xe prog 52 #[Ci g,.agg #[Yx fo,Yx h,.int .i64 fl,.int .i64 fu],Yk q] [Yn 3 Yk (Yx fo) po,Xp 1 (Pa (α:=List Yc)) Au (Yx h) ph] (.bool (ouB fo po ph fl fu g.2.1 q)):=by
 refine Zd func52 ntmps52 λP N M a=>?_;obtain⟨D,f,F⟩:=Zze B;obtain⟨G,H,I⟩:=Ai w;obtain⟨r,s,t,u⟩:=(Du e).2.1;have d:=Ye3 e w;obtain⟨x,y,k⟩:=Yih (fo:=fo) e d;have z:=ee_b f;have c:=ee_r f;refine go 2<|Zv (Zs 3) λbq _=>Zv (Zs 4) λm _=>Zv (Zs 5) λn _=>?_;refine go 16 ⟨O,?_⟩;refine Zi 24 J (λl=>?_) (λl=>?_)
 .refine go 20 ?_;exact Yp a () results52 (by first|exact vB (Zsn ‹_›)|exact vB (Zsm ‹_›)|exact vB (Yfl ‹_› ‹_› ‹_›)|exact vB (Yfk ‹_› ‹_› ‹_›)) aA Za
 .refine go 12 ⟨O,?_⟩;refine Zb J (λi=>?_) (λi=>?_)
  .refine go 7 ?_;exact Yp a () results52 (by first|exact vB (Zsn ‹_›)|exact vB (Zsm ‹_›)|exact vB (Yfl ‹_› ‹_› ‹_›)|exact vB (Yfk ‹_› ‹_› ‹_›)) aA Za
  .refine go 15 ?_;refine cl 5 [1,2] (Znj fo h po ph fl fu (qLo fl q) e d) λ_ _=>go 12<|Ym J (λj=>?_) (λj=>?_)
   .refine go 7 ?_;exact Yp a () results52 (by first|exact vB (Zsn ‹_›)|exact vB (Zsm ‹_›)|exact vB (Yfl ‹_› ‹_› ‹_›)|exact vB (Yfk ‹_› ‹_› ‹_›)) aA Za
   .refine go 6 ?_;refine cl 5 [1,2] (Ztp fo h po ph fl fu (qLo fl q) e d) λ_ _=>go 3<|Zv (Zu 6) λo _=>?_;refine go 13 ⟨O,?_⟩;refine cl 6 [] (Kz (g.2.1*g.2.1) 1 ⟨O,O⟩ ⟨O3,O3⟩ O3) λ_ _=>go 3<|Zv (Zu 7) λp _=>go 8 ?_;refine cl 7 [] (Hd (d2A fo po ph (qLo fl q)).1 (d2A fo po ph (qLo fl q)).2 (Gn (g.2.1*g.2.1) 1) (Ir (g.2.1*g.2.1) 1) (by rw [c.1];exact aB (Eo ⟨O,O⟩) O3) (by rw [c.2];decide) k (by rw [c.2];decide)) λ_ _=>go 15 ?_;exact Yp a () results52 (by first|exact vB (Zsn ‹_›)|exact vB (Zsm ‹_›)|exact vB (Yfl ‹_› ‹_› ‹_›)|exact vB (Yfk ‹_› ‹_› ‹_›)) aA Za
theorem Zxi(fo c:SL)(po:List Yc)(ph:List Nn)(fl fu:Int)(g:GdT)(q:Yc)(h:Ga po ph fl fu=true)(i:Gp g=true)(j:Lo q=true):Xe prog 15 #[.agg #[Yx fo,Yx c,.int .i64 fl,.int .i64 fu],Ci g,Yk q] [Yn 3 Yk (Yx fo) po,Xp 1 (Pa (α:=List Yc)) Au (Yx c) ph] (.tuple #[.bool (ouB fo po ph fl fu g.2.1 q),.int .i64 0]):=by refine Zd func15 ntmps15 λm l k d=>go 2 ?_;refine Zv (Zs 3) λbq _=>Zv (Zs 4) λe _=>Zv (Zs 5) λf _=>go 8 ?_;refine cl 5 [1,2] (Li fo c po ph fl fu) λ_ _=>?_;refine dt (dF (Zw J J) (aE (λb=>Value.bool (!b)) h))<|go 2 ?_;refine Np 5 [] (Ck g) λ_ _=>?_;refine Kj (dF (Zw J J) (aE (λb=>Value.bool (!b)) i)) J J<|go 3 ?_;refine Np 5 [] (Zd0 q.1 q.2.1 q.2.2) λ_ _=>?_;refine Kj (dF (Zw J J) (aE (λb=>Value.bool (!b)) j)) J J<|go 9 ?_;refine dt (Xz [(0,_)] J K2 (λa w hs=>Zxa))<|go 2 ?_;refine cl 5 [1,2] (Zl0 fo c po ph fl fu g q h i j) λ_ _=>go 5 ?_;exact Ok d () results15 J aA Za
theorem Znb(g:GdT):Xe prog 17 #[Ci g] [] (.bool (Gp g)):=by
 refine Zd func17 ntmps17 λk j i a=>go 2 ?_;refine Zv (Zs 1) λbq _=>go 9<|Zi 6 J (λh=>?_) (λh=>?_)
 .refine go 5<|Zi 11 J (λc=>?_) (λc=>?_)
  .refine go 5<|Zi 16 J (λd=>?_) (λd=>?_)
   .refine go 5<|Zi 21 J (λe=>?_) (λe=>?_)
    .refine go 5<|Zi 26 J (λf=>?_) (λf=>?_)
     .refine go 8 ?_;exact Yp a () results17 (vB (by rw [Znd];first|exact aF O|exact aD O|exact aZ.2 O)) aA Za
     .refine go 8 ?_;exact Yp a () results17 (vB (by rw [Znd];first|exact aF O|exact aD O|exact aZ.2 O)) aA Za
    .refine go 13 ?_;exact Yp a () results17 (vB (by rw [Znd];first|exact aF O|exact aD O|exact aZ.2 O)) aA Za
   .refine go 18 ?_;exact Yp a () results17 (vB (by rw [Znd];first|exact aF O|exact aD O|exact aZ.2 O)) aA Za
  .refine go 23 ?_;exact Yp a () results17 (vB (by rw [Znd];first|exact aF O|exact aD O|exact aZ.2 O)) aA Za
 .refine go 28 ?_;exact Yp a () results17 (vB (by rw [Znd];first|exact aF O|exact aD O|exact aZ.2 O)) aA Za
theorem Zv2(e hi:Int):Xe prog 65 #[.agg #[.int .i64 e,.int .i64 hi]] [] (.bool (Dn e hi)):=by
 refine Zd func65 ntmps65 λh g f a=>go 2 ?_;refine Zv (Zs 1) λbq _=>go 9<|Zi 6 J (λd=>?_) (λd=>?_)
 .refine go 7<|Zi 13 J (λc=>?_) (λc=>?_)
  .refine go 8 ?_;exact Yp a () results65 (vB (by rw [Yjd];first|exact aF O|exact aD O|exact aZ.2 O)) aA Za
  .refine go 8 ?_;exact Yp a () results65 (vB (by rw [Yjd];first|exact aF O|exact aD O|exact aZ.2 O)) aA Za
 .refine go 15 ?_;exact Yp a () results65 (vB (by rw [Yjd];first|exact aF O|exact aD O|exact aZ.2 O)) aA Za
theorem Yb9(s:Mg):Xe prog 22 #[Gv s] [] (.bool (Zbe s)):=by
 refine Zd func22 ntmps22 λf e d a=>go 2 ?_;refine Zv (Zs 1) λbq _=>go 7 ?_;refine cl 1 [] (Zv2 s.1.1 s.1.2) λ_ _=>go 1<|Xt 6 J (λc=>?_) (λc=>?_)
 .refine go 2 ?_;refine Np 1 [] (Zd0 s.2.1 s.2.2.1 s.2.2.2) λ_ _=>go 5 ?_;exact Yp a () results22 (by first|exact vB (sig_t ‹_›)|exact vB (sig_f ‹_›)) aA Za
 .refine go 8 ?_;exact Yp a () results22 (by first|exact vB (sig_t ‹_›)|exact vB (sig_f ‹_›)) aA Za
theorem Zv0(a z e hi:Int)(t:-1073741824<=z/\z<=1073741824)(r:-1073741824<=a/\a<=1073741824)(m:Dn e hi=true):Xe prog 122 #[.int .i64 a,.int .i64 z,.agg #[.int .i64 e,.int .i64 hi]] [] (.tuple #[.int .i64 (wnP a z e hi).1,.int .i64 (wnP a z e hi).2]):=by
 refine Zd func122 ntmps122 λw u s c=>?_;obtain⟨n,o,p⟩:=Zup m;refine go 2<|Zv (Zs 1) λbq _=>go 5<|Pd (λ_=>False) [(0,0),(1,0),(2,0),(3,0),(4,0),(5,3)]<|go 8 ?_;refine jn (G:=Unit) [0,1,9] [0,1] (λ_=>[(8,.int .i64 (max e a))]) (λ_=>[]) (λ_=>True) ?_ ?_
 .refine go 7<|Zb J (λf=>?_) (λf=>?_)
  .refine go 4 ?_;exact Hh () aA ⟨(aE (λq:Int=>some (Value.int .i64 q)) O),aA⟩ aA
  .refine go 1 ?_;exact Hh () aA ⟨(aE (λq:Int=>some (Value.int .i64 q)) O),aA⟩ aA
 .rintro _ -;refine jn (G:=Unit) [0,1,9] [0,1] (λ_=>[(8,.int .i64 (min (max e a) z))]) (λ_=>[]) (λ_=>True) ?_ ?_
  .refine go 7<|Zb J (λg=>?_) (λg=>?_)
   .refine go 4 ?_;exact Hh () aA ⟨(aE (λq:Int=>some (Value.int .i64 q)) O),aA⟩ aA
   .refine go 1 ?_;exact Hh () aA ⟨(aE (λq:Int=>some (Value.int .i64 q)) O),aA⟩ aA
  .rintro _ -;refine jn (G:=Unit) [1,8] [0,1] (λ_=>[(9,.int .i64 (max hi a))]) (λ_=>[]) (λ_=>True) ?_ ?_
   .refine go 7<|Zb J (λh=>?_) (λh=>?_)
    .refine go 4 ?_;exact Hh () aA ⟨(aE (λq:Int=>some (Value.int .i64 q)) O),aA⟩ aA
    .refine go 1 ?_;exact Hh () aA ⟨(aE (λq:Int=>some (Value.int .i64 q)) O),aA⟩ aA
   .rintro _ -;refine jn (G:=Unit) [1,8] [0,1] (λ_=>[(9,.int .i64 (min (max hi a) z))]) (λ_=>[]) (λ_=>True) ?_ ?_
    .refine go 7<|Zb J (λi=>?_) (λi=>?_)
     .refine go 4 ?_;exact Hh () aA ⟨(aE (λq:Int=>some (Value.int .i64 q)) O),aA⟩ aA
     .refine go 1 ?_;exact Hh () aA ⟨(aE (λq:Int=>some (Value.int .i64 q)) O),aA⟩ aA
    .rintro _ -;refine go 7<|Zi 33 J (λl=>?_) (λl=>?_)
     .refine go 6<|Zb J (λj=>?_) (λj=>?_)
      .refine go 11 ⟨O,?_⟩;exact Ok c () results122 (by first|(rw [Zn2 O];done)|(rw [Zn4 O O];done)|(rw [Zn3 O O];done)) aA Za
      .refine go 10<|Zb J (λk=>?_) (λk=>?_)
       .refine go 11 ⟨O,?_⟩;exact Ok c () results122 (by first|(rw [Zn2 O];done)|(rw [Zn4 O O];done)|(rw [Zn3 O O];done)) aA Za
       .refine go 11 ?_;exact Ok c () results122 (by first|(rw [Zn2 O];done)|(rw [Zn4 O O];done)|(rw [Zn3 O O];done)) aA Za
     .refine go 17<|Zb J (λd=>?_) (λd=>?_)
      .refine go 11 ⟨O,?_⟩;exact Ok c () results122 (by first|(rw [Zn2 O];done)|(rw [Zn4 O O];done)|(rw [Zn3 O O];done)) aA Za
      .refine go 11 ?_;exact Ok c () results122 (by first|(rw [Zn2 O];done)|(rw [Zn4 O O];done)|(rw [Zn3 O O];done)) aA Za
theorem Zta(fo k:SL)(po:List Yc)(ph:List Nn)(fl fu:Int)(g:GdT)(q:Yc)(f:Ga po ph fl fu=true)(B:Gp g=true)(w:Lo q=true):Xe prog 19 #[.agg #[Yx fo,Yx k,.int .i64 fl,.int .i64 fu],Ci g,Yk q] [Yn 3 Yk (Yx fo) po,Xp 1 (Pa (α:=List Yc)) Au (Yx k) ph] (.bool (ouB fo po ph fl fu g.2.1 q)):=by
 refine Zd func19 ntmps19 λP N M a=>?_;obtain⟨D,h,F⟩:=Zze B;obtain⟨G,H,I⟩:=Ai w;obtain⟨r,s,t,u⟩:=(Du f).2.1;have d:=Ye3 f w;obtain⟨x,y,l⟩:=Yih (fo:=fo) f d;have z:=ee_b h;have c:=ee_r h;refine go 2<|Zv (Zs 3) λbq _=>Zv (Zs 4) λm _=>Zv (Zs 5) λn _=>?_;refine go 15 ⟨O,?_⟩;refine Zi 23 J (λi=>?_) (λi=>?_)
 .refine go 19 ?_;exact Yp a () results19 (by first|exact vB (Zsn ‹_›)|exact vB (Zsm ‹_›)|exact vB (Ylx ‹_› ‹_› ‹_›)|exact vB (Ylw ‹_› ‹_› ‹_›)) aA Za
 .refine go 11 ⟨O,?_⟩;refine Zb J (λe=>?_) (λe=>?_)
  .refine go 7 ?_;exact Yp a () results19 (by first|exact vB (Zsn ‹_›)|exact vB (Zsm ‹_›)|exact vB (Ylx ‹_› ‹_› ‹_›)|exact vB (Ylw ‹_› ‹_› ‹_›)) aA Za
  .refine go 14 ?_;refine cl 5 [1,2] (Znj fo k po ph fl fu (qLo fl q) f d) λ_ _=>go 11 ?_;refine cl 5 [1,2] (Ztp fo k po ph fl fu (qLo fl q) f d) λ_ _=>go 3<|Zv (Zu 6) λo _=>?_;refine go 11 ⟨O,?_⟩;refine cl 6 [] (Kz (g.2.1*g.2.1) 1 ⟨O,O⟩ ⟨O3,O3⟩ O3) λ_ _=>go 3<|Zv (Zu 7) λp _=>go 8 ?_;refine cl 7 [] (Hd (d2A fo po ph (qLo fl q)).1 (d2A fo po ph (qLo fl q)).2 (Gn (g.2.1*g.2.1) 1) (Ir (g.2.1*g.2.1) 1) (by rw [c.1];exact aB (Eo ⟨O,O⟩) O3) (by rw [c.2];decide) l (by rw [c.2];decide)) λ_ _=>go 10<|kt (aD J)<|go 2<|ktg (aD J)<|go 6<|Xt 73 J (λj=>?_) (λj=>?_)
   .refine go 7 ?_;exact Yp a () results19 (by first|exact vB (Zsn ‹_›)|exact vB (Zsm ‹_›)|exact vB (Ylx ‹_› ‹_› ‹_›)|exact vB (Ylw ‹_› ‹_› ‹_›)) aA Za
   .refine go 7 ?_;exact Yp a () results19 (by first|exact vB (Zsn ‹_›)|exact vB (Zsm ‹_›)|exact vB (Ylx ‹_› ‹_› ‹_›)|exact vB (Ylw ‹_› ‹_› ‹_›)) aA Za
theorem Ymw:Cal prog 138 #[] [] true (G:=Nat×SL×SL) (λr=>True) (λr=> .map (some r.1)) (λr=>[mro r.1 [(0,.slice none 0 0),(1,Yx r.2.1),(2,Yx r.2.2)],Yn 1 Xi (Yx r.2.1) [1],Yn 1 Xi (Yx r.2.2) Zzg]):=by refine Zd func138 ntmps138 λl k a e=>go 7 ?_;refine tt (t_mmi (i:=1) J J J J a.h) (λj _=>?_);refine tt (Ydn 1 J J J J J J (by simp [mfi]) O3 underlying225 underlying114 J a.h aA) (λ_ _=>?_);refine tt (Og [(0,_)] 2 (enc:=Xi) ([1]:List Int) J J K2 Le ti3 J J J J J pZ.cells J J a.h) (λv _=>?_);refine tt (Ydn 1 J J J J J J (by simp [mfi]) O3 underlying225 underlying114 J a.h aA) (λ_ _=>?_);refine tt (Og [(0,_),(1,_),(2,_),(3,_),(4,_)] 3 (enc:=Xi) ([0,0,10,-15,6]:List Int) J J K10 Le ti3 J J J J J pZ.cells J J a.h) (λh _=>?_);refine tt (Ydn 1 J J J J J J (by simp [mfi]) O3 underlying225 underlying114 J a.h aA) λ_ _=>go 5 ?_;refine Xf (s_pubm 1 J J)<|Xf (Nk 2 J J pZ)<|Zn1 (Mn 2 J Zg) (λf c=>?_);subst c;refine Xf (Nk 3 J J pZ)<|Zn1 (Mn 3 J Zg) (λg d=>?_);subst d;exact Yp e (_,f,g) results138 J aA (Ka 1 (Ka 2 (Ka 3 Za)))
theorem Zk6(a b:Int)(c:List Int)(t:-4194304<=a/\a<=4194304)(u:-4194304<=b/\b<=4194304)(h:∀f∈c,-15<=f/\f<=15)(x:c.length<=5):Cal prog 139 #[.int .i64 a,.int .i64 b,v] [Yn 1 Xi v c] true (G:=SL) (λr=>True) (λr=>Yx r) (λr=>[Yn 1 Xi (Yx r) (Zao a b c)]):=by
 refine Zd func139 ntmps139 λD z n j=>go 8 ?_;refine tt (Og [(0,_)] 2 (enc:=Xi) ([a]:List Int) J J K2 Le ti3 J J J J J pZ.cells J J n.h) λv _=>go 11 ?_;refine Zb J (λg=>?_) (λg=>?_)
 .refine go 8 ?_;refine lp (G:=Nat×Value) [0,1,15,16] [0,1] (λq=>[(17,.int .i64 (q.1:Int)),(7,q.2)]) (λq=>[(2,Nc 1 3 Xi q.2 (a::((c.take q.1).map λf=>f*(b-a))))]) (λq=>q.1<=c.length) (λq=>c.length-q.1) (0,_) O1 K2 K1 ?_;rintro⟨k,B⟩ o;dsimp only at o;dsimp only;refine go 6<|Zb J (λm=>?_) (λm=>?_)
  .refine go 6 ?_;refine dt (Yh 1 k J J J J Zg Le Dy J)<|go 4 ⟨O,?_⟩;have w:=h _ (Zk (zs:=c) (i:=k) (d:=0) O);have y:=Zsu (c.getD k 0) (b-a) ⟨O,O⟩ ⟨O,O⟩;refine go 7 ⟨O,O,?_⟩;refine tt (Og [(0,_)] 3 (enc:=Xi) ([c.getD k 0*(b-a)]:List Int) J J K2 Le ti3 J J J J J pZ.cells J J n.h) (λp _=>?_);refine tt (Gm 2 3 8 J J J J J J O3 J (Yi pZ) Le ti3 J pZ J J J O9 O3 J n.h) (λs _=>?_);refine go 8 ⟨O,?_⟩;exact Yj (k+1,_) O1 O1 K2 ⟨by rw [trm_s O];rfl,aA⟩
  .refine go 12<|Xf (Nk 2 J J pZ) ?_;refine Zn1 (Mn 2 J Zg) (λl e=>?_);subst e;exact Yp j l results139 J aA (Ka 2 Za (aE (Yn 1 Xi (Yx l)) (trm_n g O).symm))
 .refine go 9<|Xf (Nk 2 J J pZ) ?_;refine Zn1 (Mn 2 J Zg) (λl e=>?_);subst e;exact Yp j l results139 J aA (Ka 2 Za (aE (Yn 1 Xi (Yx l)) (trm_e c (a:=a) (b:=b) O).symm))
theorem gl_leg{fr q k:Int}(p:k=0\/k=1\/k=2)(f:-4194304<=ax/\ax<=4194304)(g:-4194304<=ay/\ay<=4194304)(h:-4194304<=az/\az<=4194304)(j:-4194304<=bx/\bx<=4194304)(c:-4194304<=by_/\by_<=4194304)(l:-4194304<=bz/\bz<=4194304):Cal prog 93 #[.agg #[.int .i64 ax,.int .i64 ay,.int .i64 az],.agg #[.int .i64 bx,.int .i64 by_,.int .i64 bz],.int .i64 fr,.int .i64 q,.int .i64 k] [] true (G:=SL×SL×SL) (λr=>True) (λr=> .agg #[.int .i64 fr,.int .i64 q,.int .i64 1,Yx r.1,Yx r.2.1,Yx r.2.2]) (λr=>[Yn 1 Xi (Yx r.1) (Zao ax bx (rwK k)),Yn 1 Xi (Yx r.2.1) (Zao ay by_ (rwK k)),Yn 1 Xi (Yx r.2.2) (Zao az bz (rwK k))]):=by refine Zd func93 ntmps93 λx u t m=>go 2 ?_;refine Zv (Zs 1) λbq _=>Zv (Zs 2) λn _=>Zv (Zu 3) λo _=>go 4 ?_;refine cl 4 [] Ymw λrw _=>go 1 ?_;refine dt (d_mlr (i:=4) J J J J underlying225 underlying114 (mf_row p))<|go 4 ?_;refine Zr (s_row p 5 6 60 J J J J)<|Pd (λ_=>False) [(0,0),(1,0),(2,0),(3,0),(4,0),(5,0),(6,0),(8,0),(9,0),(10,0),(11,0),(12,0),(14,0),(15,0),(16,0),(17,0),(18,0),(7,1),(13,1),(19,1),(20,0),(21,3)]<|go 17<|Qm (Zy 7 [60] (Zk6 ax bx (rwK k) f j Zx5 Zvh)) λs _=>Qm (Zy 8 [60] (Zk6 ay by_ (rwK k) g c Zx5 Zvh)) λd _=>Qm (Zy 9 [60] (Zk6 az bz (rwK k) h l Zx5 Zvh)) λe _=>?_;refine Xy J J (Pg (Xz [(0,_),(1,_),(2,_),(3,_),(4,_),(5,_)] J K12 (λa w hs=>Zur ((Zl J) a w hs) ((Zl J) a w hs) ((Zl J) a w hs) ((Oo 7 J Zg) a w hs) ((Oo 8 J Zg) a w hs) ((Oo 9 J Zg) a w hs))))<|go 4 ?_;exact Yp m (s,d,e) results93 J aA (Ka 7 (Ka 8 (Ka 9 Za)))
theorem Yg1{fr h:Int}:Cal prog 92 #[.agg #[.int .i64 ax,.int .i64 ay,.int .i64 az],.agg #[.int .i64 bx,.int .i64 by_,.int .i64 bz],.int .i64 fr,.int .i64 h] [] true (G:=Unit) (λ_=>True) (λ_=> .bool (Zeu ax ay az bx by_ bz fr h)) (λ_=>[]):=by
 refine Zd func92 ntmps92 λk j i a=>go 2 ?_;refine Zv (Zs 1) λbq _=>Zv (Zs 2) λg _=>go 6 ?_;refine cl 2 [] (Zd0 _ _ _) λ_ _=>go 1<|Xt 11 J (λf=>?_) (λf=>?_)
 .refine go 1 ?_;refine Np 2 [] (Zd0 _ _ _) λ_ _=>go 2<|Xt 15 J (λc=>?_) (λc=>?_)
  .refine go 4<|Zi 19 J (λd=>?_) (λd=>?_)
   .refine go 5<|Zi 24 J (λe=>?_) (λe=>?_)
    .refine go 7 ?_;exact Yp a () results92 (by first|exact vB (Ztg ‹_›)|exact vB (Ztf ‹_›)|exact vB (Zte O)|exact vB (Zne ‹_› ‹_› O O)) aA Za
    .refine go 7 ?_;exact Yp a () results92 (by first|exact vB (Ztg ‹_›)|exact vB (Ztf ‹_›)|exact vB (Zte O)|exact vB (Zne ‹_› ‹_› O O)) aA Za
   .refine go 12 ?_;exact Yp a () results92 (by first|exact vB (Ztg ‹_›)|exact vB (Ztf ‹_›)|exact vB (Zte O)|exact vB (Zne ‹_› ‹_› O O)) aA Za
  .refine go 16 ?_;exact Yp a () results92 (by first|exact vB (Ztg ‹_›)|exact vB (Ztf ‹_›)|exact vB (Zte O)|exact vB (Zne ‹_› ‹_› O O)) aA Za
 .refine go 20 ?_;exact Yp a () results92 (by first|exact vB (Ztg ‹_›)|exact vB (Ztf ‹_›)|exact vB (Zte O)|exact vB (Zne ‹_› ‹_› O O)) aA Za
theorem Yg2{fr d k:Int}(t:k=0\/k=1\/k=2)(j:Zeu ax ay az bx by_ bz fr d=true):Cal prog 48 #[.agg #[.int .i64 ax,.int .i64 ay,.int .i64 az],.agg #[.int .i64 bx,.int .i64 by_,.int .i64 bz],.int .i64 fr,.int .i64 d,.int .i64 k] [] true (G:=Value×(SL×SL×SL)) (λr=>True) (λr=> .tuple #[r.1,.int .i64 0]) (λr=>[Xp 6 Pw qG r.1 [glG ax ay az bx by_ bz fr d k r.2]]):=by refine Zd func48 ntmps48 λx w u h=>?_;obtain⟨f,g,-,-,-⟩:=Ymv j;obtain⟨l,m,n⟩:=Ai f;obtain⟨o,p,s⟩:=Ai g;refine go 2<|Zv (Zs 1) λbq _=>Zv (Zs 2) λi _=>go 11 ?_;refine cl 2 [] Yg1 λ_ _=>?_;refine dt (dF (Zw J J) (aE (λb=>Value.bool (!b)) j))<|go 12 ?_;refine cl 3 [] (gl_leg t ⟨O,O⟩ ⟨O,O⟩ ⟨O,O⟩ ⟨O,O⟩ ⟨O,O⟩ ⟨O,O⟩) λ⟨e,a,c⟩ _=>?_;refine tt (Og [(0,_)] 6 (enc:=Pw) [glG ax ay az bx by_ bz fr d k (e,a,c)] J J K2 Zfa ti101 J J Yhk J J pG.cells J J u.h) λv _=>go 5 ?_;exact Xf (Nk 6 J J pG)<|Xf (Oq qC 71)<|Xf (Qq (q:=qC) (z:=(glG ax ay az bx by_ bz fr d k (e,a,c)).2.1) 71 3 71 J J J J J)<|Xf (Qq (q:=qC) (z:=(glG ax ay az bx by_ bz fr d k (e,a,c)).2.2.1) 71 4 71 J J J J J)<|Xf (Qq (q:=qC) (z:=(glG ax ay az bx by_ bz fr d k (e,a,c)).2.2.2) 71 5 71 J J J J J)<|Xf (Oq qG 73)<|Xf (Qq (q:=qG) (z:=(glG ax ay az bx by_ bz fr d k (e,a,c))) 73 71 73 J J J J J)<|Xf (Cc 6 73 72 J J J J)<|Ok h (_,e,a,c) results48 J aA (Ka 72 Za)
theorem Ymx(ax ay az bx by_ bz fr c:Int)(e:Zeu ax ay az bx by_ bz fr c=true):Cal prog 94 #[.agg #[.int .i64 ax,.int .i64 ay,.int .i64 az],.agg #[.int .i64 bx,.int .i64 by_,.int .i64 bz],.int .i64 fr,.int .i64 c] [] true (G:=Value×(SL×SL×SL)) (λr=>True) (λr=> .tuple #[r.1,.int .i64 0]) (λr=>[Xp 6 Pw qG r.1 [glG ax ay az bx by_ bz fr c 1 r.2]]):=by refine Zd func94 ntmps94 λh g f a=>go 2 ?_;refine Zv (Zs 1) λbq _=>Zv (Zs 2) λd _=>go 10 ?_;refine cl 3 [] (Yg2 (.inr (.inl J)) e) λ⟨v,q⟩ _=>go 7 ?_;exact Ok a (v,q) results94 J aA (Ka 3 Za)
theorem Zth(ax ay az fr c:Int)(d:Zeu ax ay az ax ay az fr c=true):Cal prog 116 #[.agg #[.int .i64 ax,.int .i64 ay,.int .i64 az],.int .i64 fr,.int .i64 c] [] true (G:=Value×(SL×SL×SL)) (λr=>True) (λr=> .tuple #[r.1,.int .i64 0]) (λr=>[Xp 6 Pw qG r.1 [glG ax ay az ax ay az fr c 0 r.2]]):=by refine Zd func116 ntmps116 λg f e a=>go 2 ?_;refine Zv (Zs 1) λbq _=>go 10 ?_;refine cl 2 [] (Yg2 (.inl J) d) λ⟨v,q⟩ _=>go 7 ?_;exact Ok a (v,q) results116 J aA (Ka 2 Za)
theorem Yjs(ps:List Ze)(g:GdT)(s:Mg)(f:∀g∈ps,Gin g)(j:Xc ps=true)(o:ps.length<=5)(m:Gp g=true)(u:Dn s.1.1 s.1.2=true)(n:Lo s.2=true):Xe prog 62 #[Ci g,v,Gv s] [Xp 6 Pw qG v ps] (.tuple #[.bool (Zb3 ps g s),.int .i64 (Cn ps s)]):=by
 refine Zd func62 ntmps62 λF D B i=>?_;have c:=offH s f j u;obtain⟨x,y,z⟩:=Zze m;refine go 2<|Zv (Zs 2) λbq _=>Zv (Zs 3) λt _=>go 9 ?_;refine cl 3 [1] (Znz ps s.1.1 s.1.2 f j u) λ_ _=>go 14 ?_;refine cl 4 [1] (Yeb ps (Om ps s).1 (Om ps s).2 f j c.r (λg m=>Ie (f g m) ((Ea f j).2.1 g m)) (Ymd f j)) λw l=>go 14<|Zb J (λa=>?_) (λa=>?_)
 .refine go 8 ?_;exact Ok i () results62 (by rw [(Zyq (g:=g) a).1,(Zyq (g:=g) a).2]) aA Za
 .have e:Zcy (Om ps s).1 (Om ps s).2 ps=0:=eD.1 a;have h:=Zyo f j c e l;have p:=Zyp o h;refine go 8 ?_;refine cl 5 [] (Zth s.2.1 s.2.2.1 s.2.2.2 (Om ps s).1 (Om ps s).2 (Ygs n c)) λ⟨v,q⟩ _=>go 8 ?_;have r:=Yfv (g:=g) l q;refine go 11 ⟨O,O,?_⟩;refine cl 5 [4,5] (Zr0 w.2 [glG s.2.1 s.2.2.1 s.2.2.2 s.2.1 s.2.2.1 s.2.2.2 (Om ps s).1 (Om ps s).2 0 q] (g.1+g.2.1+1) h.gin (Zzf n n c.b.1 c.r.2.1 c.b.2) h.pb (Zzd n c.b.1 c.r.2.1 c.b.2 _) p O7 (ds_in O O)) λ_ _=>go 14<|Zb J (λd=>?_) (λd=>?_)
  .refine go 8 ?_;exact Ok i () results62 (by have k:=off_e (g:=g) e (by rw [<-r.1];exact d);rw [k.1,k.2]) aA Za
  .refine go 10 ?_;exact Ok i () results62 (by have k:=off_v (g:=g) e (by rw [<-r.1];exact eD.1 d);rw [k.1,k.2,r.2]) aA Za
theorem ab_Off(ps:List Ze)(g:GdT)(s:Mg)(j:∀g∈ps,Gin g)(f:Xc ps=true)(c:ps.length<=5)(i:Gp g=true)(h:Dn s.1.1 s.1.2=true)(k:Lo s.2=true):Xe prog 29 #[v,Ci g,Gv s] [Xp 6 Pw qG v ps] (.tuple #[.bool (Zb3 ps g s),.int .i64 (Cn ps s)]):=by refine Zd func29 ntmps29 λn m l d=>go 2 ?_;refine Zv (Zs 2) λbq _=>Zv (Zs 3) λe _=>go 8 ?_;refine cl 3 [1] (Qa j) λ_ _=>?_;refine dt (dF (Zw J J) (aE (λb=>Value.bool (!b)) f))<|go 2 ?_;refine Np 3 [] (Ck g) λ_ _=>?_;refine Kj (dF (Zw J J) (aE (λb=>Value.bool (!b)) i)) J J<|go 4 ?_;refine Np 3 [] (Za5 s.1.1 s.1.2) λ_ _=>?_;refine Kj (dF (Zw J J) (aE (λb=>Value.bool (!b)) h)) J J<|go 4 ?_;refine Np 3 [] (Zd0 s.2.1 s.2.2.1 s.2.2.2) λ_ _=>?_;refine Kj (dF (Zw J J) (aE (λb=>Value.bool (!b)) k)) J J<|go 9 ?_;refine dt (Xz [(0,_)] J K2 (λa w hs=>Zxa))<|go 2 ?_;refine cl 3 [1] (Yjs ps g s j f c i h k) λ_ _=>go 7 ?_;exact Ok d () results29 J aA Za
theorem Zdm(ps:List Ze)(fo w:SL)(po:List Yc)(ph:List Nn)(fl fu:Int):Xe prog 13 #[v,.agg #[Yx fo,Yx w,.int .i64 fl,.int .i64 fu]] [Xp 6 Pw qG v ps,Yn 3 Yk (Yx fo) po,Xp 1 (Pa (α:=List Yc)) Au (Yx w) ph] (.bool (sfB ps po ph)):=by
 refine Zd func13 ntmps13 λD B z c=>?_;refine Mc (Gu (i:=1) J Yd) (λx=>?_);refine Mc (Gu (i:=3) J Yd) λr=>go 2 ?_;refine Zv (Zs 4) λbq _=>go 10 ?_;refine lp (G:=Nat) [0,3] [0,1,2,3,4] (λi=>[(5,.int .i64 (i:Int))]) (λi=>[]) (λi=>(i<=ps.length/\i<=5)/\(∀k,k<i->s7 (ps.getD k G0)=true)) (λi=>ps.length-i) 0 ⟨O1,λk a=>absurd a (bK k)⟩ K1 aA ?_;rintro i ⟨hi,a⟩;refine go 8<|Zi 10 J (λs=>?_) (λs=>?_)
 .refine go 5<|Zb J (λo=>?_) (λo=>?_)
  .refine go 5<|Zr (Gr (ps.getD i G0) ((ps.getD i G0).2.1) 1 51 J J (Zk O) O7)<|Zr (Gr (ps.getD i G0) ((ps.getD i G0).2.2.1) 1 52 J J (Zk O) O7)<|Zr (Gr (ps.getD i G0) ((ps.getD i G0).2.2.2) 1 53 J J (Zk O) O7)<|go 3 ?_;refine dt (Yh 1 i J J J J Yd Zfa Zbx J)<|dt (Zgh 1 J J J Yd Zfb J Zq4 J)<|dt (Zgg 1 G0 J J J Yd isAgg99 J)<|go 3 ?_;refine Zi 23 J (λt=>?_) (λt=>?_)
   .refine go 31 ?_;exact Yp c () results13 (by rw [sf_f ps i O O (s7_f O)]) aA Za
   .refine go 2 ?_;refine Kj (Yh 1 i J J J J Yd Zfa Zbx J) J J<|Kj (Zgh 1 J J J Yd Zfb J Zq4 J) J J<|Kj (Zgg 1 G0 J J J Yd isAgg99 J) J J<|go 4 ?_;refine Zi 32 J (λd=>?_) (λd=>?_)
    .refine go 22 ?_;exact Yp c () results13 (by rw [sf_f ps i O O (s7_f O)]) aA Za
    .refine go 2 ?_;refine Kj (Yh 1 i J J J J Yd Zfa Zbx J) J J<|Kj (Zgh 1 J J J Yd Zfb J Zq4 J) J J<|Kj (Zgg 1 G0 J J J Yd isAgg99 J) J J<|go 5 ?_;refine Zb J (λp=>?_) (λp=>?_)
     .refine go 11 ?_;exact Yp c () results13 (by rw [sf_f ps i O O (s7_f O)]) aA Za
     .refine go 8 ⟨O,?_⟩;exact Yj (i+1) ⟨O1,λk y=>by rcases aC.1 y with q|q;exact a k q;subst q;exact s7_t O O O⟩ O1 K1 aA
  .refine go 11<|Zi 44 J (λu=>?_) (λu=>?_)
   .refine go 6<|Zi 50 J (λe=>?_) (λe=>?_)
    .refine go 6<|Zi 56 J (λf=>?_) (λf=>?_)
     .refine go 5<|Zi 61 J (λg=>?_) (λg=>?_)
      .refine go 12 ?_;exact Yp c () results13 (by first|exact vB (Zd2 (n:=i) O a O)|exact vB (Zl8 (n:=i) O a O O)|exact vB ((Zl7 (n:=i) O a O O).trans (aZ.2 O))) aA Za
      .refine Oj (Zbg 3 55 (ph.getD 0 Kc) J J (Zk O) J)<|go 3 ⟨O,?_⟩;refine Kj (Qz 3 Kc J J J Yd pPg) J J<|go 8 ?_;exact Yp c () results13 (by first|exact vB (Zd2 (n:=i) O a O)|exact vB (Zl8 (n:=i) O a O O)|exact vB ((Zl7 (n:=i) O a O O).trans (aZ.2 O))) aA Za
     .refine go 17 ?_;exact Yp c () results13 (by first|exact vB (Zd2 (n:=i) O a O)|exact vB (Zl8 (n:=i) O a O O)|exact vB ((Zl7 (n:=i) O a O O).trans (aZ.2 O))) aA Za
    .refine go 23 ?_;exact Yp c () results13 (by first|exact vB (Zd2 (n:=i) O a O)|exact vB (Zl8 (n:=i) O a O O)|exact vB ((Zl7 (n:=i) O a O O).trans (aZ.2 O))) aA Za
   .refine go 29 ?_;exact Yp c () results13 (by first|exact vB (Zd2 (n:=i) O a O)|exact vB (Zl8 (n:=i) O a O O)|exact vB ((Zl7 (n:=i) O a O O).trans (aZ.2 O))) aA Za
 .refine go 17<|Zi 44 J (λh=>?_) (λh=>?_)
  .refine go 6<|Zi 50 J (λj=>?_) (λj=>?_)
   .refine go 6<|Zi 56 J (λl=>?_) (λl=>?_)
    .refine go 5<|Zi 61 J (λm=>?_) (λm=>?_)
     .refine go 12 ?_;exact Yp c () results13 (by first|exact vB (Zd2 (n:=i) O a O)|exact vB (Zl8 (n:=i) O a O O)|exact vB ((Zl7 (n:=i) O a O O).trans (aZ.2 O))) aA Za
     .refine Oj (Zbg 3 55 (ph.getD 0 Kc) J J (Zk O) J)<|go 3 ⟨O,?_⟩;refine Kj (Qz 3 Kc J J J Yd pPg) J J<|go 8 ?_;exact Yp c () results13 (by first|exact vB (Zd2 (n:=i) O a O)|exact vB (Zl8 (n:=i) O a O O)|exact vB ((Zl7 (n:=i) O a O O).trans (aZ.2 O))) aA Za
    .refine go 17 ?_;exact Yp c () results13 (by first|exact vB (Zd2 (n:=i) O a O)|exact vB (Zl8 (n:=i) O a O O)|exact vB ((Zl7 (n:=i) O a O O).trans (aZ.2 O))) aA Za
   .refine go 23 ?_;exact Yp c () results13 (by first|exact vB (Zd2 (n:=i) O a O)|exact vB (Zl8 (n:=i) O a O O)|exact vB ((Zl7 (n:=i) O a O O).trans (aZ.2 O))) aA Za
  .refine go 29 ?_;exact Yp c () results13 (by first|exact vB (Zd2 (n:=i) O a O)|exact vB (Zl8 (n:=i) O a O O)|exact vB ((Zl7 (n:=i) O a O O).trans (aZ.2 O))) aA Za
theorem Ymn(ps:List Ze)(g:GdT)(s:Mg)(e:∀g∈ps,Gin g)(f:Xc ps=true)(o:ps.length<=5)(m:Gp g=true)(u:Dn s.1.1 s.1.2=true)(n:Lo s.2=true):Xe prog 66 #[v,Ci g,Gv s] [Xp 6 Pw qG v ps] (.tuple #[.bool (Zb3 ps g s),.int .i64 (Cn ps s)]):=by
 refine Zd func66 ntmps66 λM I H j=>?_;have d:=offH s e f u;obtain⟨x,y,z⟩:=Zze m;obtain⟨B,D,F,G⟩:=Yd4 e f;refine go 2<|Zv (Zs 2) λbq _=>Zv (Zs 3) λt _=>go 7 ?_;refine cl 3 [1] (Zoh ps e f) λ_ _=>go 15 ?_;refine cl 3 [] (Zv0 (spF ps) (spL ps) s.1.1 s.1.2 ⟨O,O⟩ ⟨O,O⟩ u) λ_ _=>go 12 ?_;refine cl 4 [1] (Yeb ps (Om ps s).1 (Om ps s).2 e f d.r (λg m=>Ie (e g m) ((Ea e f).2.1 g m)) (Ymd e f)) λw l=>go 14<|Zb J (λc=>?_) (λc=>?_)
 .refine go 8 ?_;exact Ok j () results66 (by rw [(Zyq (g:=g) c).1,(Zyq (g:=g) c).2]) aA Za
 .have h:Zcy (Om ps s).1 (Om ps s).2 ps=0:=eD.1 c;have i:=Zyo e f d h l;have p:=Zyp o i;refine go 8 ?_;refine cl 5 [] (Zth s.2.1 s.2.2.1 s.2.2.2 (Om ps s).1 (Om ps s).2 (Ygs n d)) λ⟨v,q⟩ _=>go 8 ?_;have r:=Yfv (g:=g) l q;refine go 9 ⟨O,O,?_⟩;refine cl 5 [4,5] (Zr0 w.2 [glG s.2.1 s.2.2.1 s.2.2.2 s.2.1 s.2.2.1 s.2.2.2 (Om ps s).1 (Om ps s).2 0 q] (g.1+g.2.1+1) i.gin (Zzf n n d.b.1 d.r.2.1 d.b.2) i.pb (Zzd n d.b.1 d.r.2.1 d.b.2 _) p O7 (ds_in O O)) λ_ _=>go 14<|Zb J (λa=>?_) (λa=>?_)
  .refine go 8 ?_;exact Ok j () results66 (by have k:=off_e (g:=g) h (by rw [<-r.1];exact a);rw [k.1,k.2]) aA Za
  .refine go 10 ?_;exact Ok j () results66 (by have k:=off_v (g:=g) h (by rw [<-r.1];exact eD.1 a);rw [k.1,k.2,r.2]) aA Za
theorem Zv1(ps:List Ze)(fo h:SL)(po:List Yc)(ph:List Nn)(fl fu:Int)(g:GdT)(s:Mg)(u:∀g∈ps,Gin g)(o:Xc ps=true)(i:ps.length<=5)(t:Ga po ph fl fu=true)(m:Gp g=true)(l:Dn s.1.1 s.1.2=true)(n:Lo s.2=true):Xe prog 23 #[v,.agg #[Yx fo,Yx h,.int .i64 fl,.int .i64 fu],Ci g,Gv s] [Xp 6 Pw qG v ps,Yn 3 Yk (Yx fo) po,Xp 1 (Pa (α:=List Yc)) Au (Yx h) ph] (dcR ps fo po ph fl fu g s):=by
 refine Zd func23 ntmps23 λy x w a=>?_;obtain⟨p,q,r⟩:=Zup l;refine go 2<|Zv (Zs 4) λbq _=>Zv (Zs 5) λj _=>Zv (Zs 6) λk _=>go 11 ?_;refine cl 6 [2,3] (Zta fo h po ph fl fu g s.2 t m n) λ_ _=>go 2<|Ym J (λc=>?_) (λc=>?_)
 .refine go 8 ?_;exact Ok a () results23 (by first|exact(Zed ‹_›).symm|exact(Zec ‹_› ‹_›).symm|exact(Zeb ‹_› ‹_› ‹_›).symm|exact(Zea ‹_› ‹_› ‹_› ‹_›).symm|exact(Zd9 ‹_› ‹_› ‹_› ‹_›).symm) aA Za
 .refine go 7 ?_;refine cl 6 [1] (Ymn ps g s u o i m l n) λ_ _=>go 14<|Zb J (λd=>?_) (λd=>?_)
  .refine go 9 ?_;exact Ok a () results23 (by first|exact(Zed ‹_›).symm|exact(Zec ‹_› ‹_›).symm|exact(Zeb ‹_› ‹_› ‹_›).symm|exact(Zea ‹_› ‹_› ‹_› ‹_›).symm|exact(Zd9 ‹_› ‹_› ‹_› ‹_›).symm) aA Za
  .refine go 8<|Ym J (λe=>?_) (λe=>?_)
   .refine go 8 ?_;exact Ok a () results23 (by first|exact(Zed ‹_›).symm|exact(Zec ‹_› ‹_›).symm|exact(Zeb ‹_› ‹_› ‹_›).symm|exact(Zea ‹_› ‹_› ‹_› ‹_›).symm|exact(Zd9 ‹_› ‹_› ‹_› ‹_›).symm) aA Za
   .refine go 17 ⟨O,?_⟩;refine Zb J (λf=>?_) (λf=>?_)
    .refine go 8 ?_;exact Ok a () results23 (by first|exact(Zed ‹_›).symm|exact(Zec ‹_› ‹_›).symm|exact(Zeb ‹_› ‹_› ‹_›).symm|exact(Zea ‹_› ‹_› ‹_› ‹_›).symm|exact(Zd9 ‹_› ‹_› ‹_› ‹_›).symm) aA Za
    .refine go 9 ?_;exact Ok a () results23 (by first|exact(Zed ‹_›).symm|exact(Zec ‹_› ‹_›).symm|exact(Zeb ‹_› ‹_› ‹_›).symm|exact(Zea ‹_› ‹_› ‹_› ‹_›).symm|exact(Zd9 ‹_› ‹_› ‹_› ‹_›).symm) aA Za
theorem Zhs(v:Value)(ps:List Ze)(fo i:SL)(po:List Yc)(ph:List Nn)(fl fu:Int)(g:GdT)(s:Mg)(t:∀g∈ps,Gin g)(q:Xc ps=true)(l:ps.length<=5)(r:Ga po ph fl fu=true)(k:Gp g=true)(j:Dn s.1.1 s.1.2=true)(m:Lo s.2=true):Xe prog 20 #[v,.agg #[Yx fo,Yx i,.int .i64 fl,.int .i64 fu],Ci g,Gv s] [Xp 6 Pw qG v ps,Yn 3 Yk (Yx fo) po,Xp 1 (Pa (α:=List Yc)) Au (Yx i) ph] (dcR ps fo po ph fl fu g s):=by
 refine Zd func20 ntmps20 λD B z c=>?_;obtain⟨u,x,y⟩:=Zup j;refine go 2<|Zv (Zs 4) λbq _=>Zv (Zs 5) λn _=>Zv (Zs 6) λo _=>go 8 ?_;refine cl 6 [1] (Qa t) λ_ _=>?_;refine dt (dF (Zw J J) (aE (λb=>Value.bool (!b)) q))<|go 2 ?_;refine Np 6 [2,3] (Li fo i po ph fl fu) λ_ _=>?_;refine Kj (dF (Zw J J) (aE (λb=>Value.bool (!b)) r)) J J<|go 3 ?_;refine Np 6 [] (Ck g) λ_ _=>?_;refine Kj (dF (Zw J J) (aE (λb=>Value.bool (!b)) k)) J J<|go 4 ?_;refine Np 6 [] (Za5 s.1.1 s.1.2) λ_ _=>?_;refine Kj (dF (Zw J J) (aE (λb=>Value.bool (!b)) j)) J J<|go 4 ?_;refine Np 6 [] (Zd0 s.2.1 s.2.2.1 s.2.2.2) λ_ _=>?_;refine Kj (dF (Zw J J) (aE (λb=>Value.bool (!b)) m)) J J<|go 9 ?_;refine dt (Xz [(0,_)] J K2 (λa w hs=>Zxa))<|Zv (Zu 7) λp _=>go 10 ?_;refine cl 7 [2,3] (Zl0 fo i po ph fl fu g s.2 r k m) λ_ _=>go 2<|Ym J (λd=>?_) (λd=>?_)
 .refine go 8 ?_;exact Ok c () results20 (by first|exact(Zed ‹_›).symm|exact(Zec ‹_› ‹_›).symm|exact(Zeb ‹_› ‹_› ‹_›).symm|exact(Zea ‹_› ‹_› ‹_› ‹_›).symm|exact(Zd9 ‹_› ‹_› ‹_› ‹_›).symm) aA Za
 .refine go 7 ?_;refine cl 7 [1] (Yjs ps g s t q l k j m) λ_ _=>go 16<|Zb J (λe=>?_) (λe=>?_)
  .refine go 10 ?_;exact Ok c () results20 (by first|exact(Zed ‹_›).symm|exact(Zec ‹_› ‹_›).symm|exact(Zeb ‹_› ‹_› ‹_›).symm|exact(Zea ‹_› ‹_› ‹_› ‹_›).symm|exact(Zd9 ‹_› ‹_› ‹_› ‹_›).symm) aA Za
  .refine go 6<|Ym J (λf=>?_) (λf=>?_)
   .refine go 9 ?_;exact Ok c () results20 (by first|exact(Zed ‹_›).symm|exact(Zec ‹_› ‹_›).symm|exact(Zeb ‹_› ‹_› ‹_›).symm|exact(Zea ‹_› ‹_› ‹_› ‹_›).symm|exact(Zd9 ‹_› ‹_› ‹_› ‹_›).symm) aA Za
   .refine go 16 ⟨O,?_⟩;refine Zb J (λh=>?_) (λh=>?_)
    .refine go 9 ?_;exact Ok c () results20 (by first|exact(Zed ‹_›).symm|exact(Zec ‹_› ‹_›).symm|exact(Zeb ‹_› ‹_› ‹_›).symm|exact(Zea ‹_› ‹_› ‹_› ‹_›).symm|exact(Zd9 ‹_› ‹_› ‹_› ‹_›).symm) aA Za
    .refine go 10 ?_;exact Ok c () results20 (by first|exact(Zed ‹_›).symm|exact(Zec ‹_› ‹_›).symm|exact(Zeb ‹_› ‹_› ‹_›).symm|exact(Zea ‹_› ‹_› ‹_› ‹_›).symm|exact(Zd9 ‹_› ‹_› ‹_› ‹_›).symm) aA Za
theorem Zee(v:Value)(ps:List Ze)(fo h:SL)(po:List Yc)(ph:List Nn)(fl fu:Int)(g:GdT)(s:Mg)(i:∀g∈ps,Gin g)(m:(Xc ps && (Ga po ph fl fu && (Gp g && Zbe s)))=false):Xe prog 20 #[v,.agg #[Yx fo,Yx h,.int .i64 fl,.int .i64 fu],Ci g,Gv s] [Xp 6 Pw qG v ps,Yn 3 Yk (Yx fo) po,Xp 1 (Pa (α:=List Yc)) Au (Yx h) ph] (.tuple #[.int .i64 0,.int .i64 2]):=by
 refine Zd func20 ntmps20 λp o n e=>go 2 ?_;refine Zv (Zs 4) λbq _=>Zv (Zs 5) λk _=>Zv (Zs 6) λl _=>go 6 ?_;rcases Ycq m with a|⟨a,c⟩|⟨a,c,d⟩|⟨a,c,d,f⟩|⟨a,c,d,f,j⟩
 .refine go 2 ?_;refine cl 6 [1] (Qa i) λ_ _=>?_;refine dt (dT (Zw J J) (aE (λb=>Value.bool (!b)) a))<|go 33 ?_;exact Ok e () results20 J aA Za
 .refine go 2 ?_;refine cl 6 [1] (Qa i) λ_ _=>?_;refine dt (dF (Zw J J) (aE (λb=>Value.bool (!b)) a))<|go 2 ?_;refine Np 6 [2,3] (Li fo h po ph fl fu) λ_ _=>?_;refine Kj (dT (Zw J J) (aE (λb=>Value.bool (!b)) c)) J J<|go 29 ?_;exact Ok e () results20 J aA Za
 .refine go 2 ?_;refine cl 6 [1] (Qa i) λ_ _=>?_;refine dt (dF (Zw J J) (aE (λb=>Value.bool (!b)) a))<|go 2 ?_;refine Np 6 [2,3] (Li fo h po ph fl fu) λ_ _=>?_;refine Kj (dF (Zw J J) (aE (λb=>Value.bool (!b)) c)) J J<|go 3 ?_;refine Np 6 [] (Ck g) λ_ _=>?_;refine Kj (dT (Zw J J) (aE (λb=>Value.bool (!b)) d)) J J<|go 24 ?_;exact Ok e () results20 J aA Za
 .refine go 2 ?_;refine cl 6 [1] (Qa i) λ_ _=>?_;refine dt (dF (Zw J J) (aE (λb=>Value.bool (!b)) a))<|go 2 ?_;refine Np 6 [2,3] (Li fo h po ph fl fu) λ_ _=>?_;refine Kj (dF (Zw J J) (aE (λb=>Value.bool (!b)) c)) J J<|go 3 ?_;refine Np 6 [] (Ck g) λ_ _=>?_;refine Kj (dF (Zw J J) (aE (λb=>Value.bool (!b)) d)) J J<|go 4 ?_;refine Np 6 [] (Za5 s.1.1 s.1.2) λ_ _=>?_;refine Kj (dT (Zw J J) (aE (λb=>Value.bool (!b)) f)) J J<|go 18 ?_;exact Ok e () results20 J aA Za
 .refine go 2 ?_;refine cl 6 [1] (Qa i) λ_ _=>?_;refine dt (dF (Zw J J) (aE (λb=>Value.bool (!b)) a))<|go 2 ?_;refine Np 6 [2,3] (Li fo h po ph fl fu) λ_ _=>?_;refine Kj (dF (Zw J J) (aE (λb=>Value.bool (!b)) c)) J J<|go 3 ?_;refine Np 6 [] (Ck g) λ_ _=>?_;refine Kj (dF (Zw J J) (aE (λb=>Value.bool (!b)) d)) J J<|go 4 ?_;refine Np 6 [] (Za5 s.1.1 s.1.2) λ_ _=>?_;refine Kj (dF (Zw J J) (aE (λb=>Value.bool (!b)) f)) J J<|go 4 ?_;refine Np 6 [] (Zd0 s.2.1 s.2.2.1 s.2.2.2) λ_ _=>?_;refine Kj (dT (Zw J J) (aE (λb=>Value.bool (!b)) j)) J J<|go 12 ?_;exact Ok e () results20 J aA Za
def pBd:Enc Tryz.prog 50 2 Yh0:=Enc.agg O3 Tryz.sizeOf50 Tryz.isAgg50 (λx=>⟨[.int .i64 x.1,.int .i64 x.2],rfl,rfl,O11⟩)
@[reducible,instance] def encBdI:EncT Tryz.prog 50 2 Yh0:=⟨pBd⟩
theorem l44_ex:Cal prog 49 #[] [] true (G:=Value×SL×(SL×SL×SL)) (λr=>True) (λr=> .tuple #[r.1,.agg #[Yx r.2.1,.slice none 0 0,.int .i64 0,.int .i64 200],.agg #[.int .i64 20,.int .i64 5,.int .i64 500]]) (λr=>[Xp 6 Pw qG r.1 [exG r.2.2],Yn 3 Yk (Yx r.2.1) Zle]):=by refine Zd func49 ntmps49 λk j g c=>go 3 ?_;refine Zv (Zu 1) λbq _=>Zv (Zu 2) λe _=>go 4 ?_;refine dt (Xz [(2,_)] J K2 (λa w hs=>b23_2 ((Zl J) a w hs)))<|dt (Xz [(0,_),(2,_)] J K4 (λa w hs=>Ze4 ((Zl J) a w hs) ((Zl J) a w hs)))<|cl 3 [] (Ymx 0 0 100 1000 0 100 0 10000 O3) λ⟨v,q⟩ _=>go 9 ?_;refine dt (Xz [(0,_),(1,_)] J K4 (λa w hs=>Zhq ((Zl J) a w hs) ((Zl J) a w hs)))<|dt (Xz [(0,_),(1,_)] J K4 (λa w hs=>Zhq ((Zl J) a w hs) ((Zl J) a w hs)))<|dt (Xz [(0,_),(1,_)] J K4 (λa w hs=>Zhq ((Zl J) a w hs) ((Zl J) a w hs)))<|dt (Xz [(0,_),(1,_)] J K4 (λa w hs=>Zhq ((Zl J) a w hs) ((Zl J) a w hs)))<|tt (Og [(0,_),(1,_),(2,_),(3,_)] 4 (enc:=Yk) Zle J J K8 Ft ti23 J J J J J pPt.cells J J g.h) (λi _=>?_);refine dt (Xz [(0,_),(3,_)] J K4 (λa w hs=>b40_03 ((Oo 4 J (Yi pPt)) a w hs) ((Zl J) a w hs)))<|Zv (Zu 5) λf _=>go 4 ?_;refine Ni [5] [5]<|Zx 0 [(0,0),(1,0),(2,0),(3,0),(4,1),(5,3)]<|go 2 ?_;refine Xy J J (Fv (Xz [(0,_),(1,_),(2,_)] J K6 (λa w hs=>Yoj ((Zl J) a w hs) ((Zl J) a w hs) ((Zl J) a w hs))) K1)<|go 4 ?_;refine Ys<|go 2<|Xf (Nk 4 J J pPt) ?_;refine Zn1 (Mn 4 J Zg) (λh d=>?_);subst d;exact xe3 c (_,h,q) results49 J aA (Ka 3 (Ka 4 Za))
theorem Gg:Xe prog 14 #[] [] (.bool true):=by
 refine Zd func14 ntmps14 λz y e k=>go 7 ?_;refine cl 1 [] l44_ex λ⟨v,d,q⟩ _=>?_;refine Oj (s_dnil 1 (Pa (α:=List Yc)) Au 75)<|go 4<|Zv (Zu 3) λbq _=>Zv (Zu 4) λl _=>go 8 ?_;refine dt (Xz [(0,_),(1,_)] J K4 (λa w hs=>Zhp ((Zl J) a w hs) ((Zl J) a w hs)))<|dt (Xz [(0,_),(1,_)] J K4 (λa w hs=>Zhp ((Zl J) a w hs) ((Zl J) a w hs)))<|dt (Xz [(0,_),(1,_)] J K4 (λa w hs=>Zhp ((Zl J) a w hs) ((Zl J) a w hs)))<|tt (Og [(0,_),(1,_),(2,_)] 5 (enc:=Yh0) xB J J K6 underlying117 ti50 J J Yhj J J pBd.cells J J e.h) λr _=>go 5 ?_;refine lp (G:=Nat) [1,2,3,29,30] [0,1,2,75,3,4,5] (λi=>[(31,.int .i64 (i:Int))]) (λi=>[]) (λi=>i<=3) (λi=>3-i) 0 O1 K1 aA ?_;rintro i hi;refine go 6<|Zb J (λf=>?_) (λf=>?_)
 .have c:i<3:=by have p:((xB.length:Nat):Int)=3:=rfl;omega
  refine go 7 ?_;refine dt (Yh 5 i J J J J (Yi pBd) underlying117 sizeOf50 J c)<|dt (Qz 5 (0,0) J J J (Yi pBd) pBd c)<|Zv (Zu 6) λm _=>go 8 ?_;refine cl 6 [1] (Znz [exG q] (xB.getD i (0,0)).1 (xB.getD i (0,0)).2 (Ymp _) (Ymo _) (kx_b c)) λ_ _=>go 12<|kf (aF (λh=>h J))<|go 2 ?_;refine gtt (Og [(0,_),(1,_),(2,_)] 7 (enc:=Xi) ([100,300,9999]:List Int) J J K6 Le ti3 J J J J J pZ.cells J J e.h) J J J J λs _=>go 1 ?_;refine Kj (Yh 7 i J J J J (Yi pZ) Le Dy J c) J J<|go 1 ⟨c,?_⟩;refine kfg (aF (λh=>h (kx_w q c).1))<|go 3 ?_;refine gtt (Og [(0,_),(1,_),(2,_)] 8 (enc:=Xi) ([200,301,10000]:List Int) J J K6 Le ti3 J J J J J pZ.cells J J e.h) J J J J λt _=>go 1 ?_;refine Kj (Yh 8 i J J J J (Yi pZ) Le Dy J c) J J<|go 1 ⟨c,?_⟩;refine kfg (aF (λh=>h (kx_w q c).2))<|go 11 ⟨O,?_⟩;exact Yj (i+1) O1 O1 K1 aA
 .refine go 8 ?_;refine dt (Xz [(0,_),(2,_)] J K4 (λa w hs=>Ze4 ((Zl J) a w hs) ((Zl J) a w hs)))<|dt (Xz [(0,_),(2,_)] J K4 (λa w hs=>Ze4 ((Zl J) a w hs) ((Zl J) a w hs)))<|dt (Xz [(0,_),(2,_)] J K4 (λa w hs=>Ze4 ((Zl J) a w hs) ((Zl J) a w hs)))<|tt (Og [(0,_),(1,_),(2,_)] 9 (enc:=Yk) xV J J K6 Ft ti23 J J J J J pPt.cells J J e.h) λu _=>go 5 ?_;refine lp (G:=Nat) [1,2,3,65,66] [0,1,2,75,3,4,5,9] (λi=>[(67,.int .i64 (i:Int))]) (λi=>[]) (λi=>i<=3) (λi=>3-i) 0 O1 K1 aA ?_;rintro i hi;refine go 6<|Zb J (λg=>?_) (λg=>?_)
  .have c:i<3:=by have p:((xV.length:Nat):Int)=3:=rfl;omega
   refine go 7 ?_;refine dt (Yh 9 i J J J J (Yi pPt) Ft Ae J c)<|dt (Qz 9 Yq J J J (Yi pPt) pPt c)<|Zv (Zu 10) λn _=>go 8 ?_;refine dt (Xz [(0,_),(1,_)] J K4 (λa w hs=>Zhp ((Zl J) a w hs) ((Zl J) a w hs)))<|go 1 ?_;refine dt (Xz [(0,_),(1,_)] J K4 (λa w hs=>Zw9))<|cl 10 [1] (ab_Off [exG q] gd5 ((1000,1100),xV.getD i Yq) (Ymp _) (Ymo _) O7 Zza (show Dn 1000 1100=true by decide) (kx_v c)) λ_ _=>go 10 ?_;refine kf (aF (λh=>h (kx_oe q c)))<|go 4<|kfg (by rw [kx_ov q c];exact mK _)<|go 11 ⟨O,?_⟩;exact Yj (i+1) O1 O1 K1 aA
  .refine go 8 ?_;refine dt (Xz [(0,_),(1,_),(2,_)] J K6 (λa w hs=>Yaw ((Zl J) a w hs) ((Zl J) a w hs) ((Zl J) a w hs)))<|dt (Xz [(0,_),(1,_),(2,_)] J K6 (λa w hs=>Yaw ((Zl J) a w hs) ((Zl J) a w hs) ((Zl J) a w hs)))<|dt (Xz [(0,_),(2,_)] J K4 (λa w hs=>Ze4 ((Zl J) a w hs) ((Zl J) a w hs)))<|tt (Og [(0,_),(1,_),(2,_)] 11 (enc:=Yk) xW J J K6 Ft ti23 J J J J J pPt.cells J J e.h) λx _=>go 5 ?_;refine lp (G:=Nat) [1,2,3,93,94] [0,1,2,75,3,4,5,9,11] (λi=>[(95,.int .i64 (i:Int))]) (λi=>[]) (λi=>i<=3) (λi=>3-i) 0 O1 K1 aA ?_;rintro i hi;refine go 6<|Zb J (λj=>?_) (λj=>?_)
   .have c:i<3:=by have p:((xW.length:Nat):Int)=3:=rfl;omega
    refine go 7 ?_;refine dt (Yh 11 i J J J J (Yi pPt) Ft Ae J c)<|dt (Qz 11 Yq J J J (Yi pPt) pPt c)<|Zv (Zu 12) λo _=>go 9 ?_;refine cl 12 [2,75] (Zxi d (none,0,0) Zle [] 0 200 gd5 (xW.getD i Yq) kx_f Zza (kx_u c)) λ_ _=>go 10<|kf (aF (λh=>h J))<|go 4<|kfg (by rw [kx_ou c];exact mK _)<|go 11 ⟨O,?_⟩;exact Yj (i+1) O1 O1 K1 aA
   .refine go 10 ?_;refine dt (Xz [(0,_),(1,_)] J K4 (λa w hs=>Zhp ((Zl J) a w hs) ((Zl J) a w hs)))<|dt (Xz [(0,_),(2,_)] J K4 (λa w hs=>Ze4 ((Zl J) a w hs) ((Zl J) a w hs)))<|dt (Xz [(0,_),(1,_)] J K4 (λa w hs=>Zw9))<|cl 12 [1,2,75] (Zhs _ [exG q] d (none,0,0) Zle [] 0 200 gd5 ((1000,1600),(100,0,100)) (Ymp _) (Ymo _) O7 kx_f Zza O3 O3) λ_ _=>go 12 ?_;refine dt (Xz [(0,_),(1,_)] J K4 (λa w hs=>Zhp ((Zl J) a w hs) ((Zl J) a w hs)))<|dt (Xz [(0,_),(2,_)] J K4 (λa w hs=>Ze4 ((Zl J) a w hs) ((Zl J) a w hs)))<|dt (Xz [(0,_),(1,_)] J K4 (λa w hs=>Zw9))<|cl 12 [1,2,75] (Zhs _ [exG q] d (none,0,0) Zle [] 0 200 gd5 ((1000,1400),(100,0,100)) (Ymp _) (Ymo _) O7 kx_f Zza O3 O3) λ_ _=>go 10 ?_;refine kt (aD (kx_d1 q d).2)<|go 2<|ktg (aD (kx_d2 q d).2)<|go 3<|ktg (aD (kx_d1 q d).1)<|go 3<|ktg (aD (kx_d2 q d).1)<|go 5 ?_;exact Yp k () results14 J aA Za
abbrev Si0:Mg:=((0,0),Yq)
def fsR(c a:Mg->Int):Nat->List Mg->Int×Int×Int
 | k,[]=>((k:Int),0,0)
 | k,s::t=>if a s≠0 then(0,0,a s)else if c s≠0 then((k:Int),c s,0)else fsR c a (k+1) t
def OkU(c a:Mg->Int)(l:List Mg)(i:Nat):Prop:=∀j,j<i->a (l.getD j Si0)=0/\c (l.getD j Si0)=0
section
variable {dv de:Mg->Int} {l:List Mg} {i:Nat}
def okU_0:OkU dv de l 0:=λj h=>absurd h (bK j)
theorem okU_s(h:OkU dv de l i)(c:¬de (l.getD i Si0)≠0)(d:¬dv (l.getD i Si0)≠0):OkU dv de l (i+1):=λj e=>by
 rcases aC.1 e with a|a
 .exact h j a
 .subst a;exact⟨eD.1 c,eD.1 d⟩
theorem Zps:∀(l:List Mg) (k i:Nat),i<=l.length->OkU dv de l i->fsR dv de k l=fsR dv de (k+i) (l.drop i)
 | l,k,0,_,_=>rfl
 | [],k,i+1,h,_=>absurd h O7
 | s::t,k,i+1,h,ho=>by have a:=ho 0 (mE i);have c:de s=0:=a.1;have d:dv s=0:=a.2;rw [lE,fsR,aJ (by rw [c];decide),aJ (by rw [d];decide),Zps t (k+1) i (by simpa using h) (λj e=>ho (j+1) O),show k+1+i=k+(i+1) by omega]
theorem Ztx(h:i<l.length):l.drop i=l.getD i Si0::l.drop (i+1):=by rw [aN,aM h];exact dU h
theorem Yg8(hi:i<l.length)(a:OkU dv de l i)(h:de (l.getD i Si0)≠0):fsR dv de 0 l=(0,0,de (l.getD i Si0)):=by rw [Zps l 0 i O a,Ztx hi,fsR,aO h]
theorem fsR_d(hi:i<l.length)(c:OkU dv de l i)(a:¬de (l.getD i Si0)≠0)(h:dv (l.getD i Si0)≠0):fsR dv de 0 l=((i:Int),dv (l.getD i Si0),0):=by rw [Zps l 0 i O c,Ztx hi,fsR,aJ a,aO h,bT]
theorem fsR_n(hi:l.length<=i)(a:OkU dv de l i):fsR dv de 0 l=((l.length:Int),0,0):=by rw [Zps l 0 l.length (aI _) (λj c=>a j O),kB,fsR,bT]
end
section
variable (ps:List Ze) (fo:SL) (po:List Yc) (ph:List Nn) (fl fu:Int) (g:GdT)
def dvS(s:Mg):Int:=if Zbe s=true then dcV (ouB fo po ph fl fu g.2.1 s.2) (Cn ps s) (Zb3 ps g s) (wiS g s)else 0
def deS(s:Mg):Int:=if Zbe s=true then dcE (ouB fo po ph fl fu g.2.1 s.2) (Cn ps s)else 2
abbrev dcS (s:Mg):Value:= .tuple #[.int .i64 (dvS ps fo po ph fl fu g s),.int .i64 (deS ps fo po ph fl fu g s)]
abbrev fsV (l:List Mg):Int×Int×Int:=fsR (dvS ps fo po ph fl fu g) (deS ps fo po ph fl fu g) 0 l
theorem dcS_t{s:Mg}(h:Zbe s=true):dcS ps fo po ph fl fu g s=dcR ps fo po ph fl fu g s:=by unfold dcS dvS deS;rw [aO h,aO h]
theorem dcS_f{s:Mg}(h:Zbe s=false):dcS ps fo po ph fl fu g s= .tuple #[.int .i64 0,.int .i64 2]:=by unfold dcS dvS deS;rw [aJ (by rw [h];decide),aJ (by rw [h];decide)]
theorem deS_f{s:Mg}(h:Zbe s=false):deS ps fo po ph fl fu g s=2:=by unfold deS;rw [aJ (by rw [h];decide)]
end
section
variable {ps:List Ze} {fo:SL} {po:List Yc} {ph:List Nn} {fl fu:Int} {g:GdT} {s:Mg}
def ds_ok(h:Zbe s=true):dvS ps fo po ph fl fu g s=dcV (ouB fo po ph fl fu g.2.1 s.2) (Cn ps s) (Zb3 ps g s) (wiS g s)/\deS ps fo po ph fl fu g s=dcE (ouB fo po ph fl fu g.2.1 s.2) (Cn ps s):=⟨aO h,aO h⟩
theorem Yeg(h:Zbe s=true):Dn s.1.1 s.1.2=true/\Lo s.2=true:=by simpa only [Zbe,aQ]using h
theorem Ynj{a c:Bool}(h:(a && (b && c))=false){d:Bool}:(a && (b && (c && d)))=false:=by cases a<;>cases b<;>cases c<;>simp_all
theorem few_c{n:Nat}(h:b=false\/5<n):b=false\/(b=true/\5<n):=by cases b<;>simp_all
theorem fs_e{l:List Mg}{i:Nat}(hi:i<l.length)(a:OkU (dvS ps fo po ph fl fu g) (deS ps fo po ph fl fu g) l i)(h:Zbe (l.getD i Si0)=false):fsV ps fo po ph fl fu g l=(0,0,2):=by have e:=deS_f ps fo po ph fl fu g h;rw [fsV,Yg8 hi a (by rw [e];decide),e]
end
end Go.Sky
namespace Go.Sky
open Go.Proofs
variable{v w:Value}
def pSi:Enc Tryz.prog 52 5 Gv:=Enc.agg O3 Tryz.sizeOf52 Tryz.isAgg52 (λx=>⟨[.int .i64 x.1.1,.int .i64 x.1.2,.int .i64 x.2.1,.int .i64 x.2.2.1,.int .i64 x.2.2.2],rfl,rfl,O11⟩)
@[reducible,instance] def encSiI:EncT Tryz.prog 52 5 Gv:=⟨pSi⟩
theorem inV3(d:Nat)(w:World)(a b c x y z:Int):(Op.equalIn (d+2) 23 (.agg #[.int .i64 a,.int .i64 b,.int .i64 c]) (.agg #[.int .i64 x,.int .i64 y,.int .i64 z])).run Tryz.prog w= .ok (decide (a=x/\b=y/\c=z)) w:=by
 have f:Tryz.prog.stoodInHeld 23=false:=O6;have e:Tryz.prog.underlying 23=some (.struct (Tryz.prog.fieldsOf 23)):=by unfold Program.fieldsOf;rw [Tryz.underlying23]
 rw [run_equalIn_agg w (d+1) 23 _ _ e f];unfold Program.fieldsOf;rw [Tryz.underlying23];simp [Op.eqFields,part,Tryz.isAgg3,run_equalIn_int _ _ _ _ _ _ _ Tryz.underlying3];by_cases g:a=x<;>by_cases h:b=y<;>by_cases i:c=z<;>simp_all
theorem inBd(d:Nat)(w:World)(a b x y:Int):(Op.equalIn (d+2) 50 (.agg #[.int .i64 a,.int .i64 b]) (.agg #[.int .i64 x,.int .i64 y])).run Tryz.prog w= .ok (decide (a=x/\b=y)) w:=by
 have e:Tryz.prog.stoodInHeld 50=false:=O6;have c:Tryz.prog.underlying 50=some (.struct (Tryz.prog.fieldsOf 50)):=by unfold Program.fieldsOf;rw [Tryz.underlying50]
 rw [run_equalIn_agg w (d+1) 50 _ _ c e];unfold Program.fieldsOf;rw [Tryz.underlying50];simp [Op.eqFields,part,Tryz.isAgg3,run_equalIn_int _ _ _ _ _ _ _ Tryz.underlying3];by_cases f:a=x<;>by_cases g:b=y<;>simp_all
def eg52:Tryz.prog.eqGuardType Tryz.prog.depth 52=false:=O6
theorem neSi(w:World){s:Mg}:(binOp .neq 52 (Gv s) (Gv s)).run Tryz.prog w= .ok (.bool false) w:=by
 have b:Tryz.prog.stoodInHeld 52=false:=O6;have a:Tryz.prog.underlying 52=some (.struct (Tryz.prog.fieldsOf 52)):=by unfold Program.fieldsOf;rw [Tryz.underlying52]
 rw [run_neq_struct,run_equalIn_agg w 9999 52 _ _ a b];unfold Program.fieldsOf;rw [Tryz.underlying52];simp [Op.eqFields,part,Tryz.isAgg50,Tryz.isAgg23,Tryz.sizeOf50,Tryz.sizeOf23,inBd,inV3]
theorem Zmf(ps:List Ze)(fo a:SL)(po:List Yc)(ph:List Nn)(fl fu:Int)(g:GdT)(s:Mg)(c:∀g∈ps,Gin g)(d:Xc ps=true)(b:ps.length<=5)(e:Ga po ph fl fu=true)(f:Gp g=true) :
  Cal Tryz.prog 20 #[v,.agg #[Yx fo,Yx a,.int .i64 fl,.int .i64 fu],Ci g,Gv s] [Xp 6 Pw qG v ps,Yn 3 Yk (Yx fo) po,Xp 1 (Pa (α:=List Yc)) Au (Yx a) ph] false (G:=Unit) (λ_=>True) (λ_=>dcS ps fo po ph fl fu g s) (λ_=>[]):=by
 cases hs:Zbe s with
 | true=>
  rw [dcS_t _ _ _ _ _ _ _ hs];simp only [Zbe,aQ]at hs;exact Zhs v ps fo a po ph fl fu g s c d b e f hs.1 hs.2
 | false=>
  rw [dcS_f _ _ _ _ _ _ _ hs];exact Zee v ps fo a po ph fl fu g s c (by rw [hs,cN,cN,cN])
open Go.Proofs.Tryz
set_option synthInstance.maxHeartbeats 0
set_option synthInstance.maxSize 100000
set_option maxRecDepth 20000
set_option linter.unusedSimpArgs false
theorem Yju(ps:List Ze)(fo k:SL)(po:List Yc)(ph:List Nn)(fl fu:Int)(g:GdT)(c:List Mg)(z:∀g∈ps,Gin g)(r:Xc ps=true)(m:ps.length<=5)(s:Ga po ph fl fu=true)(t:Gp g=true):Xe prog 24 #[v,.agg #[Yx fo,Yx k,.int .i64 fl,.int .i64 fu],Ci g,w] [Xp 6 Pw qG v ps,Yn 3 Yk (Yx fo) po,Xp 1 (Pa (α:=List Yc)) Au (Yx k) ph,Yn 5 Gv w c] (.tuple #[.int .i64 (fsV ps fo po ph fl fu g c).1,.int .i64 (fsV ps fo po ph fl fu g c).2.1,.int .i64 (fsV ps fo po ph fl fu g c).2.2]):=by
 refine Zd func24 ntmps24 λH F D f=>?_;refine Mc (Gu (i:=4) J Zg) λu=>go 2 ?_;refine Zv (Zs 5) λbq _=>Zv (Zs 6) λo _=>go 5 ?_;refine Zzw<|go 9 ?_;refine Zzx<|go 1 ?_;refine jn (G:=Int×Int) [0,3,5,6] [0,1,2,3,4,5,6] (λq=>[(11,.int .i64 q.1),(12,.int .i64 q.2)]) (λq=>[]) (λq=>(fsV ps fo po ph fl fu g c)=(q.1,q.2,0)) ?_ ?_
 .refine go 8 ?_;refine lp (G:=Nat) [0,3,5,6,19,20] [0,1,2,3,4,5,6] (λi=>[(21,.int .i64 (i:Int)),(11,.int .i64 (c.length:Int)),(12,.int .i64 0)]) (λi=>[]) (λi=>(i<=c.length)/\(OkU (dvS ps fo po ph fl fu g) (deS ps fo po ph fl fu g) c i)) (λi=>c.length-i) 0 ⟨O1,okU_0⟩ K3 aA ?_;rintro i ⟨hi,l⟩;refine go 6<|Zb J (λh=>?_) (λh=>?_)
  .have e:i<c.length:=O;refine go 7 ?_;refine dt (Yh 4 i J J J J Zg Zl3 sizeOf52 J e)<|dt (Qz 4 Si0 J J J Zg pSi e)<|Zv (Zu 7) λp _=>go 10 ?_;refine cl 7 [1,2,3] (Zmf ps fo k po ph fl fu g (c.getD i Si0) z r m s t) λ_ _=>go 15<|Zb J (λa=>?_) (λa=>?_)
   .refine go 15 ?_;exact Zje<|xe3 f () results24 (by have B:(fsV ps fo po ph fl fu g c)=_:=Yg8 e l a;rw [B]) aA Za
   .refine go 7<|Zb J (λd=>?_) (λd=>?_)
    .refine go 14 ?_;exact Hh (_,_) ((fsR_d e l a d)) K2 aA
    .refine go 8 ⟨O,?_⟩;exact Yj (i+1) ⟨O1,okU_s l a d⟩ O1 K3 aA
  .refine go 4 ?_;exact Hh (_,_) ((fsR_n O l)) K2 aA
 .rintro⟨x,y⟩ n;dsimp only at n;dsimp only;refine go 7<|Zi 47 J (λj=>?_) (λj=>?_)
  .refine go 1 ?_;refine Np 7 [1] (Qa z) λ_ _=>?_;refine Kj (dF (Zw J J) (aE (λb=>Value.bool (!b)) r)) J J<|go 2 ?_;refine Np 7 [2,3] (Li fo k po ph fl fu) λ_ _=>?_;refine Kj (dF (Zw J J) (aE (λb=>Value.bool (!b)) s)) J J<|go 3 ?_;refine Np 7 [] (Ck g) λ_ _=>?_;refine Kj (dF (Zw J J) (aE (λb=>Value.bool (!b)) t)) J J<|go 17 ?_;exact Zje<|xe3 f () results24 (by rw [n]) aA Za
  .refine go 29 ?_;exact Zje<|xe3 f () results24 (by rw [n]) aA Za
theorem Zq2(ps:List Ze)(fo e:SL)(po:List Yc)(ph:List Nn)(fl fu:Int)(g:GdT)(j:List Mg)(k:∀g∈ps,Gin g)(o:(Xc ps && (Ga po ph fl fu && Gp g))=false):Xe prog 24 #[v,.agg #[Yx fo,Yx e,.int .i64 fl,.int .i64 fu],Ci g,w] [Xp 6 Pw qG v ps,Yn 3 Yk (Yx fo) po,Xp 1 (Pa (α:=List Yc)) Au (Yx e) ph,Yn 5 Gv w j] (.tuple #[.int .i64 0,.int .i64 0,.int .i64 2]):=by
 refine Zd func24 ntmps24 λu t s d=>?_;refine Mc (Gu (i:=4) J Zg) λp=>go 2 ?_;refine Zv (Zs 5) λbq _=>Zv (Zs 6) λm _=>go 5 ?_;refine Zzw<|go 9 ?_;refine Zzx<|go 1 ?_;refine jn (G:=Int×Int) [0,3,5,6] [0,1,2,3,4,5,6] (λq=>[(11,.int .i64 q.1),(12,.int .i64 q.2)]) (λq=>[]) (λq=>j.length=0/\q.1=q.1) ?_ ?_
 .refine go 8 ?_;refine lp (G:=Nat) [0,3,5,6,19,20] [0,1,2,3,4,5,6] (λi=>[(21,.int .i64 (i:Int)),(11,.int .i64 (j.length:Int)),(12,.int .i64 0)]) (λi=>[]) (λi=>i=0) (λi=>0) 0 O1 K3 aA ?_;rintro i hi;refine go 6<|Zb J (λf=>?_) (λf=>?_)
  .have h:i<j.length:=O;refine go 7 ?_;refine dt (Yh 4 i J J J J Zg Zl3 sizeOf52 J h)<|dt (Qz 4 Si0 J J J Zg pSi h)<|Zv (Zu 7) λn _=>go 10 ?_;refine cl 7 [1,2,3] (Zee _ ps fo e po ph fl fu g (j.getD i Si0) k (Ynj o)) λ_ _=>go 11<|kt (aD O3)<|go 19 ?_;exact Zje<|xe3 d () results24 J aA Za
  .refine go 4 ?_;exact Hh (_,_) O1 K2 aA
 .rintro⟨x,y⟩ r;dsimp only at r;dsimp only;refine go 2 ?_;rcases Yay o with c|⟨c,a⟩;rotate_left;rcases Yay a with a|⟨a,l⟩;rotate_left 2
  .refine go 3<|kt (aD O)<|go 2 ?_;refine Np 7 [1] (Qa k) λ_ _=>?_;refine Kj (dT (Zw J J) (aE (λb=>Value.bool (!b)) c)) J J<|go 23 ?_;exact Zje<|xe3 d () results24 J aA Za
  .refine go 3<|kt (aD O)<|go 2 ?_;refine Np 7 [1] (Qa k) λ_ _=>?_;refine Kj (dF (Zw J J) (aE (λb=>Value.bool (!b)) c)) J J<|go 2 ?_;refine Np 7 [2,3] (Li fo e po ph fl fu) λ_ _=>?_;refine Kj (dT (Zw J J) (aE (λb=>Value.bool (!b)) a)) J J<|go 19 ?_;exact Zje<|xe3 d () results24 J aA Za
  .refine go 3<|kt (aD O)<|go 2 ?_;refine Np 7 [1] (Qa k) λ_ _=>?_;refine Kj (dF (Zw J J) (aE (λb=>Value.bool (!b)) c)) J J<|go 2 ?_;refine Np 7 [2,3] (Li fo e po ph fl fu) λ_ _=>?_;refine Kj (dF (Zw J J) (aE (λb=>Value.bool (!b)) a)) J J<|go 3 ?_;refine Np 7 [] (Ck g) λ_ _=>?_;refine Kj (dT (Zw J J) (aE (λb=>Value.bool (!b)) l)) J J<|go 14 ?_;exact Zje<|xe3 d () results24 J aA Za
theorem Zvy(v w:Value)(ps:List Ze)(fo c:SL)(po:List Yc)(ph:List Nn)(fl fu:Int)(g:GdT)(f:List Mg)(i:∀g∈ps,Gin g)(hs:sfB ps po ph=false\/5<f.length):Xe prog 6 #[v,.agg #[Yx fo,Yx c,.int .i64 fl,.int .i64 fu],Ci g,w] [Xp 6 Pw qG v ps,Yn 3 Yk (Yx fo) po,Xp 1 (Pa (α:=List Yc)) Au (Yx c) ph,Yn 5 Gv w f] (.bool true):=by
 refine Zd func6 ntmps6 λl k j a=>go 2 ?_;refine Zv (Zs 5) λbq _=>Zv (Zs 6) λe _=>go 5 ?_;rcases few_c hs with d|⟨d,h⟩
 .refine go 3 ?_;refine cl 6 [1,2,3] (Zdm ps fo c po ph fl fu) λ_ _=>?_;refine dt (dT (Zw J J) (aE (λb=>Value.bool (!b)) d))<|go 10 ?_;refine cl 6 [] Gg λ_ _=>go 5 ?_;exact Yp a () results6 J aA Za
 .refine go 3 ?_;refine cl 6 [1,2,3] (Zdm ps fo c po ph fl fu) λ_ _=>?_;refine dt (dF (Zw J J) (aE (λb=>Value.bool (!b)) d))<|go 3 ?_;refine ktg (aD O)<|go 6 ?_;refine cl 6 [] Gg λ_ _=>go 5 ?_;exact Yp a () results6 J aA Za
theorem Zvz(v w:Value)(ps:List Ze)(fo f:SL)(po:List Yc)(ph:List Nn)(fl fu:Int)(g:GdT)(h:List Mg)(k:∀g∈ps,Gin g)(hs:sfB ps po ph=true)(o:h.length<=5)(n:(Xc ps && (Ga po ph fl fu && Gp g))=false):Xe prog 6 #[v,.agg #[Yx fo,Yx f,.int .i64 fl,.int .i64 fu],Ci g,w] [Xp 6 Pw qG v ps,Yn 3 Yk (Yx fo) po,Xp 1 (Pa (α:=List Yc)) Au (Yx f) ph,Yn 5 Gv w h] (.bool true):=by
 refine Zd func6 ntmps6 λs r p e=>go 2 ?_;refine Zv (Zs 5) λbq _=>Zv (Zs 6) λm _=>go 8 ?_;refine cl 6 [1,2,3] (Zdm ps fo f po ph fl fu) λ_ _=>?_;refine dt (dF (Zw J J) (aE (λb=>Value.bool (!b)) hs))<|go 3 ?_;refine kfg (aF O)<|go 9<|Oj (Iq 7 5 52 Gv) ?_;refine tt (Gm 7 4 40 J J J J J J O3 J Zg Zl3 ti52 J pSi J J J O9 O3 J p.h) λv _=>go 9 ?_;refine cl 7 [1,2,3,7] (Zq2 ps fo f po ph fl fu g h k n) λ_ _=>go 16 ?_;refine lp (G:=Nat) [0,3,5,6,9,10,11,12] [0,1,2,3,4,5,6,7] (λj=>[(13,.int .i64 (j:Int))]) (λj=>[]) (λj=>j<=h.length) (λj=>h.length-j) 0 O1 K1 aA ?_;rintro j q;refine go 9<|Zb J (λi=>?_) (λi=>?_)
 .have d:j<h.length:=O;refine go 5<|Pd (λ_=>False) [(0,0),(1,0),(2,0),(3,0),(4,0),(5,0),(6,0),(7,0),(8,0)]<|go 2 ?_;refine Xy J J (Pg (Yh 7 j J J J J (Yi pSi) Zl3 sizeOf52 J d))<|Xy J J (Pg (Qz 7 Si0 J J J (Yi pSi) pSi d))<|go 2 ?_;refine Xy J J (Pg (Yh 4 j J J J J Zg Zl3 sizeOf52 J d))<|Xy J J (Pg (Qz 4 Si0 J J J Zg pSi d))<|Xy J J (Pg (Zz9 J J J eg52 (λw=>neSi w)))<|go 11 ⟨O,?_⟩;exact Yj (j+1) O1 O1 K1 aA
 .refine go 7 ?_;rcases Yay n with c|⟨c,a⟩;rotate_left;rcases Yay a with a|⟨a,l⟩;rotate_left 2
  .refine go 2 ?_;refine cl 7 [1] (Qa k) λ_ _=>?_;refine dt (dT (Zw J J) (aE (λb=>Value.bool (!b)) c))<|go 16 ?_;refine kt (aD J)<|go 2<|ktg (aD J)<|go 3<|ktg (aD J)<|go 2 ?_;refine Np 7 [] Gg λ_ _=>go 6 ?_;exact Yp e () results6 J aA Za
  .refine go 2 ?_;refine cl 7 [1] (Qa k) λ_ _=>?_;refine dt (dF (Zw J J) (aE (λb=>Value.bool (!b)) c))<|go 2 ?_;refine Np 7 [2,3] (Li fo f po ph fl fu) λ_ _=>?_;refine Kj (dT (Zw J J) (aE (λb=>Value.bool (!b)) a)) J J<|go 12 ?_;refine kt (aD J)<|go 2<|ktg (aD J)<|go 3<|ktg (aD J)<|go 2 ?_;refine Np 7 [] Gg λ_ _=>go 6 ?_;exact Yp e () results6 J aA Za
  .refine go 2 ?_;refine cl 7 [1] (Qa k) λ_ _=>?_;refine dt (dF (Zw J J) (aE (λb=>Value.bool (!b)) c))<|go 2 ?_;refine Np 7 [2,3] (Li fo f po ph fl fu) λ_ _=>?_;refine Kj (dF (Zw J J) (aE (λb=>Value.bool (!b)) a)) J J<|go 3 ?_;refine Np 7 [] (Znb g) λ_ _=>?_;refine Kj (dT (Zw J J) (aE (λb=>Value.bool (!b)) l)) J J<|go 7 ?_;refine kt (aD J)<|go 2<|ktg (aD J)<|go 3<|ktg (aD J)<|go 2 ?_;refine Np 7 [] Gg λ_ _=>go 6 ?_;exact Yp e () results6 J aA Za
theorem Yb8(v w:Value)(ps:List Ze)(fo n:SL)(po:List Yc)(ph:List Nn)(fl fu:Int)(g:GdT)(e:List Mg)(z:∀g∈ps,Gin g)(hs:sfB ps po ph=true)(D:e.length<=5)(u:Xc ps=true)(x:Ga po ph fl fu=true)(y:Gp g=true):Xe prog 6 #[v,.agg #[Yx fo,Yx n,.int .i64 fl,.int .i64 fu],Ci g,w] [Xp 6 Pw qG v ps,Yn 3 Yk (Yx fo) po,Xp 1 (Pa (α:=List Yc)) Au (Yx n) ph,Yn 5 Gv w e] (.bool true):=by
 refine Zd func6 ntmps6 λM I F m=>?_;have q:ps.length<=5:=by have:=(Yem hs).1;omega
 refine go 2<|Zv (Zs 5) λbq _=>Zv (Zs 6) λB _=>go 8 ?_;refine cl 6 [1,2,3] (Zdm ps fo n po ph fl fu) λ_ _=>?_;refine dt (dF (Zw J J) (aE (λb=>Value.bool (!b)) hs))<|go 3 ?_;refine kfg (aF O)<|go 9<|Oj (Iq 7 5 52 Gv) ?_;refine tt (Gm 7 4 40 J J J J J J O3 J Zg Zl3 ti52 J pSi J J J O9 O3 J F.h) λv _=>go 9 ?_;refine cl 7 [1,2,3,7] (Yju ps fo n po ph fl fu g e z u q x y) λ_ _=>go 16 ?_;refine lp (G:=Nat) [0,3,5,6,9,10,11,12] [0,1,2,3,4,5,6,7] (λj=>[(13,.int .i64 (j:Int))]) (λj=>[]) (λj=>j<=e.length) (λj=>e.length-j) 0 O1 K1 aA ?_;rintro j H;refine go 9<|Zb J (λo=>?_) (λo=>?_)
 .have l:j<e.length:=O;refine go 5<|Pd (λ_=>False) [(0,0),(1,0),(2,0),(3,0),(4,0),(5,0),(6,0),(7,0),(8,0)]<|go 2 ?_;refine Xy J J (Pg (Yh 7 j J J J J (Yi pSi) Zl3 sizeOf52 J l))<|Xy J J (Pg (Qz 7 Si0 J J J (Yi pSi) pSi l))<|go 2 ?_;refine Xy J J (Pg (Yh 4 j J J J J Zg Zl3 sizeOf52 J l))<|Xy J J (Pg (Qz 4 Si0 J J J Zg pSi l))<|Xy J J (Pg (Zz9 J J J eg52 (λw=>neSi w)))<|go 11 ⟨O,?_⟩;exact Yj (j+1) O1 O1 K1 aA
 .refine go 9 ?_;refine cl 7 [1] (Qa z) λ_ _=>?_;refine dt (dF (Zw J J) (aE (λb=>Value.bool (!b)) u))<|go 2 ?_;refine Np 7 [2,3] (Li fo n po ph fl fu) λ_ _=>?_;refine Kj (dF (Zw J J) (aE (λb=>Value.bool (!b)) x)) J J<|go 3 ?_;refine Np 7 [] (Znb g) λ_ _=>?_;refine Kj (dF (Zw J J) (aE (λb=>Value.bool (!b)) y)) J J<|go 13 ?_;refine lp (G:=Nat) [0,3,5,6,10,11,12] [0,1,2,3,4,5,6,7] (λi=>[(14,.int .i64 (i:Int))]) (λi=>[]) (λi=>(i<=e.length)/\(OkU (dvS ps fo po ph fl fu g) (deS ps fo po ph fl fu g) e i)) (λi=>e.length-i) 0 ⟨O1,okU_0⟩ K1 aA ?_;rintro i ⟨hi,r⟩;refine go 9<|Zb J (λp=>?_) (λp=>?_)
  .have d:i<e.length:=O;refine go 9 ?_;refine dt (Yh 4 i J J J J Zg Zl3 sizeOf52 J d)<|dt (Qz 4 Si0 J J J Zg pSi d)<|cl 7 [] (Yb9 (e.getD i Si0)) λ_ _=>go 3 ?_;refine Ym J (λh=>?_) (λh=>?_)
   .have a:=fs_e d r (Xw h);refine go 3<|kt (aD (by rw [a]))<|go 2<|ktg (aD (by rw [a]))<|go 3<|ktg (aD (by rw [a]))<|go 2 ?_;refine Np 7 [] Gg λ_ _=>go 11 ?_;exact Yp m () results6 J aA Za
   .have t:=Qj h;have s:=Yeg t;have c:=ds_ok (ps:=ps) (fo:=fo) (po:=po) (ph:=ph) (fl:=fl) (fu:=fu) (g:=g) t;refine go 3<|Pd (λ_=>False) [(0,0),(1,0),(2,0),(3,0),(4,0),(5,0),(6,0),(7,1),(8,0),(9,0),(10,0),(11,0),(12,3)]<|go 5 ?_;refine Xy J J (Pg (Yh 4 i J J J J Zg Zl3 sizeOf52 J d))<|Xy J J (Pg (Qz 4 Si0 J J J Zg pSi d))<|Qm (Zy 7 [1,2,3] (Zv1 ps fo n po ph fl fu g (e.getD i Si0) z u q x y s.1 s.2)) λ_ _=>go 14 ?_;refine Zb J (λf=>?_) (λf=>?_)
    .have a:(fsV ps fo po ph fl fu g e)=_:=Yg8 d r (by rw [c.2];exact f);rw [c.2]at a;refine go 3<|kt (aD (by rw [a]))<|go 2<|ktg (aD (by rw [a]))<|go 4<|ktg (aD (by rw [a]))<|go 2 ?_;refine Np 7 [] Gg λ_ _=>go 11 ?_;exact Yp m () results6 J aA Za
    .refine go 8<|Zb J (λk=>?_) (λk=>?_)
     .have a:(fsV ps fo po ph fl fu g e)=_:=fsR_d d r (by rw [c.2];exact f) (by rw [c.1];exact k);rw [c.1]at a;refine go 4<|kt (aD (by rw [a]))<|go 3<|ktg (aD (by rw [a]))<|go 3<|ktg (aD (by rw [a]))<|go 2 ?_;refine Np 7 [] Gg λ_ _=>go 10 ?_;exact Yp m () results6 J aA Za
     .refine go 8 ⟨O,?_⟩;exact Yj (i+1) ⟨O1,(okU_s r (by rw [c.2];exact f) (by rw [c.1];exact k))⟩ O1 K1 aA
  .have a:(fsV ps fo po ph fl fu g e)=_:=fsR_n O r;refine go 10<|kt (aD (by rw [a]))<|go 2<|ktg (aD (by rw [a]))<|go 3<|ktg (aD (by rw [a]))<|go 2 ?_;refine Np 7 [] Gg λ_ _=>go 5 ?_;exact Yp m () results6 J aA Za
theorem law_af(v:Value)(ps:List Ze)(fo e:SL)(po:List Yc)(ph:List Nn)(fl fu a b c:Int)(w:Value)(d:List Mg)(j:∀g∈ps,Gin g) :
  Cal prog 6 #[v,.agg #[Yx fo,Yx e,.int .i64 fl,.int .i64 fu],.agg #[.int .i64 a,.int .i64 b,.int .i64 c],w] [Xp 6 Pw qG v ps,Yn 3 Yk (Yx fo) po,Xp 1 (Pa (α:=List Yc)) Au (Yx e) ph,Yn 5 Gv w d] false (G:=Unit) (λ_=>True) (λ_=> .bool true) (λ_=>[]):=by
 by_cases hs:sfB ps po ph=false\/5<d.length
 .exact Zvy v w ps fo e po ph fl fu (a,b,c) d j hs
 .have i:sfB ps po ph=true:=by cases h:sfB ps po ph<;>simp_all
  have f:d.length<=5:=O;cases hf:(Xc ps && (Ga po ph fl fu && Gp (a,b,c)))with
  | false=>exact Zvz v w ps fo e po ph fl fu (a,b,c) d j i f hf
  | true=>
   simp only [aQ]at hf;exact Yb8 v w ps fo e po ph fl fu (a,b,c) d j i f hf.1 hf.2.1 hf.2.2
end Go.Sky
namespace Go.Proofs.YthennaflbbajkaaGreat
open Go.ChangeShapes Go.WideShapes Go.ChangeAt Go.RowKit Go.Joins Go.Deep Go.Sky
def own:ownKnob Tryz.prog.godebug=none:=O6
def Zix:laidOutB Tryz.prog=true:=O6
set_option maxRecDepth 100000 in
def lifted(os:Os)(f:os.Started)(H:Type)(enc:TypeId×Value->H) :
  ReturnsInHanded {} Tryz.checked os 6 .any (Rows.abortFirstSpec.pre6 enc Tryz.prog Tryz.f6 Rows.abortFirstRow.domain false) (Rows.abortFirstSpec.post enc Tryz.prog Tryz.f6 false true false false):=by
 refine returnsInHanded_of_change (C:=Tryz.checked) own f O6 Tryz.func6
  (ChangeSpec.witness6 (enc:=enc) (C:=Tryz.checked) false ⟨#[],#[.slice none 0 0,.agg #[.slice none 0 0,.slice none 0 0,.int .i64 0,.int .i64 0],.agg #[.int .i64 0,.int .i64 0,.int .i64 0],.slice none 0 0],[]⟩ 8 O6 O6 O6 O6) ?_
 intro W base b ds gs r d hW a4 _;have a:∀(j:Nat) t v,Tryz.f6.params[j]? = some t->b[j]? = some v->Value.okWide Tryz.prog W .any base t v:=d;have I:=hW;obtain⟨p,q,l,hV,rfl,a9,b0⟩:=hW;have hA:DataW.TrodAll enc Tryz.prog W 0 (λ_=>true) true Tryz.f6.params.toList b.toList ds p:=l;rw [Tryz.params6]at hA a;obtain⟨v0,b1,d0,a5,p0,q0,M,rfl,rfl,B,r0⟩:=trodAll_cons hA;obtain⟨v1,b2,d1,a6,p1,q1,rfl,rfl,rfl,D,r1⟩:=trodAll_cons r0;obtain⟨v2,b3,d2,a7,p2,q2,rfl,rfl,rfl,F,r2⟩:=trodAll_cons r1;obtain⟨v3,b4,d3,a8,p3,q3,rfl,rfl,rfl,G,r3⟩:=trodAll_cons r2;obtain⟨rfl,rfl,rfl⟩:=trodAll_nil r3;obtain rfl:b=#[v0,v1,v2,v3]:=by cases b;simp_all
 obtain⟨rfl,rfl⟩:=trodVars_none hV;have R:∀x∈p0,x.block<W.heap.size:=by obtain⟨m,i⟩:=B;exact DataW.trod_lt m _ _ _ i
 obtain⟨l0,N,Q⟩:=Ybt Tryz.underlying31 Tryz.underlying101 rfl rfl rfl rfl rfl rfl rfl rfl rfl rfl rfl rfl Tryz.underlying3 Tryz.underlying99 Tryz.underlying3 O6 O6 O6 O6 (a 0 31 v0 rfl rfl) B;have S:∀x∈p1,x.block<W.heap.size:=by obtain⟨m,i⟩:=D;exact DataW.trod_lt m _ _ _ i
 obtain⟨w,s,Z,Y,u,z,rfl,o,n⟩:=Zvr Tryz.underlying40 O6 rfl rfl rfl rfl rfl rfl rfl rfl Tryz.underlying38 Tryz.underlying37 O6 O6 Tryz.underlying23 O6 rfl rfl rfl rfl rfl rfl Tryz.underlying3 O6 (a 1 (40) v1 rfl rfl) D;have V:∀x∈p2,x.block<W.heap.size:=by obtain⟨m,i⟩:=F;exact DataW.trod_lt m _ _ _ i
 obtain⟨a0,a1,a2,rfl,-,-,-⟩:=Zvq Tryz.underlying42 O6 rfl rfl rfl rfl rfl rfl Tryz.underlying3 O6 (a 2 (42) v2 rfl rfl) F;have lt3:∀x∈p3,x.block<W.heap.size:=by obtain⟨m,i⟩:=G;exact DataW.trod_lt m _ _ _ i
 obtain⟨l3,P⟩:=Ybu (k:=5) (ec:=Gv) Tryz.underlying59 O6 O3 (λ_=>rfl) (λcs a3 y hy=>Zrs Tryz.underlying52 O6 rfl rfl rfl rfl O6 O6 Tryz.underlying50 rfl rfl rfl rfl Tryz.underlying23 rfl rfl rfl rfl rfl rfl Tryz.underlying3 O6 hy) (a 3 (59) v3 rfl rfl) G;clear l d;refine(law_af v0 l0 w s Z Y u z a0 a1 a2 v3 l3 Q W (λp g=>by cases g with|head=>exact N|tail _ g=>cases g with|head=>exact o|tail _ g=>cases g with|head=>exact n|tail _ g=>cases g with|head=>exact P|tail _ g=>cases g)).mono λe W' ⟨_,he,_,c,_⟩=>?_;subst he;exact⟨_,rfl,_,_,_,[],_,[],I,trodAll_mk1 (shut_bool Tryz.underlying4 _),(trodAll_cons_mk (Below.trod Zix O6 (cH O6) B c R) (trodAll_cons_mk (Below.trod Zix O6 (cH O6) D c S) (trodAll_cons_mk (Below.trod Zix O6 (cH O6) F c V) (trodAll_cons_mk (Below.trod Zix O6 (cH O6) G c lt3) trodAll_mk0)))),rfl,c.frame _,λh=>by cases h⟩
theorem x_holds : Rows.AbortFirstSaid :=
 OpenClaim.holds_of_wide 6 Tryz.f6 rfl rfl rfl rfl rfl rfl rfl ⟨rfl,rfl,rfl,rfl,rfl⟩ rfl rfl rfl rfl rfl O6 Tryz.func6 closed
  (cH O6) (by unfold Func.isWrapper;first|(rw [aO O8];kernel_rfl)|(rw [aJ O8];exact⟨rfl,rfl⟩))
  (λos started H enc _=>lifted os started H enc)
#print axioms x_holds
end Go.Proofs.YthennaflbbajkaaGreat

