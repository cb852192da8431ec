/- Rules, arithmetic and contracts: part 21. No conditions but those that each theorem names. -/
import Derived.Test.YthennaflbbajkaaGreatAh19
import Derived.Laws.Pointers
set_option linter.all false
set_option maxHeartbeats 4000000
namespace Go.Sky
open Go.Proofs.Tryz
open Go.Proofs
set_option synthInstance.maxHeartbeats 0
set_option synthInstance.maxSize 100000
set_option maxRecDepth 20000
set_option linter.unusedSimpArgs false
variable{v:Value}{ax ay az bx by_ bz:Int}
theorem Zma(fo j:SL)(e:List Zz)(d:List Nh)(fl f:Int)(g:GdT)(q:Zz)(h:Hj e d fl f=true)(F:Eg g=true)(y:Li q=true):Xa prog 52 #[Gn g,.agg #[Yr fo,Yr j,.int .i64 fl,.int .i64 f],Ya q] [Yn 3 Ya (Yr fo) e,Xl 1 (Qu (α:=List Zz)) Cy (Yr j) d] (.bool (ouB fo e d fl f g.2.1 q)):=by
 refine Zd func52 ntmps52 λR Q P a=>?_;obtain⟨G,i,H⟩:=Zzl F;obtain⟨I,M,N⟩:=Ak y;obtain⟨t,u,w,x⟩:=(Du h).2.1;have c:=Yfc h y;obtain⟨z,B,m⟩:=Yit (fo:=fo) h c;have D:=ee_b i;have b:=ee_r i;refine go 2<|Zu (Zo 3) λbq _=>Zu (Zo 4) λo _=>Zu (Zo 5) λp _=>?_;refine go 16 ⟨O,?_⟩;refine Zg 24 J (λn=>?_) (λn=>?_)
 .refine go 20 ?_;exact Yq a () results52 (by first|exact vB (Zst ‹_›)|exact vB (Zss ‹_›)|exact vB (Yfw ‹_› ‹_› ‹_›)|exact vB (Yfv ‹_› ‹_› ‹_›)) aA Za
 .refine go 12 ⟨O,?_⟩;refine Zb J (λk=>?_) (λk=>?_)
  .refine go 7 ?_;exact Yq a () results52 (by first|exact vB (Zst ‹_›)|exact vB (Zss ‹_›)|exact vB (Yfw ‹_› ‹_› ‹_›)|exact vB (Yfv ‹_› ‹_› ‹_›)) aA Za
  .refine go 15 ?_;refine cl 5 [1,2] (Znq fo j e d fl f (qLo fl q) h c) λ_ _=>go 12<|Yo J (λl=>?_) (λl=>?_)
   .refine go 7 ?_;exact Yq a () results52 (by first|exact vB (Zst ‹_›)|exact vB (Zss ‹_›)|exact vB (Yfw ‹_› ‹_› ‹_›)|exact vB (Yfv ‹_› ‹_› ‹_›)) aA Za
   .refine go 6 ?_;refine cl 5 [1,2] (Ztv fo j e d fl f (qLo fl q) h c) λ_ _=>go 3<|Zu (Zv 6) λr _=>?_;refine go 13 ⟨O,?_⟩;refine cl 6 [] (Ic (g.2.1*g.2.1) 1 ⟨O,O⟩ ⟨O3,O3⟩ O3) λ_ _=>go 3<|Zu (Zv 7) λs _=>go 8 ?_;refine cl 7 [] (He (d2A fo e d (qLo fl q)).1 (d2A fo e d (qLo fl q)).2 (Gq (g.2.1*g.2.1) 1) (Iu (g.2.1*g.2.1) 1) (by rw [b.1];exact aB (Er ⟨O,O⟩) O3) (by rw [b.2];decide) m (by rw [b.2];decide)) λ_ _=>go 15 ?_;exact Yq a () results52 (by first|exact vB (Zst ‹_›)|exact vB (Zss ‹_›)|exact vB (Yfw ‹_› ‹_› ‹_›)|exact vB (Yfv ‹_› ‹_› ‹_›)) aA Za
theorem Zxm(fo f:SL)(e:List Zz)(d:List Nh)(fl c:Int)(g:GdT)(q:Zz)(k:Hj e d fl c=true)(l:Eg g=true)(m:Li q=true):Xa prog 15 #[.agg #[Yr fo,Yr f,.int .i64 fl,.int .i64 c],Gn g,Ya q] [Yn 3 Ya (Yr fo) e,Xl 1 (Qu (α:=List Zz)) Cy (Yr f) d] (.tuple #[.bool (ouB fo e d fl c g.2.1 q),.int .i64 0]):=by refine Zd func15 ntmps15 λp o n h=>go 2 ?_;refine Zu (Zo 3) λbq _=>Zu (Zo 4) λi _=>Zu (Zo 5) λj _=>go 8 ?_;refine cl 5 [1,2] (Lk fo f e d fl c) λ_ _=>?_;refine dt (dF (Zw J J) (aF (λb=>Value.bool (!b)) k))<|go 2 ?_;refine Ns 5 [] (Ck g) λ_ _=>?_;refine Kh (dF (Zw J J) (aF (λb=>Value.bool (!b)) l)) J J<|go 3 ?_;refine Ns 5 [] (Ap q.1 q.2.1 q.2.2) λ_ _=>?_;refine Kh (dF (Zw J J) (aF (λb=>Value.bool (!b)) m)) J J<|go 9 ?_;refine dt (Xc [(0,_)] J K2 (λa w hs=>Zxe))<|go 2 ?_;refine cl 5 [1,2] (Zma fo f e d fl c g q k l m) λ_ _=>go 5 ?_;exact Oe h () results15 J aA Za
theorem Zhl(g:GdT):Xa prog 17 #[Gn g] [] (.bool (Eg g)):=by
 refine Zd func17 ntmps17 λj i h a=>go 2 ?_;refine Zu (Zo 1) λbq _=>go 9<|Zg 6 J (λf=>?_) (λf=>?_)
 .refine go 5<|Zg 11 J (λb=>?_) (λb=>?_)
  .refine go 5<|Zg 16 J (λc=>?_) (λc=>?_)
   .refine go 5<|Zg 21 J (λd=>?_) (λd=>?_)
    .refine go 5<|Zg 26 J (λe=>?_) (λe=>?_)
     .refine go 8 ?_;exact Yq a () results17 (vB (by rw [Znk];first|exact aE O|exact aD O|exact bC.2 O)) aA Za
     .refine go 8 ?_;exact Yq a () results17 (vB (by rw [Znk];first|exact aE O|exact aD O|exact bC.2 O)) aA Za
    .refine go 13 ?_;exact Yq a () results17 (vB (by rw [Znk];first|exact aE O|exact aD O|exact bC.2 O)) aA Za
   .refine go 18 ?_;exact Yq a () results17 (vB (by rw [Znk];first|exact aE O|exact aD O|exact bC.2 O)) aA Za
  .refine go 23 ?_;exact Yq a () results17 (vB (by rw [Znk];first|exact aE O|exact aD O|exact bC.2 O)) aA Za
 .refine go 28 ?_;exact Yq a () results17 (vB (by rw [Znk];first|exact aE O|exact aD O|exact bC.2 O)) aA Za
theorem Zv6(a z lo hi:Int)(r:-1073741824<=z/\z<=1073741824)(o:-1073741824<=a/\a<=1073741824)(k:Zav lo hi=true):Xa prog 122 #[.int .i64 a,.int .i64 z,.agg #[.int .i64 lo,.int .i64 hi]] [] (.tuple #[.int .i64 (wnP a z lo hi).1,.int .i64 (wnP a z lo hi).2]):=by
 refine Zd func122 ntmps122 λt s p b=>?_;obtain⟨l,m,n⟩:=Zuw k;refine go 2<|Zu (Zo 1) λbq _=>go 5<|Pd (λ_=>False) [(0,0),(1,0),(2,0),(3,0),(4,0),(5,3)]<|go 8 ?_;refine jn (G:=Unit) [0,1,9] [0,1] (λ_=>[(8,.int .i64 (max lo a))]) (λ_=>[]) (λ_=>True) ?_ ?_
 .refine go 7<|Zb J (λd=>?_) (λd=>?_)
  .refine go 4 ?_;exact Ge () aA ⟨(aF (λq:Int=>some (Value.int .i64 q)) O),aA⟩ aA
  .refine go 1 ?_;exact Ge () aA ⟨(aF (λq:Int=>some (Value.int .i64 q)) O),aA⟩ aA
 .rintro _ -;refine jn (G:=Unit) [0,1,9] [0,1] (λ_=>[(8,.int .i64 (min (max lo a) z))]) (λ_=>[]) (λ_=>True) ?_ ?_
  .refine go 7<|Zb J (λe=>?_) (λe=>?_)
   .refine go 4 ?_;exact Ge () aA ⟨(aF (λq:Int=>some (Value.int .i64 q)) O),aA⟩ aA
   .refine go 1 ?_;exact Ge () aA ⟨(aF (λq:Int=>some (Value.int .i64 q)) O),aA⟩ aA
  .rintro _ -;refine jn (G:=Unit) [1,8] [0,1] (λ_=>[(9,.int .i64 (max hi a))]) (λ_=>[]) (λ_=>True) ?_ ?_
   .refine go 7<|Zb J (λf=>?_) (λf=>?_)
    .refine go 4 ?_;exact Ge () aA ⟨(aF (λq:Int=>some (Value.int .i64 q)) O),aA⟩ aA
    .refine go 1 ?_;exact Ge () aA ⟨(aF (λq:Int=>some (Value.int .i64 q)) O),aA⟩ aA
   .rintro _ -;refine jn (G:=Unit) [1,8] [0,1] (λ_=>[(9,.int .i64 (min (max hi a) z))]) (λ_=>[]) (λ_=>True) ?_ ?_
    .refine go 7<|Zb J (λg=>?_) (λg=>?_)
     .refine go 4 ?_;exact Ge () aA ⟨(aF (λq:Int=>some (Value.int .i64 q)) O),aA⟩ aA
     .refine go 1 ?_;exact Ge () aA ⟨(aF (λq:Int=>some (Value.int .i64 q)) O),aA⟩ aA
    .rintro _ -;refine go 7<|Zg 33 J (λj=>?_) (λj=>?_)
     .refine go 6<|Zb J (λh=>?_) (λh=>?_)
      .refine go 11 ⟨O,?_⟩;exact Oe b () results122 (by first|(rw [Zoc O];done)|(rw [Zoe O O];done)|(rw [Zod O O];done)) aA Za
      .refine go 10<|Zb J (λi=>?_) (λi=>?_)
       .refine go 11 ⟨O,?_⟩;exact Oe b () results122 (by first|(rw [Zoc O];done)|(rw [Zoe O O];done)|(rw [Zod O O];done)) aA Za
       .refine go 11 ?_;exact Oe b () results122 (by first|(rw [Zoc O];done)|(rw [Zoe O O];done)|(rw [Zod O O];done)) aA Za
     .refine go 17<|Zb J (λc=>?_) (λc=>?_)
      .refine go 11 ⟨O,?_⟩;exact Oe b () results122 (by first|(rw [Zoc O];done)|(rw [Zoe O O];done)|(rw [Zod O O];done)) aA Za
      .refine go 11 ?_;exact Oe b () results122 (by first|(rw [Zoc O];done)|(rw [Zoe O O];done)|(rw [Zod O O];done)) aA Za
theorem Ztg(fo m:SL)(e:List Zz)(d:List Nh)(fl f:Int)(g:GdT)(q:Zz)(i:Hj e d fl f=true)(F:Eg g=true)(y:Li q=true):Xa prog 19 #[.agg #[Yr fo,Yr m,.int .i64 fl,.int .i64 f],Gn g,Ya q] [Yn 3 Ya (Yr fo) e,Xl 1 (Qu (α:=List Zz)) Cy (Yr m) d] (.bool (ouB fo e d fl f g.2.1 q)):=by
 refine Zd func19 ntmps19 λR Q P a=>?_;obtain⟨G,j,H⟩:=Zzl F;obtain⟨I,M,N⟩:=Ak y;obtain⟨t,u,w,x⟩:=(Du i).2.1;have c:=Yfc i y;obtain⟨z,B,n⟩:=Yit (fo:=fo) i c;have D:=ee_b j;have b:=ee_r j;refine go 2<|Zu (Zo 3) λbq _=>Zu (Zo 4) λo _=>Zu (Zo 5) λp _=>?_;refine go 15 ⟨O,?_⟩;refine Zg 23 J (λk=>?_) (λk=>?_)
 .refine go 19 ?_;exact Yq a () results19 (by first|exact vB (Zst ‹_›)|exact vB (Zss ‹_›)|exact vB (Ymg ‹_› ‹_› ‹_›)|exact vB (Ymf ‹_› ‹_› ‹_›)) aA Za
 .refine go 11 ⟨O,?_⟩;refine Zb J (λh=>?_) (λh=>?_)
  .refine go 7 ?_;exact Yq a () results19 (by first|exact vB (Zst ‹_›)|exact vB (Zss ‹_›)|exact vB (Ymg ‹_› ‹_› ‹_›)|exact vB (Ymf ‹_› ‹_› ‹_›)) aA Za
  .refine go 14 ?_;refine cl 5 [1,2] (Znq fo m e d fl f (qLo fl q) i c) λ_ _=>go 11 ?_;refine cl 5 [1,2] (Ztv fo m e d fl f (qLo fl q) i c) λ_ _=>go 3<|Zu (Zv 6) λr _=>?_;refine go 11 ⟨O,?_⟩;refine cl 6 [] (Ic (g.2.1*g.2.1) 1 ⟨O,O⟩ ⟨O3,O3⟩ O3) λ_ _=>go 3<|Zu (Zv 7) λs _=>go 8 ?_;refine cl 7 [] (He (d2A fo e d (qLo fl q)).1 (d2A fo e d (qLo fl q)).2 (Gq (g.2.1*g.2.1) 1) (Iu (g.2.1*g.2.1) 1) (by rw [b.1];exact aB (Er ⟨O,O⟩) O3) (by rw [b.2];decide) n (by rw [b.2];decide)) λ_ _=>go 10<|kt (aD J)<|go 2<|ktg (aD J)<|go 6<|Xz 73 J (λl=>?_) (λl=>?_)
   .refine go 7 ?_;exact Yq a () results19 (by first|exact vB (Zst ‹_›)|exact vB (Zss ‹_›)|exact vB (Ymg ‹_› ‹_› ‹_›)|exact vB (Ymf ‹_› ‹_› ‹_›)) aA Za
   .refine go 7 ?_;exact Yq a () results19 (by first|exact vB (Zst ‹_›)|exact vB (Zss ‹_›)|exact vB (Ymg ‹_› ‹_› ‹_›)|exact vB (Ymf ‹_› ‹_› ‹_›)) aA Za
theorem Ynf:Cal prog 138 #[] [] true (G:=Nat×SL×SL) (λr=>True) (λr=> .map (some r.1)) (λr=>[mro r.1 [(0,.slice none 0 0),(1,Yr r.2.1),(2,Yr r.2.2)],Yn 1 Xi (Yr r.2.1) [1],Yn 1 Xi (Yr r.2.2) Zzn]):=by refine Zd func138 ntmps138 λk j a d=>go 7 ?_;refine tt (t_mmi (i:=1) J J J J a.h) (λh _=>?_);refine tt (Ydx 1 J J J J J J (by simp [mfi]) O3 underlying225 underlying114 J a.h aA) (λ_ _=>?_);refine tt (Pv [(0,_)] 2 (enc:=Xi) ([1]:List Int) J J K2 Lf ti3 J J J J J pZ.cells J J a.h) (λv _=>?_);refine tt (Ydx 1 J J J J J J (by simp [mfi]) O3 underlying225 underlying114 J a.h aA) (λ_ _=>?_);refine tt (Pv [(0,_),(1,_),(2,_),(3,_),(4,_)] 3 (enc:=Xi) ([0,0,10,-15,6]:List Int) J J K10 Lf ti3 J J J J J pZ.cells J J a.h) (λg _=>?_);refine tt (Ydx 1 J J J J J J (by simp [mfi]) O3 underlying225 underlying114 J a.h aA) λ_ _=>go 5 ?_;refine Xf (s_pubm 1 J J)<|Xf (Nq 2 J J pZ)<|Zob (Mn 2 J Zk) (λe b=>?_);subst b;refine Xf (Nq 3 J J pZ)<|Zob (Mn 3 J Zk) (λf c=>?_);subst c;exact Yq d (_,e,f) results138 J aA (Kc 1 (Kc 2 (Kc 3 Za)))
theorem Zlg(a b:Int)(c:List Int)(t:-4194304<=a/\a<=4194304)(u:-4194304<=b/\b<=4194304)(h:∀f∈c,-15<=f/\f<=15)(x:c.length<=5):Cal prog 139 #[.int .i64 a,.int .i64 b,v] [Yn 1 Xi v c] true (G:=SL) (λr=>True) (λr=>Yr r) (λr=>[Yn 1 Xi (Yr r) (Zaq a b c)]):=by
 refine Zd func139 ntmps139 λD z n j=>go 8 ?_;refine tt (Pv [(0,_)] 2 (enc:=Xi) ([a]:List Int) J J K2 Lf ti3 J J J J J pZ.cells J J n.h) λv _=>go 11 ?_;refine Zb J (λg=>?_) (λg=>?_)
 .refine go 8 ?_;refine lp (G:=Nat×Value) [0,1,15,16] [0,1] (λq=>[(17,.int .i64 (q.1:Int)),(7,q.2)]) (λq=>[(2,Nj 1 3 Xi q.2 (a::((c.take q.1).map λf=>f*(b-a))))]) (λq=>q.1<=c.length) (λq=>c.length-q.1) (0,_) O1 K2 K1 ?_;rintro⟨k,B⟩ o;dsimp only at o;dsimp only;refine go 6<|Zb J (λm=>?_) (λm=>?_)
  .refine go 6 ?_;refine dt (Yl 1 k J J J J Zk Lf Dy J)<|go 4 ⟨O,?_⟩;have w:=h _ (Zl (zs:=c) (i:=k) (d:=0) O);have y:=Zs0 (c.getD k 0) (b-a) ⟨O,O⟩ ⟨O,O⟩;refine go 7 ⟨O,O,?_⟩;refine tt (Pv [(0,_)] 3 (enc:=Xi) ([c.getD k 0*(b-a)]:List Int) J J K2 Lf ti3 J J J J J pZ.cells J J n.h) (λp _=>?_);refine tt (Fv 2 3 8 J J J J J J O3 J (Yk pZ) Lf ti3 J pZ J J J O10 O3 J n.h) (λs _=>?_);refine go 8 ⟨O,?_⟩;exact Ym (k+1,_) O1 O1 K2 ⟨by rw [trm_s O];rfl,aA⟩
  .refine go 12<|Xf (Nq 2 J J pZ) ?_;refine Zob (Mn 2 J Zk) (λl e=>?_);subst e;exact Yq j l results139 J aA (Kc 2 Za (aF (Yn 1 Xi (Yr l)) (trm_n g O).symm))
 .refine go 9<|Xf (Nq 2 J J pZ) ?_;refine Zob (Mn 2 J Zk) (λl e=>?_);subst e;exact Yq j l results139 J aA (Kc 2 Za (aF (Yn 1 Xi (Yr l)) (trm_e c (a:=a) (b:=b) O).symm))
theorem gl_leg{fr p k:Int}(o:k=0\/k=1\/k=2)(e:-4194304<=ax/\ax<=4194304)(f:-4194304<=ay/\ay<=4194304)(g:-4194304<=az/\az<=4194304)(h:-4194304<=bx/\bx<=4194304)(b:-4194304<=by_/\by_<=4194304)(j:-4194304<=bz/\bz<=4194304):Cal prog 93 #[.agg #[.int .i64 ax,.int .i64 ay,.int .i64 az],.agg #[.int .i64 bx,.int .i64 by_,.int .i64 bz],.int .i64 fr,.int .i64 p,.int .i64 k] [] true (G:=SL×SL×SL) (λr=>True) (λr=> .agg #[.int .i64 fr,.int .i64 p,.int .i64 1,Yr r.1,Yr r.2.1,Yr r.2.2]) (λr=>[Yn 1 Xi (Yr r.1) (Zaq ax bx (rwK k)),Yn 1 Xi (Yr r.2.1) (Zaq ay by_ (rwK k)),Yn 1 Xi (Yr r.2.2) (Zaq az bz (rwK k))]):=by refine Zd func93 ntmps93 λu t s l=>go 2 ?_;refine Zu (Zo 1) λbq _=>Zu (Zo 2) λm _=>Zu (Zv 3) λn _=>go 4 ?_;refine cl 4 [] Ynf λrw _=>go 1 ?_;refine dt (d_mlr (i:=4) J J J J underlying225 underlying114 (mf_row o))<|go 4 ?_;refine Zt (s_row o 5 6 60 J J J J)<|Pd (λ_=>False) [(0,0),(1,0),(2,0),(3,0),(4,0),(5,0),(6,0),(8,0),(9,0),(10,0),(11,0),(12,0),(14,0),(15,0),(16,0),(17,0),(18,0),(7,1),(13,1),(19,1),(20,0),(21,3)]<|go 17<|Ql (Zx 7 [60] (Zlg ax bx (rwK k) e h Zyc Zvo)) λq _=>Ql (Zx 8 [60] (Zlg ay by_ (rwK k) f b Zyc Zvo)) λc _=>Ql (Zx 9 [60] (Zlg az bz (rwK k) g j Zyc Zvo)) λd _=>?_;refine Qd J J (Pt (Xc [(0,_),(1,_),(2,_),(3,_),(4,_),(5,_)] J K12 (λa w hs=>Zuy ((Zj J) a w hs) ((Zj J) a w hs) ((Zj J) a w hs) ((Ow 7 J Zk) a w hs) ((Ow 8 J Zk) a w hs) ((Ow 9 J Zk) a w hs))))<|go 4 ?_;exact Yq l (q,c,d) results93 J aA (Kc 7 (Kc 8 (Kc 9 Za)))
theorem Yhd{fr g:Int}:Cal prog 92 #[.agg #[.int .i64 ax,.int .i64 ay,.int .i64 az],.agg #[.int .i64 bx,.int .i64 by_,.int .i64 bz],.int .i64 fr,.int .i64 g] [] true (G:=Unit) (λ_=>True) (λ_=> .bool (Ze0 ax ay az bx by_ bz fr g)) (λ_=>[]):=by
 refine Zd func92 ntmps92 λj i h a=>go 2 ?_;refine Zu (Zo 1) λbq _=>Zu (Zo 2) λf _=>go 6 ?_;refine cl 2 [] (Ap _ _ _) λ_ _=>go 1<|Xz 11 J (λe=>?_) (λe=>?_)
 .refine go 1 ?_;refine Ns 2 [] (Ap _ _ _) λ_ _=>go 2<|Xz 15 J (λb=>?_) (λb=>?_)
  .refine go 4<|Zg 19 J (λc=>?_) (λc=>?_)
   .refine go 5<|Zg 24 J (λd=>?_) (λd=>?_)
    .refine go 7 ?_;exact Yq a () results92 (by first|exact vB (Ztm ‹_›)|exact vB (Ztl ‹_›)|exact vB (Ztk O)|exact vB (Znl ‹_› ‹_› O O)) aA Za
    .refine go 7 ?_;exact Yq a () results92 (by first|exact vB (Ztm ‹_›)|exact vB (Ztl ‹_›)|exact vB (Ztk O)|exact vB (Znl ‹_› ‹_› O O)) aA Za
   .refine go 12 ?_;exact Yq a () results92 (by first|exact vB (Ztm ‹_›)|exact vB (Ztl ‹_›)|exact vB (Ztk O)|exact vB (Znl ‹_› ‹_› O O)) aA Za
  .refine go 16 ?_;exact Yq a () results92 (by first|exact vB (Ztm ‹_›)|exact vB (Ztl ‹_›)|exact vB (Ztk O)|exact vB (Znl ‹_› ‹_› O O)) aA Za
 .refine go 20 ?_;exact Yq a () results92 (by first|exact vB (Ztm ‹_›)|exact vB (Ztl ‹_›)|exact vB (Ztk O)|exact vB (Znl ‹_› ‹_› O O)) aA Za
theorem Yhe{fr d k:Int}(t:k=0\/k=1\/k=2)(j:Ze0 ax ay az bx by_ bz fr d=true):Cal prog 48 #[.agg #[.int .i64 ax,.int .i64 ay,.int .i64 az],.agg #[.int .i64 bx,.int .i64 by_,.int .i64 bz],.int .i64 fr,.int .i64 d,.int .i64 k] [] true (G:=Value×(SL×SL×SL)) (λr=>True) (λr=> .tuple #[r.1,.int .i64 0]) (λr=>[Xl 6 Pj qG r.1 [glG ax ay az bx by_ bz fr d k r.2]]):=by refine Zd func48 ntmps48 λx w u h=>?_;obtain⟨f,g,-,-,-⟩:=Yne j;obtain⟨l,m,n⟩:=Ak f;obtain⟨o,p,s⟩:=Ak g;refine go 2<|Zu (Zo 1) λbq _=>Zu (Zo 2) λi _=>go 11 ?_;refine cl 2 [] Yhd λ_ _=>?_;refine dt (dF (Zw J J) (aF (λb=>Value.bool (!b)) j))<|go 12 ?_;refine cl 3 [] (gl_leg t ⟨O,O⟩ ⟨O,O⟩ ⟨O,O⟩ ⟨O,O⟩ ⟨O,O⟩ ⟨O,O⟩) λ⟨e,a,c⟩ _=>?_;refine tt (Pv [(0,_)] 6 (enc:=Pj) [glG ax ay az bx by_ bz fr d k (e,a,c)] J J K2 Zfg ti101 J J Yhv J J pG.cells J J u.h) λv _=>go 5 ?_;exact Xf (Nq 6 J J pG)<|Xf (Ox qC 71)<|Xf (Qr (q:=qC) (z:=(glG ax ay az bx by_ bz fr d k (e,a,c)).2.1) 71 3 71 J J J J J)<|Xf (Qr (q:=qC) (z:=(glG ax ay az bx by_ bz fr d k (e,a,c)).2.2.1) 71 4 71 J J J J J)<|Xf (Qr (q:=qC) (z:=(glG ax ay az bx by_ bz fr d k (e,a,c)).2.2.2) 71 5 71 J J J J J)<|Xf (Ox qG 73)<|Xf (Qr (q:=qG) (z:=(glG ax ay az bx by_ bz fr d k (e,a,c))) 73 71 73 J J J J J)<|Xf (Cc 6 73 72 J J J J)<|Oe h (_,e,a,c) results48 J aA (Kc 72 Za)
theorem Yng(ax ay az bx by_ bz fr b:Int)(d:Ze0 ax ay az bx by_ bz fr b=true):Cal prog 94 #[.agg #[.int .i64 ax,.int .i64 ay,.int .i64 az],.agg #[.int .i64 bx,.int .i64 by_,.int .i64 bz],.int .i64 fr,.int .i64 b] [] true (G:=Value×(SL×SL×SL)) (λr=>True) (λr=> .tuple #[r.1,.int .i64 0]) (λr=>[Xl 6 Pj qG r.1 [glG ax ay az bx by_ bz fr b 1 r.2]]):=by refine Zd func94 ntmps94 λg f e a=>go 2 ?_;refine Zu (Zo 1) λbq _=>Zu (Zo 2) λc _=>go 10 ?_;refine cl 3 [] (Yhe (.inr (.inl J)) d) λ⟨v,q⟩ _=>go 7 ?_;exact Oe a (v,q) results94 J aA (Kc 3 Za)
theorem Ztn(ax ay az fr b:Int)(c:Ze0 ax ay az ax ay az fr b=true):Cal prog 116 #[.agg #[.int .i64 ax,.int .i64 ay,.int .i64 az],.int .i64 fr,.int .i64 b] [] true (G:=Value×(SL×SL×SL)) (λr=>True) (λr=> .tuple #[r.1,.int .i64 0]) (λr=>[Xl 6 Pj qG r.1 [glG ax ay az ax ay az fr b 0 r.2]]):=by refine Zd func116 ntmps116 λf e d a=>go 2 ?_;refine Zu (Zo 1) λbq _=>go 10 ?_;refine cl 2 [] (Yhe (.inl J) c) λ⟨v,q⟩ _=>go 7 ?_;exact Oe a (v,q) results116 J aA (Kc 2 Za)
theorem Yka(ps:List Ze)(g:GdT)(s:Gs)(e:∀g∈ps,Gin g)(i:Xp ps=true)(n:ps.length<=5)(l:Eg g=true)(t:Zav s.1.1 s.1.2=true)(m:Li s.2=true):Xa prog 62 #[Gn g,v,Zlr s] [Xl 6 Pj qG v ps] (.tuple #[.bool (Zat ps g s),.int .i64 (Fi ps s)]):=by
 refine Zd func62 ntmps62 λD B z h=>?_;have b:=offH s e i t;obtain⟨w,x,y⟩:=Zzl l;refine go 2<|Zu (Zo 2) λbq _=>Zu (Zo 3) λr _=>go 9 ?_;refine cl 3 [1] (Zn9 ps s.1.1 s.1.2 e i t) λ_ _=>go 14 ?_;refine cl 4 [1] (Yel ps (Ot ps s).1 (Ot ps s).2 e i b.r (λg l=>Ii (e g l) ((Eb e i).2.1 g l)) (Ymw e i)) λu k=>go 14<|Zb J (λa=>?_) (λa=>?_)
 .refine go 8 ?_;exact Oe h () results62 (by rw [(Zyx (g:=g) a).1,(Zyx (g:=g) a).2]) aA Za
 .have d:Zc2 (Ot ps s).1 (Ot ps s).2 ps=0:=cI.1 a;have f:=Zyv e i b d k;have o:=Zyw n f;refine go 8 ?_;refine cl 5 [] (Ztn s.2.1 s.2.2.1 s.2.2.2 (Ot ps s).1 (Ot ps s).2 (Yg3 m b)) λ⟨v,q⟩ _=>go 8 ?_;have p:=Yf6 (g:=g) k q;refine go 11 ⟨O,O,?_⟩;refine cl 5 [4,5] (Zr6 u.2 [glG s.2.1 s.2.2.1 s.2.2.2 s.2.1 s.2.2.1 s.2.2.2 (Ot ps s).1 (Ot ps s).2 0 q] (g.1+g.2.1+1) f.gin (Zzm m m b.b.1 b.r.2.1 b.b.2) f.pb (Zzk m b.b.1 b.r.2.1 b.b.2 _) o O7 (ds_in O O)) λ_ _=>go 14<|Zb J (λc=>?_) (λc=>?_)
  .refine go 8 ?_;exact Oe h () results62 (by have j:=off_e (g:=g) d (by rw [<-p.1];exact c);rw [j.1,j.2]) aA Za
  .refine go 10 ?_;exact Oe h () results62 (by have j:=off_v (g:=g) d (by rw [<-p.1];exact cI.1 c);rw [j.1,j.2,p.2]) aA Za
theorem ab_Off(ps:List Ze)(g:GdT)(s:Gs)(j:∀g∈ps,Gin g)(f:Xp ps=true)(c:ps.length<=5)(i:Eg g=true)(h:Zav s.1.1 s.1.2=true)(k:Li s.2=true):Xa prog 29 #[v,Gn g,Zlr s] [Xl 6 Pj qG v ps] (.tuple #[.bool (Zat ps g s),.int .i64 (Fi ps s)]):=by refine Zd func29 ntmps29 λn m l d=>go 2 ?_;refine Zu (Zo 2) λbq _=>Zu (Zo 3) λe _=>go 8 ?_;refine cl 3 [1] (Qi j) λ_ _=>?_;refine dt (dF (Zw J J) (aF (λb=>Value.bool (!b)) f))<|go 2 ?_;refine Ns 3 [] (Ck g) λ_ _=>?_;refine Kh (dF (Zw J J) (aF (λb=>Value.bool (!b)) i)) J J<|go 4 ?_;refine Ns 3 [] (Zh0 s.1.1 s.1.2) λ_ _=>?_;refine Kh (dF (Zw J J) (aF (λb=>Value.bool (!b)) h)) J J<|go 4 ?_;refine Ns 3 [] (Ap s.2.1 s.2.2.1 s.2.2.2) λ_ _=>?_;refine Kh (dF (Zw J J) (aF (λb=>Value.bool (!b)) k)) J J<|go 9 ?_;refine dt (Xc [(0,_)] J K2 (λa w hs=>Zxe))<|go 2 ?_;refine cl 3 [1] (Yka ps g s j f c i h k) λ_ _=>go 7 ?_;exact Oe d () results29 J aA Za
theorem Za3(ps:List Ze)(fo w:SL)(y:List Zz)(m:List Nh)(fl z:Int):Xa prog 13 #[v,.agg #[Yr fo,Yr w,.int .i64 fl,.int .i64 z]] [Xl 6 Pj qG v ps,Yn 3 Ya (Yr fo) y,Xl 1 (Qu (α:=List Zz)) Cy (Yr w) m] (.bool (sfB ps y m)):=by
 refine Zd func13 ntmps13 λH F D b=>?_;refine Mz (Ek (i:=1) J Yf) (λx=>?_);refine Mz (Ek (i:=3) J Yf) λr=>go 2 ?_;refine Zu (Zo 4) λbq _=>go 10 ?_;refine lp (G:=Nat) [0,3] [0,1,2,3,4] (λi=>[(5,.int .i64 (i:Int))]) (λi=>[]) (λi=>(i<=ps.length/\i<=5)/\(∀k,k<i->s7 (ps.getD k G0)=true)) (λi=>ps.length-i) 0 ⟨O1,λk a=>absurd a (bM k)⟩ K1 aA ?_;rintro i ⟨hi,a⟩;refine go 8<|Zg 10 J (λs=>?_) (λs=>?_)
 .refine go 5<|Zb J (λo=>?_) (λo=>?_)
  .refine go 5<|Zt (Gt (ps.getD i G0) ((ps.getD i G0).2.1) 1 51 J J (Zl O) O7)<|Zt (Gt (ps.getD i G0) ((ps.getD i G0).2.2.1) 1 52 J J (Zl O) O7)<|Zt (Gt (ps.getD i G0) ((ps.getD i G0).2.2.2) 1 53 J J (Zl O) O7)<|go 3 ?_;refine dt (Yl 1 i J J J J Yf Zfg Zb2 J)<|dt (Zgo 1 J J J Yf Zfh J Zrb J)<|dt (Zgn 1 G0 J J J Yf isAgg99 J)<|go 3 ?_;refine Zg 23 J (λt=>?_) (λt=>?_)
   .refine go 31 ?_;exact Yq b () results13 (by rw [sf_f ps i O O (s7_f O)]) aA Za
   .refine go 2 ?_;refine Kh (Yl 1 i J J J J Yf Zfg Zb2 J) J J<|Kh (Zgo 1 J J J Yf Zfh J Zrb J) J J<|Kh (Zgn 1 G0 J J J Yf isAgg99 J) J J<|go 4 ?_;refine Zg 32 J (λc=>?_) (λc=>?_)
    .refine go 22 ?_;exact Yq b () results13 (by rw [sf_f ps i O O (s7_f O)]) aA Za
    .refine go 2 ?_;refine Kh (Yl 1 i J J J J Yf Zfg Zb2 J) J J<|Kh (Zgo 1 J J J Yf Zfh J Zrb J) J J<|Kh (Zgn 1 G0 J J J Yf isAgg99 J) J J<|go 5 ?_;refine Zb J (λp=>?_) (λp=>?_)
     .refine go 11 ?_;exact Yq b () results13 (by rw [sf_f ps i O O (s7_f O)]) aA Za
     .refine go 8 ⟨O,?_⟩;exact Ym (i+1) ⟨O1,λk B=>by rcases aC.1 B with q|q;exact a k q;subst q;exact s7_t O O O⟩ O1 K1 aA
  .refine go 11<|Zg 44 J (λu=>?_) (λu=>?_)
   .refine go 6<|Zg 50 J (λd=>?_) (λd=>?_)
    .refine go 6<|Zg 56 J (λe=>?_) (λe=>?_)
     .refine go 5<|Zg 61 J (λf=>?_) (λf=>?_)
      .refine go 12 ?_;exact Yq b () results13 (by first|exact vB (Zd6 (n:=i) O a O)|exact vB (Zmh (n:=i) O a O O)|exact vB ((Zmg (n:=i) O a O O).trans (bC.2 O))) aA Za
      .refine Nf (Zbk 3 55 (m.getD 0 Ke) J J (Zl O) J)<|go 3 ⟨O,?_⟩;refine Kh (Ph 3 Ke J J J Yf pPg) J J<|go 8 ?_;exact Yq b () results13 (by first|exact vB (Zd6 (n:=i) O a O)|exact vB (Zmh (n:=i) O a O O)|exact vB ((Zmg (n:=i) O a O O).trans (bC.2 O))) aA Za
     .refine go 17 ?_;exact Yq b () results13 (by first|exact vB (Zd6 (n:=i) O a O)|exact vB (Zmh (n:=i) O a O O)|exact vB ((Zmg (n:=i) O a O O).trans (bC.2 O))) aA Za
    .refine go 23 ?_;exact Yq b () results13 (by first|exact vB (Zd6 (n:=i) O a O)|exact vB (Zmh (n:=i) O a O O)|exact vB ((Zmg (n:=i) O a O O).trans (bC.2 O))) aA Za
   .refine go 29 ?_;exact Yq b () results13 (by first|exact vB (Zd6 (n:=i) O a O)|exact vB (Zmh (n:=i) O a O O)|exact vB ((Zmg (n:=i) O a O O).trans (bC.2 O))) aA Za
 .refine go 17<|Zg 44 J (λg=>?_) (λg=>?_)
  .refine go 6<|Zg 50 J (λh=>?_) (λh=>?_)
   .refine go 6<|Zg 56 J (λj=>?_) (λj=>?_)
    .refine go 5<|Zg 61 J (λl=>?_) (λl=>?_)
     .refine go 12 ?_;exact Yq b () results13 (by first|exact vB (Zd6 (n:=i) O a O)|exact vB (Zmh (n:=i) O a O O)|exact vB ((Zmg (n:=i) O a O O).trans (bC.2 O))) aA Za
     .refine Nf (Zbk 3 55 (m.getD 0 Ke) J J (Zl O) J)<|go 3 ⟨O,?_⟩;refine Kh (Ph 3 Ke J J J Yf pPg) J J<|go 8 ?_;exact Yq b () results13 (by first|exact vB (Zd6 (n:=i) O a O)|exact vB (Zmh (n:=i) O a O O)|exact vB ((Zmg (n:=i) O a O O).trans (bC.2 O))) aA Za
    .refine go 17 ?_;exact Yq b () results13 (by first|exact vB (Zd6 (n:=i) O a O)|exact vB (Zmh (n:=i) O a O O)|exact vB ((Zmg (n:=i) O a O O).trans (bC.2 O))) aA Za
   .refine go 23 ?_;exact Yq b () results13 (by first|exact vB (Zd6 (n:=i) O a O)|exact vB (Zmh (n:=i) O a O O)|exact vB ((Zmg (n:=i) O a O O).trans (bC.2 O))) aA Za
  .refine go 29 ?_;exact Yq b () results13 (by first|exact vB (Zd6 (n:=i) O a O)|exact vB (Zmh (n:=i) O a O O)|exact vB ((Zmg (n:=i) O a O O).trans (bC.2 O))) aA Za
theorem Ym6(ps:List Ze)(g:GdT)(s:Gs)(d:∀g∈ps,Gin g)(e:Xp ps=true)(n:ps.length<=5)(l:Eg g=true)(t:Zav s.1.1 s.1.2=true)(m:Li s.2=true):Xa prog 66 #[v,Gn g,Zlr s] [Xl 6 Pj qG v ps] (.tuple #[.bool (Zat ps g s),.int .i64 (Fi ps s)]):=by
 refine Zd func66 ntmps66 λI H G i=>?_;have c:=offH s d e t;obtain⟨w,x,y⟩:=Zzl l;obtain⟨z,B,D,F⟩:=Yee d e;refine go 2<|Zu (Zo 2) λbq _=>Zu (Zo 3) λr _=>go 7 ?_;refine cl 3 [1] (Zor ps d e) λ_ _=>go 15 ?_;refine cl 3 [] (Zv6 (spF ps) (spL ps) s.1.1 s.1.2 ⟨O,O⟩ ⟨O,O⟩ t) λ_ _=>go 12 ?_;refine cl 4 [1] (Yel ps (Ot ps s).1 (Ot ps s).2 d e c.r (λg l=>Ii (d g l) ((Eb d e).2.1 g l)) (Ymw d e)) λu k=>go 14<|Zb J (λb=>?_) (λb=>?_)
 .refine go 8 ?_;exact Oe i () results66 (by rw [(Zyx (g:=g) b).1,(Zyx (g:=g) b).2]) aA Za
 .have f:Zc2 (Ot ps s).1 (Ot ps s).2 ps=0:=cI.1 b;have h:=Zyv d e c f k;have o:=Zyw n h;refine go 8 ?_;refine cl 5 [] (Ztn s.2.1 s.2.2.1 s.2.2.2 (Ot ps s).1 (Ot ps s).2 (Yg3 m c)) λ⟨v,q⟩ _=>go 8 ?_;have p:=Yf6 (g:=g) k q;refine go 9 ⟨O,O,?_⟩;refine cl 5 [4,5] (Zr6 u.2 [glG s.2.1 s.2.2.1 s.2.2.2 s.2.1 s.2.2.1 s.2.2.2 (Ot ps s).1 (Ot ps s).2 0 q] (g.1+g.2.1+1) h.gin (Zzm m m c.b.1 c.r.2.1 c.b.2) h.pb (Zzk m c.b.1 c.r.2.1 c.b.2 _) o O7 (ds_in O O)) λ_ _=>go 14<|Zb J (λa=>?_) (λa=>?_)
  .refine go 8 ?_;exact Oe i () results66 (by have j:=off_e (g:=g) f (by rw [<-p.1];exact a);rw [j.1,j.2]) aA Za
  .refine go 10 ?_;exact Oe i () results66 (by have j:=off_v (g:=g) f (by rw [<-p.1];exact cI.1 a);rw [j.1,j.2,p.2]) aA Za
theorem Zld(ps:List Ze)(fo j:SL)(i:List Zz)(h:List Nh)(fl f:Int)(g:GdT)(s:Gs)(x:∀g∈ps,Gin g)(q:Xp ps=true)(k:ps.length<=5)(w:Hj i h fl f=true)(o:Eg g=true)(n:Zav s.1.1 s.1.2=true)(p:Li s.2=true):Xa prog 23 #[v,.agg #[Yr fo,Yr j,.int .i64 fl,.int .i64 f],Gn g,Zlr s] [Xl 6 Pj qG v ps,Yn 3 Ya (Yr fo) i,Xl 1 (Qu (α:=List Zz)) Cy (Yr j) h] (dcR ps fo i h fl f g s):=by
 refine Zd func23 ntmps23 λB z y a=>?_;obtain⟨r,t,u⟩:=Zuw n;refine go 2<|Zu (Zo 4) λbq _=>Zu (Zo 5) λl _=>Zu (Zo 6) λm _=>go 11 ?_;refine cl 6 [2,3] (Ztg fo j i h fl f g s.2 w o p) λ_ _=>go 2<|Yo J (λb=>?_) (λb=>?_)
 .refine go 8 ?_;exact Oe a () results23 (by first|exact(Zei ‹_›).symm|exact(Zeh ‹_› ‹_›).symm|exact(Zeg ‹_› ‹_› ‹_›).symm|exact(Zef ‹_› ‹_› ‹_› ‹_›).symm|exact(Zee ‹_› ‹_› ‹_› ‹_›).symm) aA Za
 .refine go 7 ?_;refine cl 6 [1] (Ym6 ps g s x q k o n p) λ_ _=>go 14<|Zb J (λc=>?_) (λc=>?_)
  .refine go 9 ?_;exact Oe a () results23 (by first|exact(Zei ‹_›).symm|exact(Zeh ‹_› ‹_›).symm|exact(Zeg ‹_› ‹_› ‹_›).symm|exact(Zef ‹_› ‹_› ‹_› ‹_›).symm|exact(Zee ‹_› ‹_› ‹_› ‹_›).symm) aA Za
  .refine go 8<|Yo J (λd=>?_) (λd=>?_)
   .refine go 8 ?_;exact Oe a () results23 (by first|exact(Zei ‹_›).symm|exact(Zeh ‹_› ‹_›).symm|exact(Zeg ‹_› ‹_› ‹_›).symm|exact(Zef ‹_› ‹_› ‹_› ‹_›).symm|exact(Zee ‹_› ‹_› ‹_› ‹_›).symm) aA Za
   .refine go 17 ⟨O,?_⟩;refine Zb J (λe=>?_) (λe=>?_)
    .refine go 8 ?_;exact Oe a () results23 (by first|exact(Zei ‹_›).symm|exact(Zeh ‹_› ‹_›).symm|exact(Zeg ‹_› ‹_› ‹_›).symm|exact(Zef ‹_› ‹_› ‹_› ‹_›).symm|exact(Zee ‹_› ‹_› ‹_› ‹_›).symm) aA Za
    .refine go 9 ?_;exact Oe a () results23 (by first|exact(Zei ‹_›).symm|exact(Zeh ‹_› ‹_›).symm|exact(Zeg ‹_› ‹_› ‹_›).symm|exact(Zef ‹_› ‹_› ‹_› ‹_›).symm|exact(Zee ‹_› ‹_› ‹_› ‹_›).symm) aA Za
theorem Zh1(ps:List Ze)(fo l:SL)(k:List Zz)(j:List Nh)(fl d:Int)(g:GdT)(s:Gs)(y:∀g∈ps,Gin g)(u:Xp ps=true)(o:ps.length<=5)(x:Hj k j fl d=true)(n:Eg g=true)(m:Zav s.1.1 s.1.2=true)(p:Li s.2=true):Xa prog 20 #[v,.agg #[Yr fo,Yr l,.int .i64 fl,.int .i64 d],Gn g,Zlr s] [Xl 6 Pj qG v ps,Yn 3 Ya (Yr fo) k,Xl 1 (Qu (α:=List Zz)) Cy (Yr l) j] (dcR ps fo k j fl d g s):=by
 refine Zd func20 ntmps20 λH G F c=>?_;obtain⟨z,B,D⟩:=Zuw m;refine go 2<|Zu (Zo 4) λbq _=>Zu (Zo 5) λq _=>Zu (Zo 6) λr _=>go 8 ?_;refine cl 6 [1] (Qi y) λ_ _=>?_;refine dt (dF (Zw J J) (aF (λb=>Value.bool (!b)) u))<|go 2 ?_;refine Ns 6 [2,3] (Lk fo l k j fl d) λ_ _=>?_;refine Kh (dF (Zw J J) (aF (λb=>Value.bool (!b)) x)) J J<|go 3 ?_;refine Ns 6 [] (Ck g) λ_ _=>?_;refine Kh (dF (Zw J J) (aF (λb=>Value.bool (!b)) n)) J J<|go 4 ?_;refine Ns 6 [] (Zh0 s.1.1 s.1.2) λ_ _=>?_;refine Kh (dF (Zw J J) (aF (λb=>Value.bool (!b)) m)) J J<|go 4 ?_;refine Ns 6 [] (Ap s.2.1 s.2.2.1 s.2.2.2) λ_ _=>?_;refine Kh (dF (Zw J J) (aF (λb=>Value.bool (!b)) p)) J J<|go 9 ?_;refine dt (Xc [(0,_)] J K2 (λa w hs=>Zxe))<|Zu (Zv 7) λt _=>go 10 ?_;refine cl 7 [2,3] (Zma fo l k j fl d g s.2 x n p) λ_ _=>go 2<|Yo J (λe=>?_) (λe=>?_)
 .refine go 8 ?_;exact Oe c () results20 (by first|exact(Zei ‹_›).symm|exact(Zeh ‹_› ‹_›).symm|exact(Zeg ‹_› ‹_› ‹_›).symm|exact(Zef ‹_› ‹_› ‹_› ‹_›).symm|exact(Zee ‹_› ‹_› ‹_› ‹_›).symm) aA Za
 .refine go 7 ?_;refine cl 7 [1] (Yka ps g s y u o n m p) λ_ _=>go 16<|Zb J (λf=>?_) (λf=>?_)
  .refine go 10 ?_;exact Oe c () results20 (by first|exact(Zei ‹_›).symm|exact(Zeh ‹_› ‹_›).symm|exact(Zeg ‹_› ‹_› ‹_›).symm|exact(Zef ‹_› ‹_› ‹_› ‹_›).symm|exact(Zee ‹_› ‹_› ‹_› ‹_›).symm) aA Za
  .refine go 6<|Yo J (λh=>?_) (λh=>?_)
   .refine go 9 ?_;exact Oe c () results20 (by first|exact(Zei ‹_›).symm|exact(Zeh ‹_› ‹_›).symm|exact(Zeg ‹_› ‹_› ‹_›).symm|exact(Zef ‹_› ‹_› ‹_› ‹_›).symm|exact(Zee ‹_› ‹_› ‹_› ‹_›).symm) aA Za
   .refine go 16 ⟨O,?_⟩;refine Zb J (λi=>?_) (λi=>?_)
    .refine go 9 ?_;exact Oe c () results20 (by first|exact(Zei ‹_›).symm|exact(Zeh ‹_› ‹_›).symm|exact(Zeg ‹_› ‹_› ‹_›).symm|exact(Zef ‹_› ‹_› ‹_› ‹_›).symm|exact(Zee ‹_› ‹_› ‹_› ‹_›).symm) aA Za
    .refine go 10 ?_;exact Oe c () results20 (by first|exact(Zei ‹_›).symm|exact(Zeh ‹_› ‹_›).symm|exact(Zeg ‹_› ‹_› ‹_›).symm|exact(Zef ‹_› ‹_› ‹_› ‹_›).symm|exact(Zee ‹_› ‹_› ‹_› ‹_›).symm) aA Za
def pBd:Enc Tryz.prog 50 2 Yib:=Enc.agg O3 Tryz.sizeOf50 Tryz.isAgg50 (λx=>⟨[.int .i64 x.1,.int .i64 x.2],rfl,rfl,O12⟩)
@[reducible,instance] def encBdI:EncT Tryz.prog 50 2 Yib:=⟨pBd⟩
theorem l44_ex:Cal prog 49 #[] [] true (G:=Value×SL×(SL×SL×SL)) (λr=>True) (λr=> .tuple #[r.1,.agg #[Yr r.2.1,.slice none 0 0,.int .i64 0,.int .i64 200],.agg #[.int .i64 20,.int .i64 5,.int .i64 500]]) (λr=>[Xl 6 Pj qG r.1 [exG r.2.2],Yn 3 Ya (Yr r.2.1) Zlo]):=by refine Zd func49 ntmps49 λj i f b=>go 3 ?_;refine Zu (Zv 1) λbq _=>Zu (Zv 2) λd _=>go 4 ?_;refine dt (Xc [(2,_)] J K2 (λa w hs=>b23_2 ((Zj J) a w hs)))<|dt (Xc [(0,_),(2,_)] J K4 (λa w hs=>Zfa ((Zj J) a w hs) ((Zj J) a w hs)))<|cl 3 [] (Yng 0 0 100 1000 0 100 0 10000 O3) λ⟨v,q⟩ _=>go 9 ?_;refine dt (Xc [(0,_),(1,_)] J K4 (λa w hs=>Zhy ((Zj J) a w hs) ((Zj J) a w hs)))<|dt (Xc [(0,_),(1,_)] J K4 (λa w hs=>Zhy ((Zj J) a w hs) ((Zj J) a w hs)))<|dt (Xc [(0,_),(1,_)] J K4 (λa w hs=>Zhy ((Zj J) a w hs) ((Zj J) a w hs)))<|dt (Xc [(0,_),(1,_)] J K4 (λa w hs=>Zhy ((Zj J) a w hs) ((Zj J) a w hs)))<|tt (Pv [(0,_),(1,_),(2,_),(3,_)] 4 (enc:=Ya) Zlo J J K8 Fu ti23 J J J J J pPt.cells J J f.h) (λh _=>?_);refine dt (Xc [(0,_),(3,_)] J K4 (λa w hs=>b40_03 ((Ow 4 J (Yk pPt)) a w hs) ((Zj J) a w hs)))<|Zu (Zv 5) λe _=>go 4 ?_;refine Qz [5] [5]<|Zp 0 [(0,0),(1,0),(2,0),(3,0),(4,1),(5,3)]<|go 2 ?_;refine Qd J J (Fp (Xc [(0,_),(1,_),(2,_)] J K6 (λa w hs=>Yo4 ((Zj J) a w hs) ((Zj J) a w hs) ((Zj J) a w hs))) K1)<|go 4 ?_;refine Ye<|go 2<|Xf (Nq 4 J J pPt) ?_;refine Zob (Mn 4 J Zk) (λg c=>?_);subst c;exact xe3 b (_,g,q) results49 J aA (Kc 3 (Kc 4 Za))
theorem Lr:Xa prog 14 #[] [] (.bool true):=by
 refine Zd func14 ntmps14 λy x d j=>go 7 ?_;refine cl 1 [] l44_ex λ⟨v,c,q⟩ _=>?_;refine Nf (s_dnil 1 (Qu (α:=List Zz)) Cy 75)<|go 4<|Zu (Zv 3) λbq _=>Zu (Zv 4) λk _=>go 8 ?_;refine dt (Xc [(0,_),(1,_)] J K4 (λa w hs=>Zc9 ((Zj J) a w hs) ((Zj J) a w hs)))<|dt (Xc [(0,_),(1,_)] J K4 (λa w hs=>Zc9 ((Zj J) a w hs) ((Zj J) a w hs)))<|dt (Xc [(0,_),(1,_)] J K4 (λa w hs=>Zc9 ((Zj J) a w hs) ((Zj J) a w hs)))<|tt (Pv [(0,_),(1,_),(2,_)] 5 (enc:=Yib) xB J J K6 underlying117 ti50 J J Yhu J J pBd.cells J J d.h) λp _=>go 5 ?_;refine lp (G:=Nat) [1,2,3,29,30] [0,1,2,75,3,4,5] (λi=>[(31,.int .i64 (i:Int))]) (λi=>[]) (λi=>i<=3) (λi=>3-i) 0 O1 K1 aA ?_;rintro i hi;refine go 6<|Zb J (λe=>?_) (λe=>?_)
 .have b:i<3:=by have o:((xB.length:Nat):Int)=3:=rfl;omega
  refine go 7 ?_;refine dt (Yl 5 i J J J J (Yk pBd) underlying117 sizeOf50 J b)<|dt (Ph 5 (0,0) J J J (Yk pBd) pBd b)<|Zu (Zv 6) λl _=>go 8 ?_;refine cl 6 [1] (Zn9 [exG q] (xB.getD i (0,0)).1 (xB.getD i (0,0)).2 (Ym8 _) (Ym7 _) (kx_b b)) λ_ _=>go 12<|kf (aE (λh=>h J))<|go 2 ?_;refine gtt (Pv [(0,_),(1,_),(2,_)] 7 (enc:=Xi) ([100,300,9999]:List Int) J J K6 Lf ti3 J J J J J pZ.cells J J d.h) J J J J λr _=>go 1 ?_;refine Kh (Yl 7 i J J J J (Yk pZ) Lf Dy J b) J J<|go 1 ⟨b,?_⟩;refine kfg (aE (λh=>h (kx_w q b).1))<|go 3 ?_;refine gtt (Pv [(0,_),(1,_),(2,_)] 8 (enc:=Xi) ([200,301,10000]:List Int) J J K6 Lf ti3 J J J J J pZ.cells J J d.h) J J J J λs _=>go 1 ?_;refine Kh (Yl 8 i J J J J (Yk pZ) Lf Dy J b) J J<|go 1 ⟨b,?_⟩;refine kfg (aE (λh=>h (kx_w q b).2))<|go 11 ⟨O,?_⟩;exact Ym (i+1) O1 O1 K1 aA
 .refine go 8 ?_;refine dt (Xc [(0,_),(2,_)] J K4 (λa w hs=>Zfa ((Zj J) a w hs) ((Zj J) a w hs)))<|dt (Xc [(0,_),(2,_)] J K4 (λa w hs=>Zfa ((Zj J) a w hs) ((Zj J) a w hs)))<|dt (Xc [(0,_),(2,_)] J K4 (λa w hs=>Zfa ((Zj J) a w hs) ((Zj J) a w hs)))<|tt (Pv [(0,_),(1,_),(2,_)] 9 (enc:=Ya) xV J J K6 Fu ti23 J J J J J pPt.cells J J d.h) λt _=>go 5 ?_;refine lp (G:=Nat) [1,2,3,65,66] [0,1,2,75,3,4,5,9] (λi=>[(67,.int .i64 (i:Int))]) (λi=>[]) (λi=>i<=3) (λi=>3-i) 0 O1 K1 aA ?_;rintro i hi;refine go 6<|Zb J (λf=>?_) (λf=>?_)
  .have b:i<3:=by have o:((xV.length:Nat):Int)=3:=rfl;omega
   refine go 7 ?_;refine dt (Yl 9 i J J J J (Yk pPt) Fu Ag J b)<|dt (Ph 9 Ys J J J (Yk pPt) pPt b)<|Zu (Zv 10) λm _=>go 8 ?_;refine dt (Xc [(0,_),(1,_)] J K4 (λa w hs=>Zc9 ((Zj J) a w hs) ((Zj J) a w hs)))<|go 1 ?_;refine dt (Xc [(0,_),(1,_)] J K4 (λa w hs=>Zhx))<|cl 10 [1] (ab_Off [exG q] gd5 ((1000,1100),xV.getD i Ys) (Ym8 _) (Ym7 _) O7 Zzh (show Zav 1000 1100=true by decide) (kx_v b)) λ_ _=>go 10 ?_;refine kf (aE (λh=>h (kx_oe q b)))<|go 4<|kfg (by rw [kx_ov q b];exact mI _)<|go 11 ⟨O,?_⟩;exact Ym (i+1) O1 O1 K1 aA
  .refine go 8 ?_;refine dt (Xc [(0,_),(1,_),(2,_)] J K6 (λa w hs=>Ya0 ((Zj J) a w hs) ((Zj J) a w hs) ((Zj J) a w hs)))<|dt (Xc [(0,_),(1,_),(2,_)] J K6 (λa w hs=>Ya0 ((Zj J) a w hs) ((Zj J) a w hs) ((Zj J) a w hs)))<|dt (Xc [(0,_),(2,_)] J K4 (λa w hs=>Zfa ((Zj J) a w hs) ((Zj J) a w hs)))<|tt (Pv [(0,_),(1,_),(2,_)] 11 (enc:=Ya) xW J J K6 Fu ti23 J J J J J pPt.cells J J d.h) λu _=>go 5 ?_;refine lp (G:=Nat) [1,2,3,93,94] [0,1,2,75,3,4,5,9,11] (λi=>[(95,.int .i64 (i:Int))]) (λi=>[]) (λi=>i<=3) (λi=>3-i) 0 O1 K1 aA ?_;rintro i hi;refine go 6<|Zb J (λg=>?_) (λg=>?_)
   .have b:i<3:=by have o:((xW.length:Nat):Int)=3:=rfl;omega
    refine go 7 ?_;refine dt (Yl 11 i J J J J (Yk pPt) Fu Ag J b)<|dt (Ph 11 Ys J J J (Yk pPt) pPt b)<|Zu (Zv 12) λn _=>go 9 ?_;refine cl 12 [2,75] (Zxm c (none,0,0) Zlo [] 0 200 gd5 (xW.getD i Ys) kx_f Zzh (kx_u b)) λ_ _=>go 10<|kf (aE (λh=>h J))<|go 4<|kfg (by rw [kx_ou b];exact mI _)<|go 11 ⟨O,?_⟩;exact Ym (i+1) O1 O1 K1 aA
   .refine go 10 ?_;refine dt (Xc [(0,_),(1,_)] J K4 (λa w hs=>Zc9 ((Zj J) a w hs) ((Zj J) a w hs)))<|dt (Xc [(0,_),(2,_)] J K4 (λa w hs=>Zfa ((Zj J) a w hs) ((Zj J) a w hs)))<|dt (Xc [(0,_),(1,_)] J K4 (λa w hs=>Zhx))<|cl 12 [1,2,75] (Zh1 [exG q] c (none,0,0) Zlo [] 0 200 gd5 ((1000,1600),(100,0,100)) (Ym8 _) (Ym7 _) O7 kx_f Zzh O3 O3) λ_ _=>go 12 ?_;refine dt (Xc [(0,_),(1,_)] J K4 (λa w hs=>Zc9 ((Zj J) a w hs) ((Zj J) a w hs)))<|dt (Xc [(0,_),(2,_)] J K4 (λa w hs=>Zfa ((Zj J) a w hs) ((Zj J) a w hs)))<|dt (Xc [(0,_),(1,_)] J K4 (λa w hs=>Zhx))<|cl 12 [1,2,75] (Zh1 [exG q] c (none,0,0) Zlo [] 0 200 gd5 ((1000,1400),(100,0,100)) (Ym8 _) (Ym7 _) O7 kx_f Zzh O3 O3) λ_ _=>go 10 ?_;refine kt (aD (kx_d1 q c).2)<|go 2<|ktg (aD (kx_d2 q c).2)<|go 3<|ktg (aD (kx_d1 q c).1)<|go 3<|ktg (aD (kx_d2 q c).1)<|go 5 ?_;exact Yq j () results14 J aA Za
abbrev Si0:Gs:=((0,0),Ys)
def fsR(b a:Gs->Int):Nat->List Gs->Int×Int×Int
 | k,[]=>((k:Int),0,0)
 | k,s::t=>if a s≠0 then(0,0,a s)else if b s≠0 then((k:Int),b s,0)else fsR b a (k+1) t
def OkU(b a:Gs->Int)(l:List Gs)(i:Nat):Prop:=∀j,j<i->a (l.getD j Si0)=0/\b (l.getD j Si0)=0
section
variable {dv de:Gs->Int} {l:List Gs} {i:Nat}
end
section
variable (ps:List Ze) (fo:SL) (po:List Zz) (ph:List Nh) (fl fu:Int) (g:GdT)
def dvS(s:Gs):Int:=if sigB s=true then dcV (ouB fo po ph fl fu g.2.1 s.2) (Fi ps s) (Zat ps g s) (wiS g s)else 0
def deS(s:Gs):Int:=if sigB s=true then dcE (ouB fo po ph fl fu g.2.1 s.2) (Fi ps s)else 2
abbrev dcS (s:Gs):Value:= .tuple #[.int .i64 (dvS ps fo po ph fl fu g s),.int .i64 (deS ps fo po ph fl fu g s)]
abbrev fsV (l:List Gs):Int×Int×Int:=fsR (dvS ps fo po ph fl fu g) (deS ps fo po ph fl fu g) 0 l
end
section
variable {ps:List Ze} {fo:SL} {po:List Zz} {ph:List Nh} {fl fu:Int} {g:GdT} {s:Gs}
end
end Go.Sky
namespace Go.Sky
open Go.Proofs
variable{o:Oper}{x y:Operand}{t t':TypeId}
def pSi:Enc Tryz.prog 52 5 Zlr:=Enc.agg O3 Tryz.sizeOf52 Tryz.isAgg52 (λx=>⟨[.int .i64 x.1.1,.int .i64 x.1.2,.int .i64 x.2.1,.int .i64 x.2.2.1,.int .i64 x.2.2.2],rfl,rfl,O12⟩)
@[reducible,instance] def encSiI:EncT Tryz.prog 52 5 Zlr:=⟨pSi⟩
theorem inV3(d:Nat)(w:World)(a b c x y z:Int):(Op.equalIn (d+2) 23 (.agg #[.int .i64 a,.int .i64 b,.int .i64 c]) (.agg #[.int .i64 x,.int .i64 y,.int .i64 z])).run Tryz.prog w= .ok (decide (a=x/\b=y/\c=z)) w:=by
 have f:Tryz.prog.stoodInHeld 23=false:=O6;have e:Tryz.prog.underlying 23=some (.struct (Tryz.prog.fieldsOf 23)):=by unfold Program.fieldsOf;rw [Tryz.underlying23]
 rw [run_equalIn_agg w (d+1) 23 _ _ e f];unfold Program.fieldsOf;rw [Tryz.underlying23];simp [Op.eqFields,part,Tryz.isAgg3,run_equalIn_int _ _ _ _ _ _ _ Tryz.underlying3];by_cases g:a=x<;>by_cases h:b=y<;>by_cases i:c=z<;>simp_all
open Go.Proofs.Tryz
set_option synthInstance.maxHeartbeats 0
set_option synthInstance.maxSize 100000
set_option maxRecDepth 20000
set_option linter.unusedSimpArgs false
section
variable {P:Program} {N:Nat} {sc:Nat->Prop} {env:Qm} {H:Hp}
theorem Yio{e:TypeId}{p:Option Addr}(c:o.op= .binOp .eql t x y t')(f:ev env x=some (.pointer p))(g:ev env y=some (.pointer none))(b:P.underlying t=some (.pointer e)):Mu P N sc o env H (.bool p.isNone):=λa w hs=>by
 have d:P.pointee t=e:=by simp [Program.pointee,b]
 have h:=run_eql_pointer_nil (P:=P) (w:=w) t p (by rw [d];exact b);simp [execOp,c,hs.ev f,hs.ev g,eqGuard,h]
def d_pnt{e:TypeId}(a:o.op= .binOp .eql t x y t')(c:ev env x=some (.pointer none))(d:ev env y=some (.pointer none))(b:P.underlying t=some (.pointer e)):Mu P N sc o env H (.bool true):=Yio a c d b
def Zuc{e:TypeId}{a:Addr}(b:o.op= .binOp .eql t x y t')(d:ev env x=some (.pointer (some a)))(f:ev env y=some (.pointer none))(c:P.underlying t=some (.pointer e)):Mu P N sc o env H (.bool false):=Yio b d f c
end
end Go.Sky
namespace Go.Sky
abbrev CkT:=Int×Int×Bool×Int×Int
abbrev ExT:=Int×Int×Int×Int
abbrev Zcx (x:ExT):Value:= .agg #[.int .i64 x.1,.int .i64 x.2.1,.int .i64 x.2.2.1,.int .i64 x.2.2.2]
abbrev Znr (o:Option Nat):Value:= .pointer (o.map λb=>⟨b,0,none⟩)
def CkI(c:CkT):Prop:=(0<=c.1/\c.1<=100000)/\(c.2.2.1=true->(-1073741824<=c.2.1/\c.2.1<=1073741824)/\0<=c.2.2.2.1/\c.2.2.2.1<=c.2.2.2.2/\c.2.2.2.2<=1073741824)
def gwL(lo d l:Int):Int:=lo+max (l-1) 0*1000000/(1000000+d)
def gwH(hi d l:Int):Int:=hi+((l+1)*1000000+(1000000-d)-1)/(1000000-d)
def gwR(lo hi d l:Int):(Int×Int)×Int:=if gwH hi d l>1073741824 then((0,0),3)else((gwL lo d l,gwH hi d l),0)
def gw_t{lo hi d l:Int}(h:gwH hi d l>1073741824):gwR lo hi d l=((0,0),3):=aO h
def gw_f{lo hi d l:Int}(h:¬gwH hi d l>1073741824):gwR lo hi d l=((gwL lo d l,gwH hi d l),0):=aJ h
section
variable {lo hi d l:Int}
theorem Yg8(a:0<=d/\d<=100000)(b:0<=l):0<=max (l-1) 0*1000000/(1000000+d)/\max (l-1) 0*1000000/(1000000+d)<=max (l-1) 0:=by refine⟨jB O O,?_⟩;refine Int.ediv_le_of_le_mul O ?_;have h:0<=max (l-1) 0*d:=cM O a.1;rw [iY];omega
theorem gw_q2(a:0<=d/\d<=100000)(b:0<=l):l+1<=((l+1)*1000000+(1000000-d)-1)/(1000000-d)/\((l+1)*1000000+(1000000-d)-1)/(1000000-d)<=(l+1)*1000000+1000000:=by
 constructor
 .refine(Int.le_ediv_iff_mul_le O).2 ?_;have h:0<=(l+1)*d:=cM O a.1;rw [Int.mul_sub];omega
 .exact jJ (iT _ O) O
theorem gw_le(a:0<=d/\d<=100000)(b:0<=l)(h:lo<=hi):lo<=gwL lo d l/\gwL lo d l<=gwH hi d l:=by have c:=Yg8 a b;have e:=gw_q2 a b;unfold gwL gwH;omega
end
def Ac(c:CkT)(l:Int):(Int×Int)×Int:=if c.2.2.1=false then((0,0),9)else if ¬(c.2.1<=l/\l<=1073741824)then((0,0),3)else gwR c.2.2.2.1 c.2.2.2.2 c.1 (l-c.2.1)
def at_n{d r lo hi l:Int} : Ac (d,r,false,lo,hi) l=((0,0),9):=rfl
theorem at_r{d r lo hi l:Int}(h:¬(r<=l/\l<=1073741824)):Ac (d,r,true,lo,hi) l=((0,0),3):=by unfold Ac;rw [aJ O7,aO h]
theorem at_g{d r lo hi l:Int}(h:r<=l/\l<=1073741824):Ac (d,r,true,lo,hi) l=gwR lo hi d (l-r):=by unfold Ac;rw [aJ O7,aJ (λq=>q h)]
theorem Yj1{c:CkT}{l:Int}(g:CkI c)(h:(Ac c l).2=0):Zav (Ac c l).1.1 (Ac c l).1.2=true:=by
 obtain⟨d,r,s,lo,hi⟩:=c;cases s with
 | false=>rw [at_n]at h;cases h
 | true=>
  obtain⟨i,hs⟩:=g;obtain⟨j,a,f,k⟩:=hs rfl;by_cases e:r<=l/\l<=1073741824
  .rw [at_g e]at h ⊢;by_cases b:gwH hi d (l-r)>1073741824
   .rw [gw_t b]at h;cases h
   .rw [gw_f b];have:=gw_le (lo:=lo) (hi:=hi) (d:=d) (l:=l-r) i O f;rw [bds_i];exact aD ⟨by show -1073741824<=gwL lo d (l-r);have a:0<=lo:=a;omega,this.2,by show gwH hi d (l-r)<=1073741824;omega⟩
  .rw [at_r e]at h;cases h
theorem gw_e{lo hi d l:Int}:(gwR lo hi d l).2≠1:=by
 unfold gwR;split
 .exact(by decide:(3:Int)≠1)
 .exact(by decide:(0:Int)≠1)
theorem Yo7(c:CkT)(l:Int):(Ac c l).2≠1:=by
 unfold Ac;split
 .exact O3
 .split
  .exact O3
  .exact gw_e
theorem Zed (lo:Int)(hi:Int)(d:Int)(l:Int)(b:0<=d/\d<=100000)(c:0<=l)(h:(gwR lo hi d l).2=0):(gwR lo hi d l).1.2<=1073741824/\lo<=(gwR lo hi d l).1.1:=by
 have e:=Yg8 b c;by_cases a:gwH hi d l>1073741824
 .rw [gw_t a]at h;cases h
 .rw [gw_f a];exact⟨by show gwH hi d l<=_;omega,by show lo<=gwL lo d l;unfold gwL;omega⟩
theorem Yj3{a b c d:Bool}(h:(a && (b && (c && d)))=false):a=false\/(a=true/\b=false)\/(a=true/\b=true/\c=false)\/(a=true/\b=true/\c=true/\d=false):=by cases a<;>cases b<;>cases c<;>simp_all
theorem few_c3{b:Bool}{n:Nat}(h:b=false\/3<n):b=false\/(b=true/\3<n):=by cases b<;>simp_all
theorem Yfi{b i:Nat}(h:i<2):([none,some b]:List (Option Nat)).getD i none=none\/([none,some b]:List (Option Nat)).getD i none=some b:=by
 have:i=0\/i=1:=O;rcases this with rfl|rfl
 .exact .inl rfl
 .exact .inr rfl
theorem ck_nr{l r h:Int}(q:(!wiB l r h)=true):¬(r<=l/\l<=h):=λk=>by rw [Zri k.1,aD k.2]at q;cases q
theorem ck_yr{l r h:Int}(q:(!wiB l r h)=false):r<=l/\l<=h:=Zh3 (by simpa using q)
def akV(e:Int)(a:Int):Int:=if e≠0 then 0 else a
def akE(e:Int)(a:Int):Int:=if e=9 then 9 else if e≠0 then 2 else a
theorem Yc4 (b:Int)(a:Int){e:Int}(h:e=9):akV e b=0/\akE e a=9:=by subst h;exact⟨rfl,rfl⟩
theorem Ypa (b:Int)(a:Int){e:Int}(h:e≠0)(c:e≠9):akV e b=0/\akE e a=2:=⟨aO h,by unfold akE;rw [aJ c,aO h]⟩
theorem Yc5 (b:Int)(a:Int){e:Int}(h:e=0):akV e b=b/\akE e a=a:=by subst h;exact⟨rfl,rfl⟩
end Go.Sky
namespace Go.Sky
open Go.Proofs
def pEx:Enc Tryz.prog 82 4 Zcx:=Enc.agg O3 Tryz.sizeOf82 Tryz.isAgg82 (λx=>⟨[.int .i64 x.1,.int .i64 x.2.1,.int .i64 x.2.2.1,.int .i64 x.2.2.2],rfl,rfl,O12⟩)
@[reducible,instance] def encExI:EncT Tryz.prog 82 4 Zcx:=⟨pEx⟩
def pPr:Enc Tryz.prog 73 1 Znr:=Enc.flat Tryz.sizeOf73 Tryz.isAgg73 (λ_=>rfl)
@[reducible,instance] def encPrI:EncT Tryz.prog 73 1 Znr:=⟨pPr⟩
end Go.Sky

