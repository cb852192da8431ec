/- The law: part 23. No conditions but those that each theorem names. -/
import Derived.Test.YtpmihempjefadaaGreatAo21
set_option linter.all false
set_option maxHeartbeats 4000000
namespace Go.Sky
open Go.Proofs.Tryz
open Go.Proofs
set_option synthInstance.maxHeartbeats 0
set_option synthInstance.maxSize 100000
set_option maxRecDepth 20000
set_option linter.unusedSimpArgs false
variable{v:Value}{ax ay az bx by_ bz:Int}
theorem Zl1(fo j:SL)(e:List Yj)(d:List Lm)(fl f:Int)(g:GdT)(q:Yj)(h:Cf e d fl f=true)(F:Et g=true)(y:Lq q=true):Xk prog 115 #[Zb4 g,.agg #[Xp fo,Xp j,.int .i64 fl,.int .i64 f],Xa q] [Yt 3 Xa (Xp fo) e,Qj 1 (Ob (α:=List Yj)) qPg (Xp j) d] (.bool (ouB fo e d fl f g.2.1 q)):=by
 refine Zd func115 ntmps115 λR Q P a=>?_;obtain⟨G,i,H⟩:=Ygf F;obtain⟨I,M,N⟩:=Zan y;obtain⟨t,u,w,x⟩:=(Cz h).2.1;have c:=qLo_pt h y;obtain⟨z,B,m⟩:=d2A_ok (fo:=fo) h c;have D:=ee_b i;have b:=ee_r i;refine go 2<|Zz (Zu 3) λbq _=>Zz (Zu 4) λo _=>Zz (Zu 5) λp _=>?_;refine go 16 ⟨O,?_⟩;refine Zj 24 J (λn=>?_) (λn=>?_)
 .refine go 20 ?_;exact Yx a () results115 (by first|exact vB (Ylg ‹_›)|exact vB (Ylf ‹_›)|exact vB (Yle ‹_› ‹_› ‹_›)|exact vB (Yld ‹_› ‹_› ‹_›)) aA Za
 .refine go 12 ⟨O,?_⟩;refine Zc J (λk=>?_) (λk=>?_)
  .refine go 7 ?_;exact Yx a () results115 (by first|exact vB (Ylg ‹_›)|exact vB (Ylf ‹_›)|exact vB (Yle ‹_› ‹_› ‹_›)|exact vB (Yld ‹_› ‹_› ‹_›)) aA Za
  .refine go 15 ?_;refine cl 5 [1,2] (Yb0 fo j e d fl f (qLo fl q) h c) λ_ _=>go 12<|Yq J (λl=>?_) (λl=>?_)
   .refine go 7 ?_;exact Yx a () results115 (by first|exact vB (Ylg ‹_›)|exact vB (Ylf ‹_›)|exact vB (Yle ‹_› ‹_› ‹_›)|exact vB (Yld ‹_› ‹_› ‹_›)) aA Za
   .refine go 6 ?_;refine cl 5 [1,2] (Yg6 fo j e d fl f (qLo fl q) h c) λ_ _=>go 3<|Zz (Zw 6) λr _=>?_;refine go 13 ⟨O,?_⟩;refine cl 6 [] (Gf (g.2.1*g.2.1) 1 ⟨O,O⟩ ⟨O3,O3⟩ O3) λ_ _=>go 3<|Zz (Zw 7) λs _=>go 8 ?_;refine cl 7 [] (Fp (d2A fo e d (qLo fl q)).1 (d2A fo e d (qLo fl q)).2 (Ho (g.2.1*g.2.1) 1) (Iq (g.2.1*g.2.1) 1) (by rw [b.1];exact aB (Db ⟨O,O⟩) O3) (by rw [b.2];decide) m (by rw [b.2];decide)) λ_ _=>go 15 ?_;exact Yx a () results115 (by first|exact vB (Ylg ‹_›)|exact vB (Ylf ‹_›)|exact vB (Yle ‹_› ‹_› ‹_›)|exact vB (Yld ‹_› ‹_› ‹_›)) aA Za
theorem Zw4(fo f:SL)(e:List Yj)(d:List Lm)(fl c:Int)(g:GdT)(q:Yj)(k:Cf e d fl c=true)(l:Et g=true)(m:Lq q=true):Xk prog 49 #[.agg #[Xp fo,Xp f,.int .i64 fl,.int .i64 c],Zb4 g,Xa q] [Yt 3 Xa (Xp fo) e,Qj 1 (Ob (α:=List Yj)) qPg (Xp f) d] (.tuple #[.bool (ouB fo e d fl c g.2.1 q),.int .i64 0]):=by refine Zd func49 ntmps49 λp o n h=>go 2 ?_;refine Zz (Zu 3) λbq _=>Zz (Zu 4) λi _=>Zz (Zu 5) λj _=>go 8 ?_;refine cl 5 [1,2] (Zcv fo f e d fl c) λ_ _=>?_;refine dt (dF (Yh J J) (aL (λb=>Value.bool (!b)) k))<|go 2 ?_;refine Lh 5 [] (Zbb g) λ_ _=>?_;refine Gl (dF (Yh J J) (aL (λb=>Value.bool (!b)) l)) J J<|go 3 ?_;refine Lh 5 [] (Zd9 q.1 q.2.1 q.2.2) λ_ _=>?_;refine Gl (dF (Yh J J) (aL (λb=>Value.bool (!b)) m)) J J<|go 9 ?_;refine dt (Xt [(0,_)] J K2 (λa w hs=>Zww))<|go 2 ?_;refine cl 5 [1,2] (Zl1 fo f e d fl c g q k l m) λ_ _=>go 5 ?_;exact Oy h () results49 J aA Za
theorem Zhe(g:GdT):Xk prog 42 #[Zb4 g] [] (.bool (Et g)):=by
 refine Zd func42 ntmps42 λj i h a=>go 2 ?_;refine Zz (Zu 1) λbq _=>go 9<|Zj 6 J (λf=>?_) (λf=>?_)
 .refine go 5<|Zj 11 J (λb=>?_) (λb=>?_)
  .refine go 5<|Zj 16 J (λc=>?_) (λc=>?_)
   .refine go 5<|Zj 21 J (λd=>?_) (λd=>?_)
    .refine go 5<|Zj 26 J (λe=>?_) (λe=>?_)
     .refine go 8 ?_;exact Yx a () results42 (vB (by rw [Znb];first|exact aK O|exact aJ O|exact cF.2 O)) aA Za
     .refine go 8 ?_;exact Yx a () results42 (vB (by rw [Znb];first|exact aK O|exact aJ O|exact cF.2 O)) aA Za
    .refine go 13 ?_;exact Yx a () results42 (vB (by rw [Znb];first|exact aK O|exact aJ O|exact cF.2 O)) aA Za
   .refine go 18 ?_;exact Yx a () results42 (vB (by rw [Znb];first|exact aK O|exact aJ O|exact cF.2 O)) aA Za
  .refine go 23 ?_;exact Yx a () results42 (vB (by rw [Znb];first|exact aK O|exact aJ O|exact cF.2 O)) aA Za
 .refine go 28 ?_;exact Yx a () results42 (vB (by rw [Znb];first|exact aK O|exact aJ O|exact cF.2 O)) aA Za
theorem Zvp(lo hi:Int):Xk prog 44 #[.agg #[.int .i64 lo,.int .i64 hi]] [] (.bool (Cg lo hi)):=by
 refine Zd func44 ntmps44 λf e d a=>go 2 ?_;refine Zz (Zu 1) λbq _=>go 9<|Zj 6 J (λc=>?_) (λc=>?_)
 .refine go 7<|Zj 13 J (λb=>?_) (λb=>?_)
  .refine go 8 ?_;exact Yx a () results44 (vB (by rw [Yit];first|exact aK O|exact aJ O|exact cF.2 O)) aA Za
  .refine go 8 ?_;exact Yx a () results44 (vB (by rw [Yit];first|exact aK O|exact aJ O|exact cF.2 O)) aA Za
 .refine go 15 ?_;exact Yx a () results44 (vB (by rw [Yit];first|exact aK O|exact aJ O|exact cF.2 O)) aA Za
theorem Zm9(s:Fg):Xk prog 47 #[Zcy s] [] (.bool (Zjx s)):=by
 refine Zd func47 ntmps47 λe d c a=>go 2 ?_;refine Zz (Zu 1) λbq _=>go 7 ?_;refine cl 1 [] (Zvp s.1.1 s.1.2) λ_ _=>go 1<|Xx 6 J (λb=>?_) (λb=>?_)
 .refine go 2 ?_;refine Lh 1 [] (Zd9 s.2.1 s.2.2.1 s.2.2.2) λ_ _=>go 5 ?_;exact Yx a () results47 (by first|exact vB (Ydz ‹_›)|exact vB (sig_f ‹_›)) aA Za
 .refine go 8 ?_;exact Yx a () results47 (by first|exact vB (Ydz ‹_›)|exact vB (sig_f ‹_›)) aA Za
theorem Zvo(a z lo hi:Int)(r:-1073741824<=z/\z<=1073741824)(o:-1073741824<=a/\a<=1073741824)(k:Cg lo hi=true):Xk prog 45 #[.int .i64 a,.int .i64 z,.agg #[.int .i64 lo,.int .i64 hi]] [] (.tuple #[.int .i64 (wnP a z lo hi).1,.int .i64 (wnP a z lo hi).2]):=by
 refine Zd func45 ntmps45 λt s p b=>?_;obtain⟨l,m,n⟩:=Yaf k;refine go 2<|Zz (Zu 1) λbq _=>go 5<|Ph (λ_=>False) [(0,0),(1,0),(2,0),(3,0),(4,0),(5,3)]<|go 8 ?_;refine jn (G:=Unit) [0,1,9] [0,1] (λ_=>[(8,.int .i64 (max lo a))]) (λ_=>[]) (λ_=>True) ?_ ?_
 .refine go 7<|Zc J (λd=>?_) (λd=>?_)
  .refine go 4 ?_;exact Gd () aA ⟨(aL (λq:Int=>some (Value.int .i64 q)) O),aA⟩ aA
  .refine go 1 ?_;exact Gd () aA ⟨(aL (λq:Int=>some (Value.int .i64 q)) O),aA⟩ aA
 .rintro _ -;refine jn (G:=Unit) [0,1,9] [0,1] (λ_=>[(8,.int .i64 (min (max lo a) z))]) (λ_=>[]) (λ_=>True) ?_ ?_
  .refine go 7<|Zc J (λe=>?_) (λe=>?_)
   .refine go 4 ?_;exact Gd () aA ⟨(aL (λq:Int=>some (Value.int .i64 q)) O),aA⟩ aA
   .refine go 1 ?_;exact Gd () aA ⟨(aL (λq:Int=>some (Value.int .i64 q)) O),aA⟩ aA
  .rintro _ -;refine jn (G:=Unit) [1,8] [0,1] (λ_=>[(9,.int .i64 (max hi a))]) (λ_=>[]) (λ_=>True) ?_ ?_
   .refine go 7<|Zc J (λf=>?_) (λf=>?_)
    .refine go 4 ?_;exact Gd () aA ⟨(aL (λq:Int=>some (Value.int .i64 q)) O),aA⟩ aA
    .refine go 1 ?_;exact Gd () aA ⟨(aL (λq:Int=>some (Value.int .i64 q)) O),aA⟩ aA
   .rintro _ -;refine jn (G:=Unit) [1,8] [0,1] (λ_=>[(9,.int .i64 (min (max hi a) z))]) (λ_=>[]) (λ_=>True) ?_ ?_
    .refine go 7<|Zc J (λg=>?_) (λg=>?_)
     .refine go 4 ?_;exact Gd () aA ⟨(aL (λq:Int=>some (Value.int .i64 q)) O),aA⟩ aA
     .refine go 1 ?_;exact Gd () aA ⟨(aL (λq:Int=>some (Value.int .i64 q)) O),aA⟩ aA
    .rintro _ -;refine go 7<|Zj 33 J (λj=>?_) (λj=>?_)
     .refine go 6<|Zc J (λh=>?_) (λh=>?_)
      .refine go 11 ⟨O,?_⟩;exact Oy b () results45 (by first|(rw [Znx O];done)|(rw [Znz O O];done)|(rw [Zny O O];done)) aA Za
      .refine go 10<|Zc J (λi=>?_) (λi=>?_)
       .refine go 11 ⟨O,?_⟩;exact Oy b () results45 (by first|(rw [Znx O];done)|(rw [Znz O O];done)|(rw [Zny O O];done)) aA Za
       .refine go 11 ?_;exact Oy b () results45 (by first|(rw [Znx O];done)|(rw [Znz O O];done)|(rw [Zny O O];done)) aA Za
     .refine go 17<|Zc J (λc=>?_) (λc=>?_)
      .refine go 11 ⟨O,?_⟩;exact Oy b () results45 (by first|(rw [Znx O];done)|(rw [Znz O O];done)|(rw [Zny O O];done)) aA Za
      .refine go 11 ?_;exact Oy b () results45 (by first|(rw [Znx O];done)|(rw [Znz O O];done)|(rw [Zny O O];done)) aA Za
theorem Ymf:Cal prog 215 #[] [] true (G:=Nat×SL×SL) (λr=>True) (λr=> .map (some r.1)) (λr=>[mro r.1 [(0,.slice none 0 0),(1,Xp r.2.1),(2,Xp r.2.2)],Yt 1 Xf (Xp r.2.1) [1],Yt 1 Xf (Xp r.2.2) Zy3]):=by refine Zd func215 ntmps215 λk j a d=>go 7 ?_;refine tt (t_mmi (i:=1) J J J J a.h) (λh _=>?_);refine tt (Yc6 1 J J J J J J (by simp [mfi]) O3 underlying323 underlying150 J a.h aA) (λ_ _=>?_);refine tt (Oe [(0,_)] 2 (enc:=Xf) ([1]:List Int) J J K2 Le ti3 J J J J J pZ.cells J J a.h) (λv _=>?_);refine tt (Yc6 1 J J J J J J (by simp [mfi]) O3 underlying323 underlying150 J a.h aA) (λ_ _=>?_);refine tt (Oe [(0,_),(1,_),(2,_),(3,_),(4,_)] 3 (enc:=Xf) ([0,0,10,-15,6]:List Int) J J K10 Le ti3 J J J J J pZ.cells J J a.h) (λg _=>?_);refine tt (Yc6 1 J J J J J J (by simp [mfi]) O3 underlying323 underlying150 J a.h aA) λ_ _=>go 5 ?_;refine Xg (s_pubm 1 J J)<|Xg (Nc 2 J J pZ)<|Znv (Ml 2 J Zk) (λe b=>?_);subst b;refine Xg (Nc 3 J J pZ)<|Znv (Ml 3 J Zk) (λf c=>?_);subst c;exact Yx d (_,e,f) results215 J aA (Kf 1 (Kf 2 (Kf 3 Za)))
theorem Zk6(a b:Int)(c:List Int)(t:-4194304<=a/\a<=4194304)(u:-4194304<=b/\b<=4194304)(h:∀f∈c,-15<=f/\f<=15)(x:c.length<=5):Cal prog 216 #[.int .i64 a,.int .i64 b,v] [Yt 1 Xf v c] true (G:=SL) (λr=>True) (λr=>Xp r) (λr=>[Yt 1 Xf (Xp r) (Zak a b c)]):=by
 refine Zd func216 ntmps216 λD z n j=>go 8 ?_;refine tt (Oe [(0,_)] 2 (enc:=Xf) ([a]:List Int) J J K2 Le ti3 J J J J J pZ.cells J J n.h) λv _=>go 11 ?_;refine Zc J (λg=>?_) (λg=>?_)
 .refine go 8 ?_;refine lp (G:=Nat×Value) [0,1,15,16] [0,1] (λq=>[(17,.int .i64 (q.1:Int)),(7,q.2)]) (λq=>[(2,On 1 3 Xf q.2 (a::((c.take q.1).map λf=>f*(b-a))))]) (λq=>q.1<=c.length) (λq=>c.length-q.1) (0,_) O1 K2 K1 ?_;rintro⟨k,B⟩ o;dsimp only at o;dsimp only;refine go 6<|Zc J (λm=>?_) (λm=>?_)
  .refine go 6 ?_;refine dt (Yn 1 k J J J J Zk Le Ca J)<|go 4 ⟨O,?_⟩;have w:=h _ (Zi (zs:=c) (i:=k) (d:=0));have y:=Zsh (c.getD k 0) (b-a) ⟨O,O⟩ ⟨O,O⟩;refine go 7 ⟨O,O,?_⟩;refine tt (Oe [(0,_)] 3 (enc:=Xf) ([c.getD k 0*(b-a)]:List Int) J J K2 Le ti3 J J J J J pZ.cells J J n.h) (λp _=>?_);refine tt (Fs 2 3 8 J J J J J J O3 J (Yp pZ) Le ti3 J pZ J J J O9 O3 J n.h) (λs _=>?_);refine go 8 ⟨O,?_⟩;exact Ym (k+1,_) O1 O1 K2 ⟨by rw [trm_s O];rfl,aA⟩
  .refine go 12<|Xg (Nc 2 J J pZ) ?_;refine Znv (Ml 2 J Zk) (λl e=>?_);subst e;exact Yx j l results216 J aA (Kf 2 Za (aL (Yt 1 Xf (Xp l)) (trm_n g O).symm))
 .refine go 9<|Xg (Nc 2 J J pZ) ?_;refine Znv (Ml 2 J Zk) (λl e=>?_);subst e;exact Yx j l results216 J aA (Kf 2 Za (aL (Yt 1 Xf (Xp l)) (trm_e c (a:=a) (b:=b) O).symm))
theorem gl_leg{fr p k:Int}(o:k=0\/k=1\/k=2)(e:-4194304<=ax/\ax<=4194304)(f:-4194304<=ay/\ay<=4194304)(g:-4194304<=az/\az<=4194304)(h:-4194304<=bx/\bx<=4194304)(b:-4194304<=by_/\by_<=4194304)(j:-4194304<=bz/\bz<=4194304):Cal prog 146 #[.agg #[.int .i64 ax,.int .i64 ay,.int .i64 az],.agg #[.int .i64 bx,.int .i64 by_,.int .i64 bz],.int .i64 fr,.int .i64 p,.int .i64 k] [] true (G:=SL×SL×SL) (λr=>True) (λr=> .agg #[.int .i64 fr,.int .i64 p,.int .i64 1,Xp r.1,Xp r.2.1,Xp r.2.2]) (λr=>[Yt 1 Xf (Xp r.1) (Zak ax bx (rwK k)),Yt 1 Xf (Xp r.2.1) (Zak ay by_ (rwK k)),Yt 1 Xf (Xp r.2.2) (Zak az bz (rwK k))]):=by refine Zd func146 ntmps146 λu t s l=>go 2 ?_;refine Zz (Zu 1) λbq _=>Zz (Zu 2) λm _=>Zz (Zw 3) λn _=>go 4 ?_;refine cl 4 [] Ymf λrw _=>go 1 ?_;refine dt (d_mlr (i:=4) J J J J underlying323 underlying150 (mf_row o))<|go 4 ?_;refine Zr (s_row o 5 6 60 J J J J)<|Ph (λ_=>False) [(0,0),(1,0),(2,0),(3,0),(4,0),(5,0),(6,0),(8,0),(9,0),(10,0),(11,0),(12,0),(14,0),(15,0),(16,0),(17,0),(18,0),(7,1),(13,1),(19,1),(20,0),(21,3)]<|go 17<|Qn (Zx 7 [60] (Zk6 ax bx (rwK k) e h Zxt Zu5)) λq _=>Qn (Zx 8 [60] (Zk6 ay by_ (rwK k) f b Zxt Zu5)) λc _=>Qn (Zx 9 [60] (Zk6 az bz (rwK k) g j Zxt Zu5)) λd _=>?_;refine Qd J J (Pt (Xt [(0,_),(1,_),(2,_),(3,_),(4,_),(5,_)] J K12 (λa w hs=>Zuf ((Zl J) a w hs) ((Zl J) a w hs) ((Zl J) a w hs) ((Om 7 J Zk) a w hs) ((Om 8 J Zk) a w hs) ((Om 9 J Zk) a w hs))))<|go 4 ?_;exact Yx l (q,c,d) results146 J aA (Kf 7 (Kf 8 (Kf 9 Za)))
theorem Ygj{fr g:Int}:Cal prog 145 #[.agg #[.int .i64 ax,.int .i64 ay,.int .i64 az],.agg #[.int .i64 bx,.int .i64 by_,.int .i64 bz],.int .i64 fr,.int .i64 g] [] true (G:=Unit) (λ_=>True) (λ_=> .bool (Zex ax ay az bx by_ bz fr g)) (λ_=>[]):=by
 refine Zd func145 ntmps145 λj i h a=>go 2 ?_;refine Zz (Zu 1) λbq _=>Zz (Zu 2) λf _=>go 6 ?_;refine cl 2 [] (Zd9 _ _ _) λ_ _=>go 1<|Xx 11 J (λe=>?_) (λe=>?_)
 .refine go 1 ?_;refine Lh 2 [] (Zd9 _ _ _) λ_ _=>go 2<|Xx 15 J (λb=>?_) (λb=>?_)
  .refine go 4<|Zj 19 J (λc=>?_) (λc=>?_)
   .refine go 5<|Zj 24 J (λd=>?_) (λd=>?_)
    .refine go 7 ?_;exact Yx a () results145 (by first|exact vB (Zs1 ‹_›)|exact vB (Zs0 ‹_›)|exact vB (Zsz O)|exact vB (Znc ‹_› ‹_› O O)) aA Za
    .refine go 7 ?_;exact Yx a () results145 (by first|exact vB (Zs1 ‹_›)|exact vB (Zs0 ‹_›)|exact vB (Zsz O)|exact vB (Znc ‹_› ‹_› O O)) aA Za
   .refine go 12 ?_;exact Yx a () results145 (by first|exact vB (Zs1 ‹_›)|exact vB (Zs0 ‹_›)|exact vB (Zsz O)|exact vB (Znc ‹_› ‹_› O O)) aA Za
  .refine go 16 ?_;exact Yx a () results145 (by first|exact vB (Zs1 ‹_›)|exact vB (Zs0 ‹_›)|exact vB (Zsz O)|exact vB (Znc ‹_› ‹_› O O)) aA Za
 .refine go 20 ?_;exact Yx a () results145 (by first|exact vB (Zs1 ‹_›)|exact vB (Zs0 ‹_›)|exact vB (Zsz O)|exact vB (Znc ‹_› ‹_› O O)) aA Za
theorem Ygk{fr d k:Int}(t:k=0\/k=1\/k=2)(j:Zex ax ay az bx by_ bz fr d=true):Cal prog 76 #[.agg #[.int .i64 ax,.int .i64 ay,.int .i64 az],.agg #[.int .i64 bx,.int .i64 by_,.int .i64 bz],.int .i64 fr,.int .i64 d,.int .i64 k] [] true (G:=Value×(SL×SL×SL)) (λr=>True) (λr=> .tuple #[r.1,.int .i64 0]) (λr=>[Qj 6 Of qG r.1 [glG ax ay az bx by_ bz fr d k r.2]]):=by refine Zd func76 ntmps76 λx w u h=>?_;obtain⟨f,g,-,-,-⟩:=Yme j;obtain⟨l,m,n⟩:=Zan f;obtain⟨o,p,s⟩:=Zan g;refine go 2<|Zz (Zu 1) λbq _=>Zz (Zu 2) λi _=>go 11 ?_;refine cl 2 [] Ygj λ_ _=>?_;refine dt (dF (Yh J J) (aL (λb=>Value.bool (!b)) j))<|go 12 ?_;refine cl 3 [] (gl_leg t ⟨O,O⟩ ⟨O,O⟩ ⟨O,O⟩ ⟨O,O⟩ ⟨O,O⟩ ⟨O,O⟩) λ⟨e,a,c⟩ _=>?_;refine tt (Oe [(0,_)] 6 (enc:=Of) [glG ax ay az bx by_ bz fr d k (e,a,c)] J J K2 Zfc ti137 J J Yg1 J J pG.cells J J u.h) λv _=>go 5 ?_;exact Xg (Nc 6 J J pG)<|Xg (Oo qC 71)<|Xg (Qs (q:=qC) (z:=(glG ax ay az bx by_ bz fr d k (e,a,c)).2.1) 71 3 71 J J J J J)<|Xg (Qs (q:=qC) (z:=(glG ax ay az bx by_ bz fr d k (e,a,c)).2.2.1) 71 4 71 J J J J J)<|Xg (Qs (q:=qC) (z:=(glG ax ay az bx by_ bz fr d k (e,a,c)).2.2.2) 71 5 71 J J J J J)<|Xg (Oo qG 73)<|Xg (Qs (q:=qG) (z:=(glG ax ay az bx by_ bz fr d k (e,a,c))) 73 71 73 J J J J J)<|Xg (Cc 6 73 72 J J J J)<|Oy h (_,e,a,c) results76 J aA (Kf 72 Za)
theorem Ymg(ax ay az bx by_ bz fr b:Int)(d:Zex ax ay az bx by_ bz fr b=true):Cal prog 151 #[.agg #[.int .i64 ax,.int .i64 ay,.int .i64 az],.agg #[.int .i64 bx,.int .i64 by_,.int .i64 bz],.int .i64 fr,.int .i64 b] [] true (G:=Value×(SL×SL×SL)) (λr=>True) (λr=> .tuple #[r.1,.int .i64 0]) (λr=>[Qj 6 Of qG r.1 [glG ax ay az bx by_ bz fr b 1 r.2]]):=by refine Zd func151 ntmps151 λg f e a=>go 2 ?_;refine Zz (Zu 1) λbq _=>Zz (Zu 2) λc _=>go 10 ?_;refine cl 3 [] (Ygk (.inr (.inl J)) d) λ⟨v,q⟩ _=>go 7 ?_;exact Oy a (v,q) results151 J aA (Kf 3 Za)
theorem Zs2(ax ay az fr b:Int)(c:Zex ax ay az ax ay az fr b=true):Cal prog 113 #[.agg #[.int .i64 ax,.int .i64 ay,.int .i64 az],.int .i64 fr,.int .i64 b] [] true (G:=Value×(SL×SL×SL)) (λr=>True) (λr=> .tuple #[r.1,.int .i64 0]) (λr=>[Qj 6 Of qG r.1 [glG ax ay az ax ay az fr b 0 r.2]]):=by refine Zd func113 ntmps113 λf e d a=>go 2 ?_;refine Zz (Zu 1) λbq _=>go 10 ?_;refine cl 2 [] (Ygk (.inl J) c) λ⟨v,q⟩ _=>go 7 ?_;exact Oy a (v,q) results113 J aA (Kf 2 Za)
theorem Yja(ps:List Ze)(g:GdT)(s:Fg)(e:∀g∈ps,Gin g)(i:Xn ps=true)(n:ps.length<=5)(l:Et g=true)(t:Cg s.1.1 s.1.2=true)(m:Lq s.2=true):Xk prog 111 #[Zb4 g,v,Zcy s] [Qj 6 Of qG v ps] (.tuple #[.bool (Zd5 ps g s),.int .i64 (Zao ps s)]):=by
 refine Zd func111 ntmps111 λD B z h=>?_;have b:=offH s e i t;obtain⟨w,x,y⟩:=Ygf l;refine go 2<|Zz (Zu 2) λbq _=>Zz (Zu 3) λr _=>go 9 ?_;refine cl 3 [1] (Zns ps s.1.1 s.1.2 e i t) λ_ _=>go 14 ?_;refine cl 4 [1] (Ydu ps (Ok ps s).1 (Ok ps s).2 e i b.r (λg l=>Ig (e g l) ((Fz e i).2.1 g l)) (Ylw e i)) λu k=>go 14<|Zc J (λa=>?_) (λa=>?_)
 .refine go 8 ?_;exact Oy h () results111 (by rw [(Zye (g:=g) a).1,(Zye (g:=g) a).2]) aA Za
 .have d:Zc4 (Ok ps s).1 (Ok ps s).2 ps=0:=fT.1 a;have f:=Zyc e i b d k;have o:=Zyd n f;refine go 8 ?_;refine cl 5 [] (Zs2 s.2.1 s.2.2.1 s.2.2.2 (Ok ps s).1 (Ok ps s).2 (Yf8 m b)) λ⟨v,q⟩ _=>go 8 ?_;have p:=Yfb (g:=g) k q;refine go 11 ⟨O,O,?_⟩;refine cl 5 [4,5] (Zrr u.2 [glG s.2.1 s.2.2.1 s.2.2.2 s.2.1 s.2.2.1 s.2.2.2 (Ok ps s).1 (Ok ps s).2 0 q] (g.1+g.2.1+1) f.gin (Zy2 m m b.b.1 b.r.2.1 b.b.2) f.pb (Zy1 m b.b.1 b.r.2.1 b.b.2 _) o O8 (ds_in O O)) λ_ _=>go 14<|Zc J (λc=>?_) (λc=>?_)
  .refine go 8 ?_;exact Oy h () results111 (by have j:=off_e (g:=g) d (by rw [<-p.1];exact c);rw [j.1,j.2]) aA Za
  .refine go 10 ?_;exact Oy h () results111 (by have j:=off_v (g:=g) d (by rw [<-p.1];exact fT.1 c);rw [j.1,j.2,p.2]) aA Za
theorem Yjc(ps:List Ze)(g:GdT)(s:Fg)(j:∀g∈ps,Gin g)(f:Xn ps=true)(c:ps.length<=5)(i:Et g=true)(h:Cg s.1.1 s.1.2=true)(k:Lq s.2=true):Xk prog 46 #[v,Zb4 g,Zcy s] [Qj 6 Of qG v ps] (.tuple #[.bool (Zd5 ps g s),.int .i64 (Zao ps s)]):=by refine Zd func46 ntmps46 λn m l d=>go 2 ?_;refine Zz (Zu 2) λbq _=>Zz (Zu 3) λe _=>go 8 ?_;refine cl 3 [1] (Pb j) λ_ _=>?_;refine dt (dF (Yh J J) (aL (λb=>Value.bool (!b)) f))<|go 2 ?_;refine Lh 3 [] (Zbb g) λ_ _=>?_;refine Gl (dF (Yh J J) (aL (λb=>Value.bool (!b)) i)) J J<|go 4 ?_;refine Lh 3 [] (Zba s.1.1 s.1.2) λ_ _=>?_;refine Gl (dF (Yh J J) (aL (λb=>Value.bool (!b)) h)) J J<|go 4 ?_;refine Lh 3 [] (Zd9 s.2.1 s.2.2.1 s.2.2.2) λ_ _=>?_;refine Gl (dF (Yh J J) (aL (λb=>Value.bool (!b)) k)) J J<|go 9 ?_;refine dt (Xt [(0,_)] J K2 (λa w hs=>Zww))<|go 2 ?_;refine cl 3 [1] (Yja ps g s j f c i h k) λ_ _=>go 7 ?_;exact Oy d () results46 J aA Za
theorem Zw5(ps:List Ze)(g:GdT)(s:Fg)(f:∀g∈ps,Gin g)(j:(Xn ps && (Et g && Zjx s))=false):Xk prog 46 #[v,Zb4 g,Zcy s] [Qj 6 Of qG v ps] (.tuple #[.bool false,.int .i64 2]):=by
 refine Zd func46 ntmps46 λm l k d=>go 2 ?_;refine Zz (Zu 2) λbq _=>Zz (Zu 3) λi _=>go 6 ?_;rcases Ybd j with a|⟨a,c⟩|⟨a,c,e⟩|⟨a,c,e,h⟩
 .refine go 2 ?_;refine cl 3 [1] (Pb f) λ_ _=>?_;refine dt (dT (Yh J J) (aL (λb=>Value.bool (!b)) a))<|go 28 ?_;exact Oy d () results46 J aA Za
 .refine go 2 ?_;refine cl 3 [1] (Pb f) λ_ _=>?_;refine dt (dF (Yh J J) (aL (λb=>Value.bool (!b)) a))<|go 2 ?_;refine Lh 3 [] (Zbb g) λ_ _=>?_;refine Gl (dT (Yh J J) (aL (λb=>Value.bool (!b)) c)) J J<|go 24 ?_;exact Oy d () results46 J aA Za
 .refine go 2 ?_;refine cl 3 [1] (Pb f) λ_ _=>?_;refine dt (dF (Yh J J) (aL (λb=>Value.bool (!b)) a))<|go 2 ?_;refine Lh 3 [] (Zbb g) λ_ _=>?_;refine Gl (dF (Yh J J) (aL (λb=>Value.bool (!b)) c)) J J<|go 4 ?_;refine Lh 3 [] (Zba s.1.1 s.1.2) λ_ _=>?_;refine Gl (dT (Yh J J) (aL (λb=>Value.bool (!b)) e)) J J<|go 18 ?_;exact Oy d () results46 J aA Za
 .refine go 2 ?_;refine cl 3 [1] (Pb f) λ_ _=>?_;refine dt (dF (Yh J J) (aL (λb=>Value.bool (!b)) a))<|go 2 ?_;refine Lh 3 [] (Zbb g) λ_ _=>?_;refine Gl (dF (Yh J J) (aL (λb=>Value.bool (!b)) c)) J J<|go 4 ?_;refine Lh 3 [] (Zba s.1.1 s.1.2) λ_ _=>?_;refine Gl (dF (Yh J J) (aL (λb=>Value.bool (!b)) e)) J J<|go 4 ?_;refine Lh 3 [] (Zd9 s.2.1 s.2.2.1 s.2.2.2) λ_ _=>?_;refine Gl (dT (Yh J J) (aL (λb=>Value.bool (!b)) h)) J J<|go 12 ?_;exact Oy d () results46 J aA Za
theorem Zcr(ps:List Ze):Xk prog 38 #[v,.agg #[.slice none 0 0,.slice none 0 0,.int .i64 0,.int .i64 0]] [Qj 6 Of qG v ps] (.bool (sfB ps [] [])):=by
 refine Zd func38 ntmps38 λr q p a=>?_;refine Li (Ez (i:=1) J Yf) (λm=>?_);refine Zr (Hb 90 3 23 Xa)<|Zr (Nc 90 J J pPt)<|go 2<|Zz (Zu 2) λbq _=>go 10 ?_;refine lp (G:=Nat) [0,3] [0,1,90,2] (λi=>[(5,.int .i64 (i:Int))]) (λi=>[]) (λi=>(i<=ps.length/\i<=5)/\(∀k,k<i->s7 (ps.getD k G0)=true)) (λi=>ps.length-i) 0 ⟨O1,λk b=>absurd b (cK k)⟩ K1 aA ?_;rintro i ⟨hi,b⟩;refine go 8<|Zj 10 J (λh=>?_) (λh=>?_)
 .refine go 5<|Zc J (λe=>?_) (λe=>?_)
  .refine go 5<|Zr (Gn (ps.getD i G0) ((ps.getD i G0).2.1) 1 51 J J Zi O8)<|Zr (Gn (ps.getD i G0) ((ps.getD i G0).2.2.1) 1 52 J J Zi O8)<|Zr (Gn (ps.getD i G0) ((ps.getD i G0).2.2.2) 1 53 J J Zi O8)<|go 3 ?_;refine dt (Yn 1 i J J J J Yf Zfc Zb0 J)<|dt (Zgi 1 J J J Yf Zfd J Zqv J)<|dt (Zgh 1 G0 J J J Yf isAgg40 J)<|go 3 ?_;refine Zj 23 J (λj=>?_) (λj=>?_)
   .refine go 31 ?_;exact Yx a () results38 (by rw [sf_f ps i O O (s7_f O)]) aA Za
   .refine go 2 ?_;refine Gl (Yn 1 i J J J J Yf Zfc Zb0 J) J J<|Gl (Zgi 1 J J J Yf Zfd J Zqv J) J J<|Gl (Zgh 1 G0 J J J Yf isAgg40 J) J J<|go 4 ?_;refine Zj 32 J (λc=>?_) (λc=>?_)
    .refine go 22 ?_;exact Yx a () results38 (by rw [sf_f ps i O O (s7_f O)]) aA Za
    .refine go 2 ?_;refine Gl (Yn 1 i J J J J Yf Zfc Zb0 J) J J<|Gl (Zgi 1 J J J Yf Zfd J Zqv J) J J<|Gl (Zgh 1 G0 J J J Yf isAgg40 J) J J<|go 5 ?_;refine Zc J (λf=>?_) (λf=>?_)
     .refine go 11 ?_;exact Yx a () results38 (by rw [sf_f ps i O O (s7_f O)]) aA Za
     .refine go 8 ⟨O,?_⟩;exact Ym (i+1) ⟨O1,λk o=>by rcases aC.1 o with g|g;exact b k g;subst g;exact s7_t O O O⟩ O1 K1 aA
  .refine go 11<|Zj 44 J (λl=>?_) (λl=>?_)
   .refine go 3<|ktg (aJ O3)<|go 5<|ktg (aJ O3)<|go 5<|ktg (aJ O3)<|go 13 ?_;exact Yx a () results38 (vB ((Ykq (n:=i) O b).trans (by first|exact aJ O|exact aK O))) aA Za
   .refine go 29 ?_;exact Yx a () results38 (vB ((Ykq (n:=i) O b).trans (by first|exact aJ O|exact aK O))) aA Za
 .refine go 17<|Zj 44 J (λd=>?_) (λd=>?_)
  .refine go 3<|ktg (aJ O3)<|go 5<|ktg (aJ O3)<|go 5<|ktg (aJ O3)<|go 13 ?_;exact Yx a () results38 (vB ((Ykq (n:=i) O b).trans (by first|exact aJ O|exact aK O))) aA Za
  .refine go 29 ?_;exact Yx a () results38 (vB ((Ykq (n:=i) O b).trans (by first|exact aJ O|exact aK O))) aA Za
theorem Yl6(ps:List Ze)(g:GdT)(s:Fg)(d:∀g∈ps,Gin g)(e:Xn ps=true)(n:ps.length<=5)(l:Et g=true)(t:Cg s.1.1 s.1.2=true)(m:Lq s.2=true):Xk prog 48 #[v,Zb4 g,Zcy s] [Qj 6 Of qG v ps] (.tuple #[.bool (Zd5 ps g s),.int .i64 (Zao ps s)]):=by
 refine Zd func48 ntmps48 λI H G i=>?_;have c:=offH s d e t;obtain⟨w,x,y⟩:=Ygf l;obtain⟨z,B,D,F⟩:=Ydn d e;refine go 2<|Zz (Zu 2) λbq _=>Zz (Zu 3) λr _=>go 7 ?_;refine cl 3 [1] (Zob ps d e) λ_ _=>go 15 ?_;refine cl 3 [] (Zvo (spF ps) (spL ps) s.1.1 s.1.2 ⟨O,O⟩ ⟨O,O⟩ t) λ_ _=>go 12 ?_;refine cl 4 [1] (Ydu ps (Ok ps s).1 (Ok ps s).2 d e c.r (λg l=>Ig (d g l) ((Fz d e).2.1 g l)) (Ylw d e)) λu k=>go 14<|Zc J (λb=>?_) (λb=>?_)
 .refine go 8 ?_;exact Oy i () results48 (by rw [(Zye (g:=g) b).1,(Zye (g:=g) b).2]) aA Za
 .have f:Zc4 (Ok ps s).1 (Ok ps s).2 ps=0:=fT.1 b;have h:=Zyc d e c f k;have o:=Zyd n h;refine go 8 ?_;refine cl 5 [] (Zs2 s.2.1 s.2.2.1 s.2.2.2 (Ok ps s).1 (Ok ps s).2 (Yf8 m c)) λ⟨v,q⟩ _=>go 8 ?_;have p:=Yfb (g:=g) k q;refine go 9 ⟨O,O,?_⟩;refine cl 5 [4,5] (Zrr u.2 [glG s.2.1 s.2.2.1 s.2.2.2 s.2.1 s.2.2.1 s.2.2.2 (Ok ps s).1 (Ok ps s).2 0 q] (g.1+g.2.1+1) h.gin (Zy2 m m c.b.1 c.r.2.1 c.b.2) h.pb (Zy1 m c.b.1 c.r.2.1 c.b.2 _) o O8 (ds_in O O)) λ_ _=>go 14<|Zc J (λa=>?_) (λa=>?_)
  .refine go 8 ?_;exact Oy i () results48 (by have j:=off_e (g:=g) f (by rw [<-p.1];exact a);rw [j.1,j.2]) aA Za
  .refine go 10 ?_;exact Oy i () results48 (by have j:=off_v (g:=g) f (by rw [<-p.1];exact fT.1 a);rw [j.1,j.2,p.2]) aA Za
theorem Znt(ps:List Ze)(fo l:SL)(k:List Yj)(j:List Lm)(fl d:Int)(g:GdT)(s:Fg)(y:∀g∈ps,Gin g)(u:Xn ps=true)(o:ps.length<=5)(x:Cf k j fl d=true)(n:Et g=true)(m:Cg s.1.1 s.1.2=true)(p:Lq s.2=true):Xk prog 53 #[v,.agg #[Xp fo,Xp l,.int .i64 fl,.int .i64 d],Zb4 g,Zcy s] [Qj 6 Of qG v ps,Yt 3 Xa (Xp fo) k,Qj 1 (Ob (α:=List Yj)) qPg (Xp l) j] (dcR ps fo k j fl d g s):=by
 refine Zd func53 ntmps53 λH G F c=>?_;obtain⟨z,B,D⟩:=Yaf m;refine go 2<|Zz (Zu 4) λbq _=>Zz (Zu 5) λq _=>Zz (Zu 6) λr _=>go 8 ?_;refine cl 6 [1] (Pb y) λ_ _=>?_;refine dt (dF (Yh J J) (aL (λb=>Value.bool (!b)) u))<|go 2 ?_;refine Lh 6 [2,3] (Zcv fo l k j fl d) λ_ _=>?_;refine Gl (dF (Yh J J) (aL (λb=>Value.bool (!b)) x)) J J<|go 3 ?_;refine Lh 6 [] (Zbb g) λ_ _=>?_;refine Gl (dF (Yh J J) (aL (λb=>Value.bool (!b)) n)) J J<|go 4 ?_;refine Lh 6 [] (Zba s.1.1 s.1.2) λ_ _=>?_;refine Gl (dF (Yh J J) (aL (λb=>Value.bool (!b)) m)) J J<|go 4 ?_;refine Lh 6 [] (Zd9 s.2.1 s.2.2.1 s.2.2.2) λ_ _=>?_;refine Gl (dF (Yh J J) (aL (λb=>Value.bool (!b)) p)) J J<|go 9 ?_;refine dt (Xt [(0,_)] J K2 (λa w hs=>Zww))<|Zz (Zw 7) λt _=>go 10 ?_;refine cl 7 [2,3] (Zl1 fo l k j fl d g s.2 x n p) λ_ _=>go 2<|Yq J (λe=>?_) (λe=>?_)
 .refine go 8 ?_;exact Oy c () results53 (by first|exact(Ztu ‹_›).symm|exact(Ztt ‹_› ‹_›).symm|exact(Zts ‹_› ‹_› ‹_›).symm|exact(Ztr ‹_› ‹_› ‹_› ‹_›).symm|exact(Ztq ‹_› ‹_› ‹_› ‹_›).symm) aA Za
 .refine go 7 ?_;refine cl 7 [1] (Yja ps g s y u o n m p) λ_ _=>go 16<|Zc J (λf=>?_) (λf=>?_)
  .refine go 10 ?_;exact Oy c () results53 (by first|exact(Ztu ‹_›).symm|exact(Ztt ‹_› ‹_›).symm|exact(Zts ‹_› ‹_› ‹_›).symm|exact(Ztr ‹_› ‹_› ‹_› ‹_›).symm|exact(Ztq ‹_› ‹_› ‹_› ‹_›).symm) aA Za
  .refine go 6<|Yq J (λh=>?_) (λh=>?_)
   .refine go 9 ?_;exact Oy c () results53 (by first|exact(Ztu ‹_›).symm|exact(Ztt ‹_› ‹_›).symm|exact(Zts ‹_› ‹_› ‹_›).symm|exact(Ztr ‹_› ‹_› ‹_› ‹_›).symm|exact(Ztq ‹_› ‹_› ‹_› ‹_›).symm) aA Za
   .refine go 16 ⟨O,?_⟩;refine Zc J (λi=>?_) (λi=>?_)
    .refine go 9 ?_;exact Oy c () results53 (by first|exact(Ztu ‹_›).symm|exact(Ztt ‹_› ‹_›).symm|exact(Zts ‹_› ‹_› ‹_›).symm|exact(Ztr ‹_› ‹_› ‹_› ‹_›).symm|exact(Ztq ‹_› ‹_› ‹_› ‹_›).symm) aA Za
    .refine go 10 ?_;exact Oy c () results53 (by first|exact(Ztu ‹_›).symm|exact(Ztt ‹_› ‹_›).symm|exact(Zts ‹_› ‹_› ‹_›).symm|exact(Ztr ‹_› ‹_› ‹_› ‹_›).symm|exact(Ztq ‹_› ‹_› ‹_› ‹_›).symm) aA Za
def pBd:Enc Tryz.prog 77 2 Yhi:=Enc.agg O3 Tryz.sizeOf77 Tryz.isAgg77 (λx=>⟨[.int .i64 x.1,.int .i64 x.2],rfl,rfl,O10⟩)
@[reducible,instance] def encBdI:EncT Tryz.prog 77 2 Yhi:=⟨pBd⟩
theorem l44_ex:Cal prog 106 #[] [] true (G:=Value×SL×(SL×SL×SL)) (λr=>True) (λr=> .tuple #[r.1,.agg #[Xp r.2.1,.slice none 0 0,.int .i64 0,.int .i64 200],.agg #[.int .i64 20,.int .i64 5,.int .i64 500]]) (λr=>[Qj 6 Of qG r.1 [exG r.2.2],Yt 3 Xa (Xp r.2.1) Zlf]):=by refine Zd func106 ntmps106 λj i f b=>go 3 ?_;refine Zz (Zw 1) λbq _=>Zz (Zw 2) λd _=>go 4 ?_;refine dt (Xt [(2,_)] J K2 (λa w hs=>b23_2 ((Zl J) a w hs)))<|dt (Xt [(0,_),(2,_)] J K4 (λa w hs=>Ze6 ((Zl J) a w hs) ((Zl J) a w hs)))<|cl 3 [] (Ymg 0 0 100 1000 0 100 0 10000 O3) λ⟨v,q⟩ _=>go 9 ?_;refine dt (Xt [(0,_),(1,_)] J K4 (λa w hs=>Zhr ((Zl J) a w hs) ((Zl J) a w hs)))<|dt (Xt [(0,_),(1,_)] J K4 (λa w hs=>Zhr ((Zl J) a w hs) ((Zl J) a w hs)))<|dt (Xt [(0,_),(1,_)] J K4 (λa w hs=>Zhr ((Zl J) a w hs) ((Zl J) a w hs)))<|dt (Xt [(0,_),(1,_)] J K4 (λa w hs=>Zhr ((Zl J) a w hs) ((Zl J) a w hs)))<|tt (Oe [(0,_),(1,_),(2,_),(3,_)] 4 (enc:=Xa) Zlf J J K8 Fr ti23 J J J J J pPt.cells J J f.h) (λh _=>?_);refine dt (Xt [(0,_),(3,_)] J K4 (λa w hs=>b81_03 ((Om 4 J (Yp pPt)) a w hs) ((Zl J) a w hs)))<|Zz (Zw 5) λe _=>go 4 ?_;refine Ni [5] [5]<|Zv 0 [(0,0),(1,0),(2,0),(3,0),(4,1),(5,3)]<|go 2 ?_;refine Qd J J (Fu (Xt [(0,_),(1,_),(2,_)] J K6 (λa w hs=>Yn1 ((Zl J) a w hs) ((Zl J) a w hs) ((Zl J) a w hs))) K1)<|go 4 ?_;refine Ys<|go 2<|Xg (Nc 4 J J pPt) ?_;refine Znv (Ml 4 J Zk) (λg c=>?_);subst c;exact xe3 b (_,g,q) results106 J aA (Kf 3 (Kf 4 Za))
theorem Za1:Xk prog 39 #[] [] (.bool true):=by
 refine Zd func39 ntmps39 λy x d j=>go 7 ?_;refine cl 1 [] l44_ex λ⟨v,c,q⟩ _=>?_;refine Nm (s_dnil 1 (Ob (α:=List Yj)) qPg 75)<|go 4<|Zz (Zw 3) λbq _=>Zz (Zw 4) λk _=>go 8 ?_;refine dt (Xt [(0,_),(1,_)] J K4 (λa w hs=>Zhq ((Zl J) a w hs) ((Zl J) a w hs)))<|dt (Xt [(0,_),(1,_)] J K4 (λa w hs=>Zhq ((Zl J) a w hs) ((Zl J) a w hs)))<|dt (Xt [(0,_),(1,_)] J K4 (λa w hs=>Zhq ((Zl J) a w hs) ((Zl J) a w hs)))<|tt (Oe [(0,_),(1,_),(2,_)] 5 (enc:=Yhi) xB J J K6 underlying191 ti77 J J Yg0 J J pBd.cells J J d.h) λp _=>go 5 ?_;refine lp (G:=Nat) [1,2,3,29,30] [0,1,2,75,3,4,5] (λi=>[(31,.int .i64 (i:Int))]) (λi=>[]) (λi=>i<=3) (λi=>3-i) 0 O1 K1 aA ?_;rintro i hi;refine go 6<|Zc J (λe=>?_) (λe=>?_)
 .have b:i<3:=by have o:((xB.length:Nat):Int)=3:=rfl;omega
  refine go 7 ?_;refine dt (Yn 5 i J J J J (Yp pBd) underlying191 sizeOf77 J b)<|dt (Og 5 (0,0) J J J (Yp pBd) pBd b)<|Zz (Zw 6) λl _=>go 8 ?_;refine cl 6 [1] (Zns [exG q] (xB.getD i (0,0)).1 (xB.getD i (0,0)).2 (Yl8 _) (Yl7 _) (kx_b b)) λ_ _=>go 12<|kf (aK (λh=>h J))<|go 2 ?_;refine gtt (Oe [(0,_),(1,_),(2,_)] 7 (enc:=Xf) ([100,300,9999]:List Int) J J K6 Le ti3 J J J J J pZ.cells J J d.h) J J J J λr _=>go 1 ?_;refine Gl (Yn 7 i J J J J (Yp pZ) Le Ca J b) J J<|go 1 ⟨b,?_⟩;refine kfg (aK (λh=>h (kx_w q b).1))<|go 3 ?_;refine gtt (Oe [(0,_),(1,_),(2,_)] 8 (enc:=Xf) ([200,301,10000]:List Int) J J K6 Le ti3 J J J J J pZ.cells J J d.h) J J J J λs _=>go 1 ?_;refine Gl (Yn 8 i J J J J (Yp pZ) Le Ca J b) J J<|go 1 ⟨b,?_⟩;refine kfg (aK (λh=>h (kx_w q b).2))<|go 11 ⟨O,?_⟩;exact Ym (i+1) O1 O1 K1 aA
 .refine go 8 ?_;refine dt (Xt [(0,_),(2,_)] J K4 (λa w hs=>Ze6 ((Zl J) a w hs) ((Zl J) a w hs)))<|dt (Xt [(0,_),(2,_)] J K4 (λa w hs=>Ze6 ((Zl J) a w hs) ((Zl J) a w hs)))<|dt (Xt [(0,_),(2,_)] J K4 (λa w hs=>Ze6 ((Zl J) a w hs) ((Zl J) a w hs)))<|tt (Oe [(0,_),(1,_),(2,_)] 9 (enc:=Xa) xV J J K6 Fr ti23 J J J J J pPt.cells J J d.h) λt _=>go 5 ?_;refine lp (G:=Nat) [1,2,3,65,66] [0,1,2,75,3,4,5,9] (λi=>[(67,.int .i64 (i:Int))]) (λi=>[]) (λi=>i<=3) (λi=>3-i) 0 O1 K1 aA ?_;rintro i hi;refine go 6<|Zc J (λf=>?_) (λf=>?_)
  .have b:i<3:=by have o:((xV.length:Nat):Int)=3:=rfl;omega
   refine go 7 ?_;refine dt (Yn 9 i J J J J (Yp pPt) Fr Ad J b)<|dt (Og 9 Yr J J J (Yp pPt) pPt b)<|Zz (Zw 10) λm _=>go 8 ?_;refine dt (Xt [(0,_),(1,_)] J K4 (λa w hs=>Zhq ((Zl J) a w hs) ((Zl J) a w hs)))<|go 1 ?_;refine dt (Xt [(0,_),(1,_)] J K4 (λa w hs=>Zwv))<|cl 10 [1] (Yjc [exG q] gd5 ((1000,1100),xV.getD i Yr) (Yl8 _) (Yl7 _) O8 Zyy (show Cg 1000 1100=true by decide) (kx_v b)) λ_ _=>go 10 ?_;refine kf (aK (λh=>h (kx_oe q b)))<|go 4<|kfg (by rw [kx_ov q b];exact oI _)<|go 11 ⟨O,?_⟩;exact Ym (i+1) O1 O1 K1 aA
  .refine go 8 ?_;refine dt (Xt [(0,_),(1,_),(2,_)] J K6 (λa w hs=>Yag ((Zl J) a w hs) ((Zl J) a w hs) ((Zl J) a w hs)))<|dt (Xt [(0,_),(1,_),(2,_)] J K6 (λa w hs=>Yag ((Zl J) a w hs) ((Zl J) a w hs) ((Zl J) a w hs)))<|dt (Xt [(0,_),(2,_)] J K4 (λa w hs=>Ze6 ((Zl J) a w hs) ((Zl J) a w hs)))<|tt (Oe [(0,_),(1,_),(2,_)] 11 (enc:=Xa) xW J J K6 Fr ti23 J J J J J pPt.cells J J d.h) λu _=>go 5 ?_;refine lp (G:=Nat) [1,2,3,93,94] [0,1,2,75,3,4,5,9,11] (λi=>[(95,.int .i64 (i:Int))]) (λi=>[]) (λi=>i<=3) (λi=>3-i) 0 O1 K1 aA ?_;rintro i hi;refine go 6<|Zc J (λg=>?_) (λg=>?_)
   .have b:i<3:=by have o:((xW.length:Nat):Int)=3:=rfl;omega
    refine go 7 ?_;refine dt (Yn 11 i J J J J (Yp pPt) Fr Ad J b)<|dt (Og 11 Yr J J J (Yp pPt) pPt b)<|Zz (Zw 12) λn _=>go 9 ?_;refine cl 12 [2,75] (Zw4 c (none,0,0) Zlf [] 0 200 gd5 (xW.getD i Yr) kx_f Zyy (kx_u b)) λ_ _=>go 10<|kf (aK (λh=>h J))<|go 4<|kfg (by rw [kx_ou b];exact oI _)<|go 11 ⟨O,?_⟩;exact Ym (i+1) O1 O1 K1 aA
   .refine go 10 ?_;refine dt (Xt [(0,_),(1,_)] J K4 (λa w hs=>Zhq ((Zl J) a w hs) ((Zl J) a w hs)))<|dt (Xt [(0,_),(2,_)] J K4 (λa w hs=>Ze6 ((Zl J) a w hs) ((Zl J) a w hs)))<|dt (Xt [(0,_),(1,_)] J K4 (λa w hs=>Zwv))<|cl 12 [1,2,75] (Znt [exG q] c (none,0,0) Zlf [] 0 200 gd5 ((1000,1600),(100,0,100)) (Yl8 _) (Yl7 _) O8 kx_f Zyy O3 O3) λ_ _=>go 12 ?_;refine dt (Xt [(0,_),(1,_)] J K4 (λa w hs=>Zhq ((Zl J) a w hs) ((Zl J) a w hs)))<|dt (Xt [(0,_),(2,_)] J K4 (λa w hs=>Ze6 ((Zl J) a w hs) ((Zl J) a w hs)))<|dt (Xt [(0,_),(1,_)] J K4 (λa w hs=>Zwv))<|cl 12 [1,2,75] (Znt [exG q] c (none,0,0) Zlf [] 0 200 gd5 ((1000,1400),(100,0,100)) (Yl8 _) (Yl7 _) O8 kx_f Zyy O3 O3) λ_ _=>go 10 ?_;refine kt (aJ (kx_d1 q c).2)<|go 2<|ktg (aJ (kx_d2 q c).2)<|go 3<|ktg (aJ (kx_d1 q c).1)<|go 3<|ktg (aJ (kx_d2 q c).1)<|go 5 ?_;exact Yx j () results39 J aA Za
theorem Zvm(v:Value)(ps:List Ze)(g:GdT)(s:Fg)(e:∀g∈ps,Gin g)(hs:sfB ps [] []=false):Xk prog 9 #[v,Zb4 g,Zcy s] [Qj 6 Of qG v ps] (.bool true):=by refine Zd func9 ntmps9 λi h f c=>go 2 ?_;refine Zz (Zu 2) λbq _=>Zz (Zu 3) λd _=>go 7 ?_;refine dt (Xt [] J aA (λa w hs=>b81_))<|cl 3 [1] (Zcr ps) λ_ _=>?_;refine dt (dT (Yh J J) (aL (λb=>Value.bool (!b)) hs))<|go 5 ?_;refine cl 3 [] Za1 λ_ _=>go 5 ?_;exact Yx c () results9 J aA Za
theorem Zvn(v:Value)(ps:List Ze)(g:GdT)(s:Fg)(f:∀g∈ps,Gin g)(hs:sfB ps [] []=true)(j:(Xn ps && (Et g && Zjx s))=false):Xk prog 9 #[v,Zb4 g,Zcy s] [Qj 6 Of qG v ps] (.bool true):=by
 refine Zd func9 ntmps9 λm l k e=>go 2 ?_;refine Zz (Zu 2) λbq _=>Zz (Zu 3) λi _=>go 7 ?_;refine dt (Xt [] J aA (λa w hs=>b81_))<|cl 3 [1] (Zcr ps) λ_ _=>?_;refine dt (dF (Yh J J) (aL (λb=>Value.bool (!b)) hs))<|go 10 ?_;refine cl 3 [1] (Zw5 ps g s f j) λ_ _=>go 9 ?_;rcases and_f j with d|⟨d,c⟩;rotate_left;rcases and_f c with c|⟨c,h⟩;rotate_left 2
 .refine go 2 ?_;refine cl 3 [1] (Pb f) λ_ _=>?_;refine dt (dT (Yh J J) (aL (λb=>Value.bool (!b)) d))<|go 19 ?_;refine ktg (aJ J)<|go 2 ?_;refine Lh 3 [] Za1 λ_ _=>go 6 ?_;exact Yx e () results9 J aA Za
 .refine go 2 ?_;refine cl 3 [1] (Pb f) λ_ _=>?_;refine dt (dF (Yh J J) (aL (λb=>Value.bool (!b)) d))<|go 2 ?_;refine Lh 3 [] (Zhe g) λ_ _=>?_;refine Gl (dT (Yh J J) (aL (λb=>Value.bool (!b)) c)) J J<|go 15 ?_;refine ktg (aJ J)<|go 2 ?_;refine Lh 3 [] Za1 λ_ _=>go 6 ?_;exact Yx e () results9 J aA Za
 .refine go 2 ?_;refine cl 3 [1] (Pb f) λ_ _=>?_;refine dt (dF (Yh J J) (aL (λb=>Value.bool (!b)) d))<|go 2 ?_;refine Lh 3 [] (Zhe g) λ_ _=>?_;refine Gl (dF (Yh J J) (aL (λb=>Value.bool (!b)) c)) J J<|go 3 ?_;refine Lh 3 [] (Zm9 s) λ_ _=>?_;refine Gl (dT (Yh J J) (aL (λb=>Value.bool (!b)) h)) J J<|go 10 ?_;refine ktg (aJ J)<|go 2 ?_;refine Lh 3 [] Za1 λ_ _=>go 6 ?_;exact Yx e () results9 J aA Za
theorem Ybr(v:Value)(ps:List Ze)(g:GdT)(s:Fg)(f:∀g∈ps,Gin g)(hs:sfB ps [] []=true)(c:Xn ps=true)(e:Et g=true)(d:Cg s.1.1 s.1.2=true)(h:Lq s.2=true):Xk prog 9 #[v,Zb4 g,Zcy s] [Qj 6 Of qG v ps] (.bool true):=by refine Zd func9 ntmps9 λp o n i=>?_;obtain⟨k,l,m⟩:=sf_len hs;refine go 2<|Zz (Zu 2) λbq _=>Zz (Zu 3) λj _=>go 7 ?_;refine dt (Xt [] J aA (λa w hs=>b81_))<|cl 3 [1] (Zcr ps) λ_ _=>?_;refine dt (dF (Yh J J) (aL (λb=>Value.bool (!b)) hs))<|go 10 ?_;refine cl 3 [1] (Yjc ps g s f c O e d h) λ_ _=>go 11 ?_;refine cl 3 [1] (Pb f) λ_ _=>?_;refine dt (dF (Yh J J) (aL (λb=>Value.bool (!b)) c))<|go 2 ?_;refine Lh 3 [] (Zhe g) λ_ _=>?_;refine Gl (dF (Yh J J) (aL (λb=>Value.bool (!b)) e)) J J<|go 3 ?_;refine Lh 3 [] (Zm9 s) λ_ _=>?_;refine Gl (dF (Yh J J) (aL (λb=>Value.bool (!b)) ((Ydz d).trans h))) J J<|go 11 ?_;refine cl 3 [1] (Yl6 ps g s f c O e d h) λ_ _=>go 11<|kt (beq_self_eq_true _)<|go 3<|ktg (aJ J)<|go 2 ?_;refine Lh 3 [] Za1 λ_ _=>go 5 ?_;exact Yx i () results9 J aA Za
theorem law_ao(v:Value)(ps:List Ze)(a b c:Int)(s:Fg)(d:∀g∈ps,Gin g) :
  Cal prog 9 #[v,.agg #[.int .i64 a,.int .i64 b,.int .i64 c],Zcy s] [Qj 6 Of qG v ps] false (G:=Unit) (λ_=>True) (λ_=> .bool true) (λ_=>[]):=by
 cases hs:sfB ps [] []with
 | false=>exact Zvm v ps (a,b,c) s d hs
 | true=>
  cases hf:(Xn ps && (Et (a,b,c) && Zjx s))with
  | false=>exact Zvn v ps (a,b,c) s d hs hf
  | true=>
   simp only [Zjx,aQ]at hf;exact Ybr v ps (a,b,c) s d hs hf.1 hf.2.1 hf.2.2.1 hf.2.2.2
end Go.Sky
namespace Go.Proofs.YtpmihempjefadaaGreat
open Go.ChangeShapes Go.WideShapes Go.ChangeAt Go.RowKit Go.Joins Go.Deep Go.Sky
def own:ownKnob Tryz.prog.godebug=none:=O6
def Zph:laidOutB Tryz.prog=true:=O6
set_option maxRecDepth 100000 in
def lifted(S:Os)(d:S.Started)(H:Type)(enc:TypeId×Value->H) :
  ReturnsInHanded {} Tryz.checked S 9 .any (Rows.abortOffSpec.pre6 enc Tryz.prog Tryz.f9 Rows.abortOffRow.domain false) (Rows.abortOffSpec.post enc Tryz.prog Tryz.f9 false true false false):=by
 refine returnsInHanded_of_change (C:=Tryz.checked) own d O6 Tryz.func9
  (ChangeSpec.witness6 (enc:=enc) (C:=Tryz.checked) false ⟨#[],#[.slice none 0 0,.agg #[.int .i64 0,.int .i64 0,.int .i64 0],.agg #[.int .i64 0,.int .i64 0,.int .i64 0,.int .i64 0,.int .i64 0]],[]⟩ 8 O6 O6 O6 O6) ?_
 intro W base a Z gs k c Q R _;have b:∀(j:Nat) t v,Tryz.f9.params[j]? = some t->a[j]? = some v->Value.okWide Tryz.prog W .any base t v:=c;have r:=Q;obtain⟨p,q,g,hV,rfl,a3,a4⟩:=Q;have P:DataW.TrodAll enc Tryz.prog W 0 (λ_=>true) true Tryz.f9.params.toList a.toList Z p:=g;rw [Tryz.params9]at P b;obtain⟨G,a5,d0,a0,p0,q0,s,rfl,rfl,l,r0⟩:=trodAll_cons P;obtain⟨V,a6,d1,a1,p1,q1,rfl,rfl,rfl,n,r1⟩:=trodAll_cons r0;obtain⟨Y,a7,d2,a2,p2,q2,rfl,rfl,rfl,o,r2⟩:=trodAll_cons r1;obtain⟨rfl,rfl,rfl⟩:=trodAll_nil r2;obtain rfl:a=#[G,V,Y]:=by cases a;simp_all
 obtain⟨rfl,rfl⟩:=trodVars_none hV;have z:∀x∈p0,x.block<W.heap.size:=by obtain⟨m,i⟩:=l;exact DataW.trod_lt m _ _ _ i
 obtain⟨l0,u,w⟩:=Ybc Tryz.underlying31 Tryz.underlying137 rfl rfl rfl rfl rfl rfl rfl rfl rfl rfl rfl rfl Tryz.underlying3 Tryz.underlying40 Tryz.underlying3 O6 O6 O6 O6 (b 0 31 G rfl rfl) l;have B:∀x∈p1,x.block<W.heap.size:=by obtain⟨m,i⟩:=n;exact DataW.trod_lt m _ _ _ i
 obtain⟨I,M,N,rfl,-,-,-⟩:=Zve Tryz.underlying75 O6 rfl rfl rfl rfl rfl rfl Tryz.underlying3 O6 (b 1 (75) V rfl rfl) n;have D:∀x∈p2,x.block<W.heap.size:=by obtain⟨m,i⟩:=o;exact DataW.trod_lt m _ _ _ i
 obtain⟨F,rfl⟩:=Zvf Tryz.underlying90 O6 rfl rfl rfl rfl O6 O6 Tryz.underlying77 rfl rfl rfl rfl Tryz.underlying23 rfl rfl rfl rfl rfl rfl Tryz.underlying3 O6 (b 2 (90) Y rfl rfl) o;clear g c;refine(law_ao G l0 I M N F w W (λp y=>by cases y with|head=>exact u|tail _ y=>cases y)).mono λe W' ⟨_,he,_,f,_⟩=>?_;subst he;exact⟨_,rfl,_,_,_,[],_,[],r,trodAll_mk1 (shut_bool Tryz.underlying4 _),(trodAll_cons_mk (Below.trod Zph O6 (cD O6) l f z) (trodAll_cons_mk (Below.trod Zph O6 (cD O6) n f B) (trodAll_cons_mk (Below.trod Zph O6 (cD O6) o f D) trodAll_mk0))),rfl,f.frame _,λh=>by cases h⟩
theorem x_holds : Rows.AbortOffSaid :=
 OpenClaim.holds_of_wide 9 Tryz.f9 rfl rfl rfl rfl rfl rfl rfl ⟨rfl,rfl,rfl,rfl,rfl⟩ rfl rfl rfl rfl rfl O6 Tryz.func9 closed
  (cD O6) (by unfold Func.isWrapper;first|(rw [aF O7];kernel_rfl)|(rw [aD O7];exact⟨rfl,rfl⟩))
  (λos started H enc _=>lifted os started H enc)
#print axioms x_holds
end Go.Proofs.YtpmihempjefadaaGreat

