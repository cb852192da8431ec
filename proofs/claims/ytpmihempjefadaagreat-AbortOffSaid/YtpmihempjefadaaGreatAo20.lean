/- Rules, arithmetic and contracts: part 21. No conditions but those that each theorem names. -/
import Derived.Test.YtpmihempjefadaaGreatAo19
set_option linter.all false
set_option maxHeartbeats 4000000
namespace Go.Sky
open Go.Proofs.Tryz
open Go.Proofs
set_option synthInstance.maxHeartbeats 0
set_option synthInstance.maxSize 100000
set_option maxRecDepth 20000
set_option linter.unusedSimpArgs false
variable{v:Value}
theorem Ycw{x y z:Int}:Xk prog 128 #[.agg #[.int .i64 x,.int .i64 y,.int .i64 z]] [] (.bool (vcB x y z)):=by refine Zd func128 ntmps128 λe d b a=>go 2 ?_;refine Zz (Zu 1) λc _=>go 11 ?_;refine tt (Oe [(0,_),(1,_),(2,_)] 2 (enc:=Xf) ([x,y,z]:List Int) J J K6 Le ti3 J J J J J pZ.cells J J b.h) λv _=>cl 2 [2] (Ycx [x,y,z] 16777216 ⟨O3,O3⟩) λ_ _=>go 4 ?_;exact Yx a () results128 J aA Za
def pPt:Enc Tryz.prog 23 3 Xa:=Enc.agg O3 Tryz.sizeOf23 Tryz.isAgg23 (λx=>⟨[.int .i64 x.1,.int .i64 x.2.1,.int .i64 x.2.2],rfl,rfl,O10⟩)
@[reducible,instance] def encPtI:EncT Tryz.prog 23 3 Xa:=⟨pPt⟩
def pPg:Enc Tryz.prog 37 1 (Ob (α:=List Yj)):=Enc.flat Tryz.sizeOf37 Tryz.isAgg37 (λ_=>rfl)
@[reducible,instance] def encPgI:EncT Tryz.prog 37 1 (Ob (α:=List Yj)):=⟨pPg⟩
theorem Yj0{n:Int}:Xk prog 324 #[.int .i64 n] [] (.int .i64 (sgI n)):=by
 refine Zd func324 ntmps324 λf e d a=>go 14 ?_;refine Zc J (λb=>?_) (λb=>?_)
 .refine go 8 ?_;exact Yx a () results324 (by rw [sgI_n O]) aA Za
 .refine go 7<|Zc J (λc=>?_) (λc=>?_)
  .refine go 8 ?_;exact Yx a () results324 (by rw [sgI_p O]) aA Za
  .refine go 9 ?_;exact Yx a () results324 (by rw [sgI_0 O O]) aA Za
theorem Zza{n:Int}:Xk prog 195 #[.int .i64 n] [] (.int .i64 (sgI n)):=by
 refine Zd func195 ntmps195 λf e d a=>go 14 ?_;refine Zc J (λb=>?_) (λb=>?_)
 .refine go 8 ?_;exact Yx a () results195 (by rw [sgI_n O]) aA Za
 .refine go 7<|Zc J (λc=>?_) (λc=>?_)
  .refine go 8 ?_;exact Yx a () results195 (by rw [sgI_p O]) aA Za
  .refine go 9 ?_;exact Yx a () results195 (by rw [sgI_0 O O]) aA Za
theorem Yjz(a b c:Yj)(g:Lq a=true)(h:Lq b=true)(i:Lq c=true):Xk prog 263 #[Xa a,Xa b,Xa c] [] (.tuple #[.int .i64 (trn a b c),.int .i64 0]):=by refine Zd func263 ntmps263 λx w s d=>?_;obtain⟨j,k,l⟩:=Zan g;obtain⟨m,n,o⟩:=Zan h;obtain⟨p,q,r⟩:=Zan i;have t:=Zsh (b.1-a.1) (c.2.1-a.2.1) ⟨O,O⟩ ⟨O,O⟩;have u:=Zsh (b.2.1-a.2.1) (c.1-a.1) ⟨O,O⟩ ⟨O,O⟩;refine go 2<|Zz (Zu 1) λbq _=>Zz (Zu 2) λe _=>Zz (Zu 3) λf _=>go 8 ?_;refine cl 3 [] Ycw λ_ _=>?_;refine dt (dF (Yh J J) (aL (λb=>Value.bool (!b)) (Ycy g)))<|go 2 ?_;refine Lh 3 [] Ycw λ_ _=>?_;refine Gl (dF (Yh J J) (aL (λb=>Value.bool (!b)) (Ycy h))) J J<|go 3 ?_;refine Lh 3 [] Ycw λ_ _=>?_;refine Gl (dF (Yh J J) (aL (λb=>Value.bool (!b)) (Ycy i))) J J<|go 31 ⟨O,O,O,O,O,O,O,?_⟩;refine cl 3 [] Yj0 λ_ _=>go 5 ?_;exact Oy d () results263 J aA Za
theorem Zac{a b c:Yj}(g:Lq a=true)(h:Lq b=true)(i:Lq c=true):Xk prog 193 #[Xa a,Xa b,Xa c] [] (.int .i64 (trn a b c)):=by refine Zd func193 ntmps193 λl k j d=>go 2 ?_;refine Zz (Zu 1) λbq _=>Zz (Zu 2) λe _=>Zz (Zu 3) λf _=>go 8 ?_;refine cl 3 [] (Yjz a b c g h i) λ_ _=>go 14 ?_;exact Yx d () results193 J aA Za
theorem Qe(a b c:Yj)(k:Lq a=true)(l:Lq b=true)(m:Lq c=true):Xk prog 189 #[Xa a,Xa b,Xa c] [] (.bool (Ai a b c)):=by
 refine Zd func189 ntmps189 λp o n d=>go 2 ?_;refine Zz (Zu 1) λbq _=>Zz (Zu 2) λi _=>Zz (Zu 3) λj _=>go 8 ?_;refine cl 3 [] (Zac (a:=a) (b:=b) (c:=c) k l m) λ_ _=>go 2<|Zj 12 J (λh=>?_) (λh=>?_)
 .refine go 6 ?_;refine Gl (Znl J J J) J J<|go 3 ?_;refine Zj 22 J (λe=>?_) (λe=>?_)
  .refine go 6 ?_;refine Gl (Zb5 J J J) J J<|go 3 ?_;refine Zj 32 J (λf=>?_) (λf=>?_)
   .refine go 6 ?_;refine Gl (Znl J J J) J J<|go 3 ?_;refine Zj 42 J (λg=>?_) (λg=>?_)
    .refine go 6 ?_;refine Gl (Zb5 J J J) J J<|go 6 ?_;exact Yx d () results189 (by first|exact vB (Ye5 ‹_› ‹_› ‹_› ‹_›)|exact vB (Ye6 ‹_›)|exact vB (Ye7 ‹_›)|exact vB (Ye8 ‹_›)|exact vB (Ye9 ‹_›)) aA Za
    .refine go 13 ?_;exact Yx d () results189 (by first|exact vB (Ye5 ‹_› ‹_› ‹_› ‹_›)|exact vB (Ye6 ‹_›)|exact vB (Ye7 ‹_›)|exact vB (Ye8 ‹_›)|exact vB (Ye9 ‹_›)) aA Za
   .refine go 23 ?_;exact Yx d () results189 (by first|exact vB (Ye5 ‹_› ‹_› ‹_› ‹_›)|exact vB (Ye6 ‹_›)|exact vB (Ye7 ‹_›)|exact vB (Ye8 ‹_›)|exact vB (Ye9 ‹_›)) aA Za
  .refine go 33 ?_;exact Yx d () results189 (by first|exact vB (Ye5 ‹_› ‹_› ‹_› ‹_›)|exact vB (Ye6 ‹_›)|exact vB (Ye7 ‹_›)|exact vB (Ye8 ‹_›)|exact vB (Ye9 ‹_›)) aA Za
 .refine go 43 ?_;exact Yx d () results189 (by first|exact vB (Ye5 ‹_› ‹_› ‹_› ‹_›)|exact vB (Ye6 ‹_›)|exact vB (Ye7 ‹_›)|exact vB (Ye8 ‹_›)|exact vB (Ye9 ‹_›)) aA Za
theorem Lv(a b c d:Yj)(g:Lq a=true)(i:Lq b=true)(j:Lq c=true)(l:Lq d=true):Xk prog 119 #[Xa a,Xa b,Xa c,Xa d] [] (.bool (Zha a b c d)):=by
 refine Zd func119 ntmps119 λt s e k=>go 2 ?_;refine Zz (Zu 1) λbq _=>Zz (Zu 2) λp _=>Zz (Zu 3) λq _=>Zz (Zu 4) λr _=>go 4 ?_;rcases Ybj a b c d with f|⟨f,h⟩|⟨f,h,m⟩|⟨f,h,m,n⟩|⟨f,h,m,n,o⟩|⟨f,h,m,n,o⟩
 .refine Ph (λ_=>False) [(0,0),(1,0),(2,0),(3,1),(4,0),(5,2),(6,2),(7,2),(8,2),(9,0),(10,0),(11,2),(12,2),(13,2),(14,2),(15,0),(16,0),(17,2),(18,2),(19,2),(20,2),(21,0),(22,0),(23,2),(24,2),(25,2),(27,2),(28,2),(29,2),(26,2),(30,2),(31,2),(32,2),(33,2),(34,2),(35,2),(36,2),(38,2),(39,2),(40,2),(37,2),(41,2),(42,2),(43,2),(44,2),(45,0),(46,3)]<|go 3<|Qn (Zx 4 [] (Qe a b c g i j)) λ_ _=>?_;refine Qd J J (Pt (dT (Hg J J) (vB f)))<|go 29 ?_;refine Bf J J J J J<|Bf J J J J J<|Bf J J J J J<|Bf J J J J J<|Bf J J J J J<|Bf J J J J J<|Bf J J J J J<|Bf J J J J J<|Bf J J J J J<|Bf J J J J J<|go 6 ?_;exact Yx k () results119 (by unfold Zha;rw [f];rfl) aA Za
 .refine Ph (λ_=>False) [(0,0),(1,0),(2,0),(3,1),(4,0),(5,0),(6,0),(7,0),(8,1),(9,0),(10,0),(11,2),(12,2),(13,2),(14,2),(15,0),(16,0),(17,2),(18,2),(19,2),(20,2),(21,0),(22,0),(23,2),(24,2),(25,2),(27,2),(28,2),(29,2),(26,2),(30,2),(31,2),(32,2),(33,2),(34,2),(35,2),(36,2),(38,2),(39,2),(40,2),(37,2),(41,2),(42,2),(43,2),(44,2),(45,0),(46,3)]<|go 3<|Qn (Zx 4 [] (Qe a b c g i j)) λ_ _=>?_;refine Qd J J (Pt (dF (Hg J J) (vB f)))<|go 3 ?_;refine Ah J J J J J (Ol 4 (Qe a b d g i l) J J J K3 call189 Zs J e.h) λ_ _=>go 1 ?_;refine Qd J J (Pt (dT (Hg J J) (vB h)))<|go 23 ?_;refine Bf J J J J J<|Bf J J J J J<|Bf J J J J J<|Bf J J J J J<|Bf J J J J J<|Bf J J J J J<|Bf J J J J J<|Bf J J J J J<|Bf J J J J J<|Bf J J J J J<|go 6 ?_;exact Yx k () results119 (by unfold Zha;rw [f,h];rfl) aA Za
 .refine Ph (λ_=>False) [(0,0),(1,0),(2,0),(3,1),(4,0),(5,0),(6,0),(7,0),(8,1),(9,0),(10,0),(11,0),(12,0),(13,0),(14,1),(15,0),(16,0),(17,2),(18,2),(19,2),(20,2),(21,0),(22,0),(23,2),(24,2),(25,2),(27,2),(28,2),(29,2),(26,2),(30,2),(31,2),(32,2),(33,2),(34,2),(35,2),(36,2),(38,2),(39,2),(40,2),(37,2),(41,2),(42,2),(43,2),(44,2),(45,0),(46,3)]<|go 3<|Qn (Zx 4 [] (Qe a b c g i j)) λ_ _=>?_;refine Qd J J (Pt (dF (Hg J J) (vB f)))<|go 3 ?_;refine Ah J J J J J (Ol 4 (Qe a b d g i l) J J J K3 call189 Zs J e.h) λ_ _=>go 1 ?_;refine Qd J J (Pt (dF (Hg J J) (vB h)))<|go 3 ?_;refine Ah J J J J J (Ol 4 (Qe c d a j l g) J J J K3 call189 Zs J e.h) λ_ _=>go 1 ?_;refine Qd J J (Pt (dT (Hg J J) (vB m)))<|go 17 ?_;refine Bf J J J J J<|Bf J J J J J<|Bf J J J J J<|Bf J J J J J<|Bf J J J J J<|Bf J J J J J<|Bf J J J J J<|Bf J J J J J<|Bf J J J J J<|Bf J J J J J<|go 6 ?_;exact Yx k () results119 (by unfold Zha;rw [f,h,m];rfl) aA Za
 .refine Ph (λ_=>False) [(0,0),(1,0),(2,0),(3,1),(4,0),(5,0),(6,0),(7,0),(8,1),(9,0),(10,0),(11,0),(12,0),(13,0),(14,1),(15,0),(16,0),(17,0),(18,0),(19,0),(20,1),(21,0),(22,0),(23,2),(24,2),(25,2),(27,2),(28,2),(29,2),(26,2),(30,2),(31,2),(32,2),(33,2),(34,2),(35,2),(36,2),(38,2),(39,2),(40,2),(37,2),(41,2),(42,2),(43,2),(44,2),(45,0),(46,3)]<|go 3<|Qn (Zx 4 [] (Qe a b c g i j)) λ_ _=>?_;refine Qd J J (Pt (dF (Hg J J) (vB f)))<|go 3 ?_;refine Ah J J J J J (Ol 4 (Qe a b d g i l) J J J K3 call189 Zs J e.h) λ_ _=>go 1 ?_;refine Qd J J (Pt (dF (Hg J J) (vB h)))<|go 3 ?_;refine Ah J J J J J (Ol 4 (Qe c d a j l g) J J J K3 call189 Zs J e.h) λ_ _=>go 1 ?_;refine Qd J J (Pt (dF (Hg J J) (vB m)))<|go 3 ?_;refine Ah J J J J J (Ol 4 (Qe c d b j l i) J J J K3 call189 Zs J e.h) λ_ _=>go 1 ?_;refine Qd J J (Pt (dT (Hg J J) (vB n)))<|go 11 ?_;refine Bf J J J J J<|Bf J J J J J<|Bf J J J J J<|Bf J J J J J<|Bf J J J J J<|Bf J J J J J<|Bf J J J J J<|Bf J J J J J<|Bf J J J J J<|Bf J J J J J<|go 6 ?_;exact Yx k () results119 (by unfold Zha;rw [f,h,m,n];rfl) aA Za
 .refine Ph (λ_=>False) [(0,0),(1,0),(2,0),(3,1),(4,0),(5,0),(6,0),(7,0),(8,1),(9,0),(10,0),(11,0),(12,0),(13,0),(14,1),(15,0),(16,0),(17,0),(18,0),(19,0),(20,1),(21,0),(22,0),(23,0),(24,0),(25,0),(27,0),(28,0),(29,0),(26,1),(30,1),(31,0),(32,0),(33,0),(34,0),(35,0),(36,0),(38,0),(39,0),(40,0),(37,1),(41,1),(42,0),(43,0),(44,0),(45,0),(46,3)]<|go 3<|Qn (Zx 4 [] (Qe a b c g i j)) λ_ _=>?_;refine Qd J J (Pt (dF (Hg J J) (vB f)))<|go 3 ?_;refine Ah J J J J J (Ol 4 (Qe a b d g i l) J J J K3 call189 Zs J e.h) λ_ _=>go 1 ?_;refine Qd J J (Pt (dF (Hg J J) (vB h)))<|go 3 ?_;refine Ah J J J J J (Ol 4 (Qe c d a j l g) J J J K3 call189 Zs J e.h) λ_ _=>go 1 ?_;refine Qd J J (Pt (dF (Hg J J) (vB m)))<|go 3 ?_;refine Ah J J J J J (Ol 4 (Qe c d b j l i) J J J K3 call189 Zs J e.h) λ_ _=>go 1 ?_;refine Qd J J (Pt (dF (Hg J J) (vB n)))<|go 6 ?_;refine Ah J J J J J (Ol 4 (Zac ‹_› ‹_› ‹_›) J J J K3 call193 Zs J e.h) (λ_ _=>?_);refine Ah J J J J J (Ol 4 (Zac ‹_› ‹_› ‹_›) J J J K3 call193 Zs J e.h) (λ_ _=>?_);refine go 2 ⟨by have:=Zl0 (Zmn a b c) (Zmn a b d);exact⟨O,O⟩,?_⟩;refine r0g (Pt (dT (Hg J J) (vB (aJ o)))) J J J J J<|go 6 ?_;refine Ah J J J J J (Ol 4 (Zac ‹_› ‹_› ‹_›) J J J K3 call193 Zs J e.h) (λ_ _=>?_);refine Ah J J J J J (Ol 4 (Zac ‹_› ‹_› ‹_›) J J J K3 call193 Zs J e.h) (λ_ _=>?_);refine go 8 ⟨by have:=Zl0 (Zmn c d a) (Zmn c d b);exact⟨O,O⟩,?_⟩;exact Yx k () results119 (by unfold Zha;unfold mtB;rw [f,h,m,n,aJ o];rfl) aA Za
 .refine Ph (λ_=>False) [(0,0),(1,0),(2,0),(3,1),(4,0),(5,0),(6,0),(7,0),(8,1),(9,0),(10,0),(11,0),(12,0),(13,0),(14,1),(15,0),(16,0),(17,0),(18,0),(19,0),(20,1),(21,0),(22,0),(23,0),(24,0),(25,0),(27,0),(28,0),(29,0),(26,1),(30,1),(31,0),(32,0),(33,0),(34,2),(35,2),(36,2),(38,2),(39,2),(40,2),(37,2),(41,2),(42,2),(43,2),(44,0),(45,0),(46,3)]<|go 3<|Qn (Zx 4 [] (Qe a b c g i j)) λ_ _=>?_;refine Qd J J (Pt (dF (Hg J J) (vB f)))<|go 3 ?_;refine Ah J J J J J (Ol 4 (Qe a b d g i l) J J J K3 call189 Zs J e.h) λ_ _=>go 1 ?_;refine Qd J J (Pt (dF (Hg J J) (vB h)))<|go 3 ?_;refine Ah J J J J J (Ol 4 (Qe c d a j l g) J J J K3 call189 Zs J e.h) λ_ _=>go 1 ?_;refine Qd J J (Pt (dF (Hg J J) (vB m)))<|go 3 ?_;refine Ah J J J J J (Ol 4 (Qe c d b j l i) J J J K3 call189 Zs J e.h) λ_ _=>go 1 ?_;refine Qd J J (Pt (dF (Hg J J) (vB n)))<|go 6 ?_;refine Ah J J J J J (Ol 4 (Zac ‹_› ‹_› ‹_›) J J J K3 call193 Zs J e.h) (λ_ _=>?_);refine Ah J J J J J (Ol 4 (Zac ‹_› ‹_› ‹_›) J J J K3 call193 Zs J e.h) (λ_ _=>?_);refine go 2 ⟨by have:=Zl0 (Zmn a b c) (Zmn a b d);exact⟨O,O⟩,?_⟩;refine r0g (Pt (dF (Hg J J) (vB (aK o)))) J J J J J<|go 16 ?_;exact Yx k () results119 (by unfold Zha;unfold mtB;rw [f,h,m,n,aK o];rfl) aA Za
theorem Zvy(a:Yj):Xk prog 188 #[Xa a] [] (.bool (!Lq a)):=by refine Zd func188 ntmps188 λe d c b=>go 2 ?_;refine Zz (Zu 1) λbq _=>go 6 ?_;refine cl 1 [] (Zd9 a.1 a.2.1 a.2.2) λ_ _=>go 5 ?_;exact Yx b () results188 J aA Za
theorem ix_pts(l:List Yj):Cal prog 217 #[v,.func (.func 188) #[] #[]] [Yt 3 Xa v l] false (G:=Int) (λr=>decide (r>=0)=!l.all Lq) (λr=> .int .i64 r) (λr=>[]):=by
 refine Zd func217 ntmps217 λo n m d=>?_;refine Li (Ez (i:=1) J Zk) λf=>go 14 ?_;refine lp (G:=Nat) [0,1,7] [0,1] (λi=>[(8,.int .i64 (i:Int))]) (λi=>[]) (λi=>(i<=l.length)/\(∀j,j<i->Lq (l.getD j Yr)=true)) (λi=>l.length-i) 0 ⟨O1,λj h=>absurd h (cK j)⟩ K1 aA ?_;rintro i ⟨hi,g⟩;refine go 6<|Zc J (λc=>?_) (λc=>?_)
 .refine go 15 ?_;refine dt (Yn 1 i J J J J Zk Fr Ad J)<|dt (Og 1 Yr J J J Zk pPt)<|tt (Cq 1 [] [_] [] (Zvy (l.getD i Yr)) J J J J K1 call188 Zs J m.h) λ_ _=>go 2 ?_;refine Yq J (λa=>?_) (λa=>?_)
  .have b:=a;refine go 12 ?_;exact Yx d (i:Int) results217 J (by rw [al_f O (Xw b)];exact aJ (lM i)) Za
  .have b:=a;refine go 7 ⟨O,?_⟩;exact Ym (i+1) ⟨O1,λj k=>by rcases aC.1 k with e|e;exact g j e;subst e;exact Ql b⟩ O1 K1 aA
 .obtain rfl:i=l.length:=O;refine go 11 ?_;exact Yx d (-1) results217 J (by rw [al_t g];rfl) Za
theorem cf_pts(l:List Yj):Xk prog 150 #[v,.func (.func 188) #[] #[]] [Yt 3 Xa v l] (.bool (!l.all Lq)):=by refine Zd func150 ntmps150 λf e c b=>go 9 ?_;refine cl 1 [1] (ix_pts l) λd a=>go 5 ?_;exact Yx b () results150 (by rw [a]) aA Za
theorem Zng(l:List Yj):Xk prog 116 #[v] [Yt 3 Xa v l] (.bool (Kz l)):=by
 refine Zd func116 ntmps116 λw0 sc hw f=>?_;refine Li (Ez (i:=1) J Zk) λl2=>go 18 ?_;refine Zj 15 J (λk1=>?_) (λk1=>?_)
 .refine go 17 ?_;exact Yx f () results116 (vB (by first|exact Ydp O|exact Ydo (Xw g0))) aA Za
 .refine go 4<|Zj 19 J (λh3=>?_) (λh3=>?_)
  .refine go 13 ?_;exact Yx f () results116 (vB (by first|exact Ydp O|exact Ydo (Xw g0))) aA Za
  .refine go 1 ?_;refine Lh 1 [1] (cf_pts l) λ_ _=>go 3<|Yq J (λe6=>?_) (λe6=>?_)
   .have g0:=e6;refine go 7 ?_;exact Yx f () results116 (vB (by first|exact Ydp O|exact Ydo (Xw g0))) aA Za
   .have g0:=e6;have c:l.all Lq=true:=by first|exact Ql g0|(exfalso;omega)
    have k0:3<=l.length/\l.length<=64:=O;refine go 10 ?_;refine lp (G:=Nat) [0,3,23] [0,1] (λi=>[(24,.int .i64 (i:Int))]) (λi=>[]) (λi=>(i<=l.length)/\(∀j,j<i->Zj6 l j=true)) (λi=>l.length-i) 0 ⟨O1,λj h=>absurd h (cK j)⟩ K1 aA ?_;rintro i ⟨hi,hr⟩;refine go 6<|Zc J (λj6=>?_) (λj6=>?_)
    .have b:i<l.length:=O;refine go 11<|Ni [1] [14] ?_;refine Zv 4 [(0,0),(1,0),(2,0),(3,0),(4,0),(5,0),(6,0),(7,0),(8,0),(9,0),(10,0)]<|go 2 ?_;refine Qd J J (Fu (Yn 1 i J J J J Zk Fr Ad J) K1)<|Qd J J (Fu (Og 1 Yr J J J Zk pPt) K1)<|go 4 ⟨O,?_⟩;refine Qd J J (Fu (Yw ( .int .i64 (((i+1)%l.length:Nat):Int)) (Kk J J J) (aL (Value.int .i64) (Nh i l.length))) K1)<|Qd J J (Fu (Yn 1 ((i+1)%l.length) J J J J Zk Fr Ad J (Yc b)) K1)<|Qd J J (Fu (Og 1 Yr J J J Zk pPt (Yc b)) K1)<|go 1 ?_;refine Np 3 11 12 ?_ ?_
     .refine Iz (Nx 2) λbq ho=>?_;refine Zv 0 [(12,1),(13,1),(14,3)]<|Qn (Nx 3) λk4 m5=>go 3 ?_;refine Ys<|go 10<|Zj 43 J (λk2=>?_) (λk2=>?_)
      .refine go 8<|Zc J (λe7=>?_) (λe7=>?_)
       .have g0:=e7;refine go 12 ?_;exact Yx f () results116 (vB (Qc b (row_o (by unfold okE;simp_all)))) aA Za
       .have g0:=e7;refine go 10 ⟨O,?_⟩;have c3:okE l i=true:=by unfold okE;simp_all
        refine lp (G:=Nat) [0,3,4,5,6,23,24,44,45,46,47,48] [0,1,2,3] (λk=>[(7,.int .i64 (k:Int))]) (λk=>[]) (λk=>(i+1<=k/\k<=l.length)/\(∀m,i<m->m<k->Zf9 l i m=true)) (λk=>l.length-k) (i+1) ⟨⟨O,O⟩,λm o p=>absurd o O⟩ K1 aA ?_;rintro k ⟨hk,n⟩;refine go 8<|Zc J (λj7=>?_) (λj7=>?_)
        .have a:k<l.length:=O;refine go 5<|Ni [1] [14] ?_;refine Zv 4 [(0,0),(1,0),(2,0),(3,0),(4,0),(5,0),(6,0),(7,0),(8,0),(9,0),(10,0)]<|go 2 ?_;refine Qd J J (Fu (Yn 1 k J J J J Zk Fr Ad J) K1)<|Qd J J (Fu (Og 1 Yr J J J Zk pPt) K1)<|go 4 ⟨O,?_⟩;refine Qd J J (Fu (Yw ( .int .i64 (((k+1)%l.length:Nat):Int)) (Kk J J J) (aL (Value.int .i64) (Nh k l.length))) K1)<|Qd J J (Fu (Yn 1 ((k+1)%l.length) J J J J Zk Fr Ad J (Yc a)) K1)<|Qd J J (Fu (Og 1 Yr J J J Zk pPt (Yc a)) K1)<|go 1 ?_;refine Np 3 11 12 ?_ ?_
         .refine Iz (Nx 4) λk5 m6=>?_;refine Zv 0 [(12,1),(13,1),(14,3)]<|Qn (Nx 5) λk6 m7=>go 3 ?_;refine Ys<|go 15 ⟨O,?_⟩;refine Zj 79 J (λk3=>?_) (λk3=>?_)
          .refine go 6<|Zc J (λj8=>?_) (λj8=>?_)
           .refine go 4 ?_;refine cl 5 [] (Qe (l.getD i Yr) (l.getD ((i+1)%l.length) Yr) (l.getD ((k+1)%l.length) Yr) (Zf c b) (Zf c (Yc b)) (Zf c (Yc a))) λ_ _=>go 2<|Xx 88 J (λi3=>?_) (λi3=>?_)
            .have g:=i3;refine go 3 ?_;refine Lh 5 [] (Qe (l.getD k Yr) (l.getD ((k+1)%l.length) Yr) (l.getD i Yr) (Zf c a) (Zf c (Yc a)) (Zf c b)) λ_ _=>go 12<|Yq J (λh0=>?_) (λh0=>?_)
             .have e:=h0;refine go 15 ?_;exact Yx f () results116 (vB (Qc b (Qg k O a (by rw [Hd ⟨O,O⟩,g,Xw e];rfl)))) aA Za
             .have e:=h0;refine go 8 ⟨O,?_⟩;exact Ym (k+1) ⟨⟨O,O⟩,λm o p=>by rcases aC.1 p with d|d;exact n m o d;subst d;exact(by rw [Hd ⟨O,O⟩,g,Ql e];rfl)⟩ O1 K1 aA
            .have g:=i3;refine go 32 ?_;exact Yx f () results116 (vB (Qc b (Qg k O a (by rw [Hd ⟨O,O⟩,g];rfl)))) aA Za
           .refine go 5 ⟨O,?_⟩;refine dt (Yw ( .int .i64 (((k+1)%l.length:Nat):Int)) (Kk J J J) (aL (Value.int .i64) (Nh k l.length)))<|go 5 ?_;refine Zc J (λj9=>?_) (λj9=>?_)
            .refine go 4 ?_;refine cl 5 [] (Qe (l.getD i Yr) (l.getD ((i+1)%l.length) Yr) (l.getD k Yr) (Zf c b) (Zf c (Yc b)) (Zf c a)) λ_ _=>go 2<|Xx 107 J (λi4=>?_) (λi4=>?_)
             .have g:=i4;refine go 3 ?_;refine Lh 5 [] (Qe (l.getD k Yr) (l.getD ((k+1)%l.length) Yr) (l.getD ((i+1)%l.length) Yr) (Zf c a) (Zf c (Yc a)) (Zf c (Yc b))) λ_ _=>go 12<|Yq J (λb5=>?_) (λb5=>?_)
              .have e:=b5;refine go 15 ?_;exact Yx f () results116 (vB (Qc b (Qg k O a (by rw [Pm O O5,g,Xw e];rfl)))) aA Za
              .have e:=b5;refine go 8 ⟨O,?_⟩;exact Ym (k+1) ⟨⟨O,O⟩,λm o p=>by rcases aC.1 p with d|d;exact n m o d;subst d;exact(by rw [Pm O O5,g,Ql e];rfl)⟩ O1 K1 aA
             .have g:=i4;refine go 32 ?_;exact Yx f () results116 (vB (Qc b (Qg k O a (by rw [Pm O O5,g];rfl)))) aA Za
            .refine go 5 ?_;refine cl 5 [] (Lv (l.getD i Yr) (l.getD ((i+1)%l.length) Yr) (l.getD k Yr) (l.getD ((k+1)%l.length) Yr) (Zf c b) (Zf c (Yc b)) (Zf c a) (Zf c (Yc a))) λ_ _=>go 11<|Yq J (λb6=>?_) (λb6=>?_)
             .have e:=b6;refine go 15 ?_;exact Yx f () results116 (vB (Qc b (Qg k O a (by rw [Lc O O5];exact Xw e)))) aA Za
             .have e:=b6;refine go 8 ⟨O,?_⟩;exact Ym (k+1) ⟨⟨O,O⟩,λm o p=>by rcases aC.1 p with d|d;exact n m o d;subst d;exact(by rw [Lc O O5];exact Ql e)⟩ O1 K1 aA
          .refine go 12 ⟨O,?_⟩;refine dt (Yw ( .int .i64 (((k+1)%l.length:Nat):Int)) (Kk J J J) (aL (Value.int .i64) (Nh k l.length)))<|go 5 ?_;refine Zc J (λf8=>?_) (λf8=>?_)
           .refine go 4 ?_;refine cl 5 [] (Qe (l.getD i Yr) (l.getD ((i+1)%l.length) Yr) (l.getD k Yr) (Zf c b) (Zf c (Yc b)) (Zf c a)) λ_ _=>go 2<|Xx 107 J (λd1=>?_) (λd1=>?_)
            .have g:=d1;refine go 3 ?_;refine Lh 5 [] (Qe (l.getD k Yr) (l.getD ((k+1)%l.length) Yr) (l.getD ((i+1)%l.length) Yr) (Zf c a) (Zf c (Yc a)) (Zf c (Yc b))) λ_ _=>go 12<|Yq J (λb7=>?_) (λb7=>?_)
             .have e:=b7;refine go 15 ?_;exact Yx f () results116 (vB (Qc b (Qg k O a (by rw [Pm O O5,g,Xw e];rfl)))) aA Za
             .have e:=b7;refine go 8 ⟨O,?_⟩;exact Ym (k+1) ⟨⟨O,O⟩,λm o p=>by rcases aC.1 p with d|d;exact n m o d;subst d;exact(by rw [Pm O O5,g,Ql e];rfl)⟩ O1 K1 aA
            .have g:=d1;refine go 32 ?_;exact Yx f () results116 (vB (Qc b (Qg k O a (by rw [Pm O O5,g];rfl)))) aA Za
           .refine go 5 ?_;refine cl 5 [] (Lv (l.getD i Yr) (l.getD ((i+1)%l.length) Yr) (l.getD k Yr) (l.getD ((k+1)%l.length) Yr) (Zf c b) (Zf c (Yc b)) (Zf c a) (Zf c (Yc a))) λ_ _=>go 11<|Yq J (λb8=>?_) (λb8=>?_)
            .have e:=b8;refine go 15 ?_;exact Yx f () results116 (vB (Qc b (Qg k O a (by rw [Lc O O5];exact Xw e)))) aA Za
            .have e:=b8;refine go 8 ⟨O,?_⟩;exact Ym (k+1) ⟨⟨O,O⟩,λm o p=>by rcases aC.1 p with d|d;exact n m o d;subst d;exact(by rw [Lc O O5];exact Ql e)⟩ O1 K1 aA
         .refine Iz (Nx 6) λk7 m8=>?_;refine Zv 0 [(11,1),(13,1),(14,3)]<|Qn (Nx 7) λk8 m9=>go 3 ?_;refine Ys<|go 15 ⟨O,?_⟩;refine Zj 79 J (λh5=>?_) (λh5=>?_)
          .refine go 6<|Zc J (λf1=>?_) (λf1=>?_)
           .refine go 4 ?_;refine cl 7 [] (Qe (l.getD i Yr) (l.getD ((i+1)%l.length) Yr) (l.getD ((k+1)%l.length) Yr) (Zf c b) (Zf c (Yc b)) (Zf c (Yc a))) λ_ _=>go 2<|Xx 88 J (λc4=>?_) (λc4=>?_)
            .have g:=c4;refine go 3 ?_;refine Lh 7 [] (Qe (l.getD k Yr) (l.getD ((k+1)%l.length) Yr) (l.getD i Yr) (Zf c a) (Zf c (Yc a)) (Zf c b)) λ_ _=>go 12<|Yq J (λb9=>?_) (λb9=>?_)
             .have e:=b9;refine go 15 ?_;exact Yx f () results116 (vB (Qc b (Qg k O a (by rw [Hd ⟨O,O⟩,g,Xw e];rfl)))) aA Za
             .have e:=b9;refine go 8 ⟨O,?_⟩;exact Ym (k+1) ⟨⟨O,O⟩,λm o p=>by rcases aC.1 p with d|d;exact n m o d;subst d;exact(by rw [Hd ⟨O,O⟩,g,Ql e];rfl)⟩ O1 K1 aA
            .have g:=c4;refine go 32 ?_;exact Yx f () results116 (vB (Qc b (Qg k O a (by rw [Hd ⟨O,O⟩,g];rfl)))) aA Za
           .refine go 5 ⟨O,?_⟩;refine dt (Yw ( .int .i64 (((k+1)%l.length:Nat):Int)) (Kk J J J) (aL (Value.int .i64) (Nh k l.length)))<|go 5 ?_;refine Zc J (λf9=>?_) (λf9=>?_)
            .refine go 4 ?_;refine cl 7 [] (Qe (l.getD i Yr) (l.getD ((i+1)%l.length) Yr) (l.getD k Yr) (Zf c b) (Zf c (Yc b)) (Zf c a)) λ_ _=>go 2<|Xx 107 J (λd2=>?_) (λd2=>?_)
             .have g:=d2;refine go 3 ?_;refine Lh 7 [] (Qe (l.getD k Yr) (l.getD ((k+1)%l.length) Yr) (l.getD ((i+1)%l.length) Yr) (Zf c a) (Zf c (Yc a)) (Zf c (Yc b))) λ_ _=>go 12<|Yq J (λc0=>?_) (λc0=>?_)
              .have e:=c0;refine go 15 ?_;exact Yx f () results116 (vB (Qc b (Qg k O a (by rw [Pm O O5,g,Xw e];rfl)))) aA Za
              .have e:=c0;refine go 8 ⟨O,?_⟩;exact Ym (k+1) ⟨⟨O,O⟩,λm o p=>by rcases aC.1 p with d|d;exact n m o d;subst d;exact(by rw [Pm O O5,g,Ql e];rfl)⟩ O1 K1 aA
             .have g:=d2;refine go 32 ?_;exact Yx f () results116 (vB (Qc b (Qg k O a (by rw [Pm O O5,g];rfl)))) aA Za
            .refine go 5 ?_;refine cl 7 [] (Lv (l.getD i Yr) (l.getD ((i+1)%l.length) Yr) (l.getD k Yr) (l.getD ((k+1)%l.length) Yr) (Zf c b) (Zf c (Yc b)) (Zf c a) (Zf c (Yc a))) λ_ _=>go 11<|Yq J (λc1=>?_) (λc1=>?_)
             .have e:=c1;refine go 15 ?_;exact Yx f () results116 (vB (Qc b (Qg k O a (by rw [Lc O O5];exact Xw e)))) aA Za
             .have e:=c1;refine go 8 ⟨O,?_⟩;exact Ym (k+1) ⟨⟨O,O⟩,λm o p=>by rcases aC.1 p with d|d;exact n m o d;subst d;exact(by rw [Lc O O5];exact Ql e)⟩ O1 K1 aA
          .refine go 12 ⟨O,?_⟩;refine dt (Yw ( .int .i64 (((k+1)%l.length:Nat):Int)) (Kk J J J) (aL (Value.int .i64) (Nh k l.length)))<|go 5 ?_;refine Zc J (λg3=>?_) (λg3=>?_)
           .refine go 4 ?_;refine cl 7 [] (Qe (l.getD i Yr) (l.getD ((i+1)%l.length) Yr) (l.getD k Yr) (Zf c b) (Zf c (Yc b)) (Zf c a)) λ_ _=>go 2<|Xx 107 J (λd3=>?_) (λd3=>?_)
            .have g:=d3;refine go 3 ?_;refine Lh 7 [] (Qe (l.getD k Yr) (l.getD ((k+1)%l.length) Yr) (l.getD ((i+1)%l.length) Yr) (Zf c a) (Zf c (Yc a)) (Zf c (Yc b))) λ_ _=>go 12<|Yq J (λc2=>?_) (λc2=>?_)
             .have e:=c2;refine go 15 ?_;exact Yx f () results116 (vB (Qc b (Qg k O a (by rw [Pm O O5,g,Xw e];rfl)))) aA Za
             .have e:=c2;refine go 8 ⟨O,?_⟩;exact Ym (k+1) ⟨⟨O,O⟩,λm o p=>by rcases aC.1 p with d|d;exact n m o d;subst d;exact(by rw [Pm O O5,g,Ql e];rfl)⟩ O1 K1 aA
            .have g:=d3;refine go 32 ?_;exact Yx f () results116 (vB (Qc b (Qg k O a (by rw [Pm O O5,g];rfl)))) aA Za
           .refine go 5 ?_;refine cl 7 [] (Lv (l.getD i Yr) (l.getD ((i+1)%l.length) Yr) (l.getD k Yr) (l.getD ((k+1)%l.length) Yr) (Zf c b) (Zf c (Yc b)) (Zf c a) (Zf c (Yc a))) λ_ _=>go 11<|Yq J (λq=>?_) (λq=>?_)
            .have e:=q;refine go 15 ?_;exact Yx f () results116 (vB (Qc b (Qg k O a (by rw [Lc O O5];exact Xw e)))) aA Za
            .have e:=q;refine go 8 ⟨O,?_⟩;exact Ym (k+1) ⟨⟨O,O⟩,λm o p=>by rcases aC.1 p with d|d;exact n m o d;subst d;exact(by rw [Lc O O5];exact Ql e)⟩ O1 K1 aA
        .have a:l.length<=k:=O;refine go 10 ⟨O,?_⟩;exact Ym (i+1) ⟨O1,λj hj=>by rcases aC.1 hj with d|d;exact hr j d;subst d;exact Zxw a c3 n⟩ O1 K1 aA
      .refine go 19 ⟨O,?_⟩;have c3:okE l i=true:=by unfold okE;simp_all
       refine lp (G:=Nat) [0,3,4,5,6,23,24,44,45,46,47,48] [0,1,2,3] (λk=>[(7,.int .i64 (k:Int))]) (λk=>[]) (λk=>(i+1<=k/\k<=l.length)/\(∀m,i<m->m<k->Zf9 l i m=true)) (λk=>l.length-k) (i+1) ⟨⟨O,O⟩,λm o p=>absurd o O⟩ K1 aA ?_;rintro k ⟨hk,n⟩;refine go 8<|Zc J (λe8=>?_) (λe8=>?_)
       .have a:k<l.length:=O;refine go 5<|Ni [1] [14] ?_;refine Zv 4 [(0,0),(1,0),(2,0),(3,0),(4,0),(5,0),(6,0),(7,0),(8,0),(9,0),(10,0)]<|go 2 ?_;refine Qd J J (Fu (Yn 1 k J J J J Zk Fr Ad J) K1)<|Qd J J (Fu (Og 1 Yr J J J Zk pPt) K1)<|go 4 ⟨O,?_⟩;refine Qd J J (Fu (Yw ( .int .i64 (((k+1)%l.length:Nat):Int)) (Kk J J J) (aL (Value.int .i64) (Nh k l.length))) K1)<|Qd J J (Fu (Yn 1 ((k+1)%l.length) J J J J Zk Fr Ad J (Yc a)) K1)<|Qd J J (Fu (Og 1 Yr J J J Zk pPt (Yc a)) K1)<|go 1 ?_;refine Np 3 11 12 ?_ ?_
        .refine Iz (Nx 8) λk9 n0=>?_;refine Zv 0 [(12,1),(13,1),(14,3)]<|Qn (Nx 9) λl0 n1=>go 3 ?_;refine Ys<|go 15 ⟨O,?_⟩;refine Zj 79 J (λh6=>?_) (λh6=>?_)
         .refine go 6<|Zc J (λf2=>?_) (λf2=>?_)
          .refine go 4 ?_;refine cl 9 [] (Qe (l.getD i Yr) (l.getD ((i+1)%l.length) Yr) (l.getD ((k+1)%l.length) Yr) (Zf c b) (Zf c (Yc b)) (Zf c (Yc a))) λ_ _=>go 2<|Xx 88 J (λc5=>?_) (λc5=>?_)
           .have g:=c5;refine go 3 ?_;refine Lh 9 [] (Qe (l.getD k Yr) (l.getD ((k+1)%l.length) Yr) (l.getD i Yr) (Zf c a) (Zf c (Yc a)) (Zf c b)) λ_ _=>go 12<|Yq J (λr=>?_) (λr=>?_)
            .have e:=r;refine go 15 ?_;exact Yx f () results116 (vB (Qc b (Qg k O a (by rw [Hd ⟨O,O⟩,g,Xw e];rfl)))) aA Za
            .have e:=r;refine go 8 ⟨O,?_⟩;exact Ym (k+1) ⟨⟨O,O⟩,λm o p=>by rcases aC.1 p with d|d;exact n m o d;subst d;exact(by rw [Hd ⟨O,O⟩,g,Ql e];rfl)⟩ O1 K1 aA
           .have g:=c5;refine go 32 ?_;exact Yx f () results116 (vB (Qc b (Qg k O a (by rw [Hd ⟨O,O⟩,g];rfl)))) aA Za
          .refine go 5 ⟨O,?_⟩;refine dt (Yw ( .int .i64 (((k+1)%l.length:Nat):Int)) (Kk J J J) (aL (Value.int .i64) (Nh k l.length)))<|go 5 ?_;refine Zc J (λg4=>?_) (λg4=>?_)
           .refine go 4 ?_;refine cl 9 [] (Qe (l.getD i Yr) (l.getD ((i+1)%l.length) Yr) (l.getD k Yr) (Zf c b) (Zf c (Yc b)) (Zf c a)) λ_ _=>go 2<|Xx 107 J (λd4=>?_) (λd4=>?_)
            .have g:=d4;refine go 3 ?_;refine Lh 9 [] (Qe (l.getD k Yr) (l.getD ((k+1)%l.length) Yr) (l.getD ((i+1)%l.length) Yr) (Zf c a) (Zf c (Yc a)) (Zf c (Yc b))) λ_ _=>go 12<|Yq J (λs=>?_) (λs=>?_)
             .have e:=s;refine go 15 ?_;exact Yx f () results116 (vB (Qc b (Qg k O a (by rw [Pm O O5,g,Xw e];rfl)))) aA Za
             .have e:=s;refine go 8 ⟨O,?_⟩;exact Ym (k+1) ⟨⟨O,O⟩,λm o p=>by rcases aC.1 p with d|d;exact n m o d;subst d;exact(by rw [Pm O O5,g,Ql e];rfl)⟩ O1 K1 aA
            .have g:=d4;refine go 32 ?_;exact Yx f () results116 (vB (Qc b (Qg k O a (by rw [Pm O O5,g];rfl)))) aA Za
           .refine go 5 ?_;refine cl 9 [] (Lv (l.getD i Yr) (l.getD ((i+1)%l.length) Yr) (l.getD k Yr) (l.getD ((k+1)%l.length) Yr) (Zf c b) (Zf c (Yc b)) (Zf c a) (Zf c (Yc a))) λ_ _=>go 11<|Yq J (λt=>?_) (λt=>?_)
            .have e:=t;refine go 15 ?_;exact Yx f () results116 (vB (Qc b (Qg k O a (by rw [Lc O O5];exact Xw e)))) aA Za
            .have e:=t;refine go 8 ⟨O,?_⟩;exact Ym (k+1) ⟨⟨O,O⟩,λm o p=>by rcases aC.1 p with d|d;exact n m o d;subst d;exact(by rw [Lc O O5];exact Ql e)⟩ O1 K1 aA
         .refine go 12 ⟨O,?_⟩;refine dt (Yw ( .int .i64 (((k+1)%l.length:Nat):Int)) (Kk J J J) (aL (Value.int .i64) (Nh k l.length)))<|go 5 ?_;refine Zc J (λg5=>?_) (λg5=>?_)
          .refine go 4 ?_;refine cl 9 [] (Qe (l.getD i Yr) (l.getD ((i+1)%l.length) Yr) (l.getD k Yr) (Zf c b) (Zf c (Yc b)) (Zf c a)) λ_ _=>go 2<|Xx 107 J (λd5=>?_) (λd5=>?_)
           .have g:=d5;refine go 3 ?_;refine Lh 9 [] (Qe (l.getD k Yr) (l.getD ((k+1)%l.length) Yr) (l.getD ((i+1)%l.length) Yr) (Zf c a) (Zf c (Yc a)) (Zf c (Yc b))) λ_ _=>go 12<|Yq J (λu=>?_) (λu=>?_)
            .have e:=u;refine go 15 ?_;exact Yx f () results116 (vB (Qc b (Qg k O a (by rw [Pm O O5,g,Xw e];rfl)))) aA Za
            .have e:=u;refine go 8 ⟨O,?_⟩;exact Ym (k+1) ⟨⟨O,O⟩,λm o p=>by rcases aC.1 p with d|d;exact n m o d;subst d;exact(by rw [Pm O O5,g,Ql e];rfl)⟩ O1 K1 aA
           .have g:=d5;refine go 32 ?_;exact Yx f () results116 (vB (Qc b (Qg k O a (by rw [Pm O O5,g];rfl)))) aA Za
          .refine go 5 ?_;refine cl 9 [] (Lv (l.getD i Yr) (l.getD ((i+1)%l.length) Yr) (l.getD k Yr) (l.getD ((k+1)%l.length) Yr) (Zf c b) (Zf c (Yc b)) (Zf c a) (Zf c (Yc a))) λ_ _=>go 11<|Yq J (λw=>?_) (λw=>?_)
           .have e:=w;refine go 15 ?_;exact Yx f () results116 (vB (Qc b (Qg k O a (by rw [Lc O O5];exact Xw e)))) aA Za
           .have e:=w;refine go 8 ⟨O,?_⟩;exact Ym (k+1) ⟨⟨O,O⟩,λm o p=>by rcases aC.1 p with d|d;exact n m o d;subst d;exact(by rw [Lc O O5];exact Ql e)⟩ O1 K1 aA
        .refine Iz (Nx 10) λl1 n2=>?_;refine Zv 0 [(11,1),(13,1),(14,3)]<|Qn (Nx 11) λi5 l4=>go 3 ?_;refine Ys<|go 15 ⟨O,?_⟩;refine Zj 79 J (λh7=>?_) (λh7=>?_)
         .refine go 6<|Zc J (λf3=>?_) (λf3=>?_)
          .refine go 4 ?_;refine cl 11 [] (Qe (l.getD i Yr) (l.getD ((i+1)%l.length) Yr) (l.getD ((k+1)%l.length) Yr) (Zf c b) (Zf c (Yc b)) (Zf c (Yc a))) λ_ _=>go 2<|Xx 88 J (λc6=>?_) (λc6=>?_)
           .have g:=c6;refine go 3 ?_;refine Lh 11 [] (Qe (l.getD k Yr) (l.getD ((k+1)%l.length) Yr) (l.getD i Yr) (Zf c a) (Zf c (Yc a)) (Zf c b)) λ_ _=>go 12<|Yq J (λx=>?_) (λx=>?_)
            .have e:=x;refine go 15 ?_;exact Yx f () results116 (vB (Qc b (Qg k O a (by rw [Hd ⟨O,O⟩,g,Xw e];rfl)))) aA Za
            .have e:=x;refine go 8 ⟨O,?_⟩;exact Ym (k+1) ⟨⟨O,O⟩,λm o p=>by rcases aC.1 p with d|d;exact n m o d;subst d;exact(by rw [Hd ⟨O,O⟩,g,Ql e];rfl)⟩ O1 K1 aA
           .have g:=c6;refine go 32 ?_;exact Yx f () results116 (vB (Qc b (Qg k O a (by rw [Hd ⟨O,O⟩,g];rfl)))) aA Za
          .refine go 5 ⟨O,?_⟩;refine dt (Yw ( .int .i64 (((k+1)%l.length:Nat):Int)) (Kk J J J) (aL (Value.int .i64) (Nh k l.length)))<|go 5 ?_;refine Zc J (λg6=>?_) (λg6=>?_)
           .refine go 4 ?_;refine cl 11 [] (Qe (l.getD i Yr) (l.getD ((i+1)%l.length) Yr) (l.getD k Yr) (Zf c b) (Zf c (Yc b)) (Zf c a)) λ_ _=>go 2<|Xx 107 J (λd6=>?_) (λd6=>?_)
            .have g:=d6;refine go 3 ?_;refine Lh 11 [] (Qe (l.getD k Yr) (l.getD ((k+1)%l.length) Yr) (l.getD ((i+1)%l.length) Yr) (Zf c a) (Zf c (Yc a)) (Zf c (Yc b))) λ_ _=>go 12<|Yq J (λy=>?_) (λy=>?_)
             .have e:=y;refine go 15 ?_;exact Yx f () results116 (vB (Qc b (Qg k O a (by rw [Pm O O5,g,Xw e];rfl)))) aA Za
             .have e:=y;refine go 8 ⟨O,?_⟩;exact Ym (k+1) ⟨⟨O,O⟩,λm o p=>by rcases aC.1 p with d|d;exact n m o d;subst d;exact(by rw [Pm O O5,g,Ql e];rfl)⟩ O1 K1 aA
            .have g:=d6;refine go 32 ?_;exact Yx f () results116 (vB (Qc b (Qg k O a (by rw [Pm O O5,g];rfl)))) aA Za
           .refine go 5 ?_;refine cl 11 [] (Lv (l.getD i Yr) (l.getD ((i+1)%l.length) Yr) (l.getD k Yr) (l.getD ((k+1)%l.length) Yr) (Zf c b) (Zf c (Yc b)) (Zf c a) (Zf c (Yc a))) λ_ _=>go 11<|Yq J (λz=>?_) (λz=>?_)
            .have e:=z;refine go 15 ?_;exact Yx f () results116 (vB (Qc b (Qg k O a (by rw [Lc O O5];exact Xw e)))) aA Za
            .have e:=z;refine go 8 ⟨O,?_⟩;exact Ym (k+1) ⟨⟨O,O⟩,λm o p=>by rcases aC.1 p with d|d;exact n m o d;subst d;exact(by rw [Lc O O5];exact Ql e)⟩ O1 K1 aA
         .refine go 12 ⟨O,?_⟩;refine dt (Yw ( .int .i64 (((k+1)%l.length:Nat):Int)) (Kk J J J) (aL (Value.int .i64) (Nh k l.length)))<|go 5 ?_;refine Zc J (λg7=>?_) (λg7=>?_)
          .refine go 4 ?_;refine cl 11 [] (Qe (l.getD i Yr) (l.getD ((i+1)%l.length) Yr) (l.getD k Yr) (Zf c b) (Zf c (Yc b)) (Zf c a)) λ_ _=>go 2<|Xx 107 J (λd7=>?_) (λd7=>?_)
           .have g:=d7;refine go 3 ?_;refine Lh 11 [] (Qe (l.getD k Yr) (l.getD ((k+1)%l.length) Yr) (l.getD ((i+1)%l.length) Yr) (Zf c a) (Zf c (Yc a)) (Zf c (Yc b))) λ_ _=>go 12<|Yq J (λB=>?_) (λB=>?_)
            .have e:=B;refine go 15 ?_;exact Yx f () results116 (vB (Qc b (Qg k O a (by rw [Pm O O5,g,Xw e];rfl)))) aA Za
            .have e:=B;refine go 8 ⟨O,?_⟩;exact Ym (k+1) ⟨⟨O,O⟩,λm o p=>by rcases aC.1 p with d|d;exact n m o d;subst d;exact(by rw [Pm O O5,g,Ql e];rfl)⟩ O1 K1 aA
           .have g:=d7;refine go 32 ?_;exact Yx f () results116 (vB (Qc b (Qg k O a (by rw [Pm O O5,g];rfl)))) aA Za
          .refine go 5 ?_;refine cl 11 [] (Lv (l.getD i Yr) (l.getD ((i+1)%l.length) Yr) (l.getD k Yr) (l.getD ((k+1)%l.length) Yr) (Zf c b) (Zf c (Yc b)) (Zf c a) (Zf c (Yc a))) λ_ _=>go 11<|Yq J (λD=>?_) (λD=>?_)
           .have e:=D;refine go 15 ?_;exact Yx f () results116 (vB (Qc b (Qg k O a (by rw [Lc O O5];exact Xw e)))) aA Za
           .have e:=D;refine go 8 ⟨O,?_⟩;exact Ym (k+1) ⟨⟨O,O⟩,λm o p=>by rcases aC.1 p with d|d;exact n m o d;subst d;exact(by rw [Lc O O5];exact Ql e)⟩ O1 K1 aA
       .have a:l.length<=k:=O;refine go 10 ⟨O,?_⟩;exact Ym (i+1) ⟨O1,λj hj=>by rcases aC.1 hj with d|d;exact hr j d;subst d;exact Zxw a c3 n⟩ O1 K1 aA
     .refine Iz (Nx 12) λi6 l5=>?_;refine Zv 0 [(11,1),(13,1),(14,3)]<|Qn (Nx 13) λi7 l6=>go 3 ?_;refine Ys<|go 10<|Zj 43 J (λh4=>?_) (λh4=>?_)
      .refine go 8<|Zc J (λb4=>?_) (λb4=>?_)
       .have g0:=b4;refine go 12 ?_;exact Yx f () results116 (vB (Qc b (row_o (by unfold okE;simp_all)))) aA Za
       .have g0:=b4;refine go 10 ⟨O,?_⟩;have c3:okE l i=true:=by unfold okE;simp_all
        refine lp (G:=Nat) [0,3,4,5,6,23,24,44,45,46,47,48] [0,1,12,13] (λk=>[(7,.int .i64 (k:Int))]) (λk=>[]) (λk=>(i+1<=k/\k<=l.length)/\(∀m,i<m->m<k->Zf9 l i m=true)) (λk=>l.length-k) (i+1) ⟨⟨O,O⟩,λm o p=>absurd o O⟩ K1 aA ?_;rintro k ⟨hk,n⟩;refine go 8<|Zc J (λe9=>?_) (λe9=>?_)
        .have a:k<l.length:=O;refine go 5<|Ni [1] [14] ?_;refine Zv 4 [(0,0),(1,0),(2,0),(3,0),(4,0),(5,0),(6,0),(7,0),(8,0),(9,0),(10,0)]<|go 2 ?_;refine Qd J J (Fu (Yn 1 k J J J J Zk Fr Ad J) K1)<|Qd J J (Fu (Og 1 Yr J J J Zk pPt) K1)<|go 4 ⟨O,?_⟩;refine Qd J J (Fu (Yw ( .int .i64 (((k+1)%l.length:Nat):Int)) (Kk J J J) (aL (Value.int .i64) (Nh k l.length))) K1)<|Qd J J (Fu (Yn 1 ((k+1)%l.length) J J J J Zk Fr Ad J (Yc a)) K1)<|Qd J J (Fu (Og 1 Yr J J J Zk pPt (Yc a)) K1)<|go 1 ?_;refine Np 3 11 12 ?_ ?_
         .refine Iz (Nx 14) λi8 l7=>?_;refine Zv 0 [(12,1),(13,1),(14,3)]<|Qn (Nx 15) λi9 l8=>go 3 ?_;refine Ys<|go 15 ⟨O,?_⟩;refine Zj 79 J (λh8=>?_) (λh8=>?_)
          .refine go 6<|Zc J (λf4=>?_) (λf4=>?_)
           .refine go 4 ?_;refine cl 15 [] (Qe (l.getD i Yr) (l.getD ((i+1)%l.length) Yr) (l.getD ((k+1)%l.length) Yr) (Zf c b) (Zf c (Yc b)) (Zf c (Yc a))) λ_ _=>go 2<|Xx 88 J (λc7=>?_) (λc7=>?_)
            .have g:=c7;refine go 3 ?_;refine Lh 15 [] (Qe (l.getD k Yr) (l.getD ((k+1)%l.length) Yr) (l.getD i Yr) (Zf c a) (Zf c (Yc a)) (Zf c b)) λ_ _=>go 12<|Yq J (λF=>?_) (λF=>?_)
             .have e:=F;refine go 15 ?_;exact Yx f () results116 (vB (Qc b (Qg k O a (by rw [Hd ⟨O,O⟩,g,Xw e];rfl)))) aA Za
             .have e:=F;refine go 8 ⟨O,?_⟩;exact Ym (k+1) ⟨⟨O,O⟩,λm o p=>by rcases aC.1 p with d|d;exact n m o d;subst d;exact(by rw [Hd ⟨O,O⟩,g,Ql e];rfl)⟩ O1 K1 aA
            .have g:=c7;refine go 32 ?_;exact Yx f () results116 (vB (Qc b (Qg k O a (by rw [Hd ⟨O,O⟩,g];rfl)))) aA Za
           .refine go 5 ⟨O,?_⟩;refine dt (Yw ( .int .i64 (((k+1)%l.length:Nat):Int)) (Kk J J J) (aL (Value.int .i64) (Nh k l.length)))<|go 5 ?_;refine Zc J (λg9=>?_) (λg9=>?_)
            .refine go 4 ?_;refine cl 15 [] (Qe (l.getD i Yr) (l.getD ((i+1)%l.length) Yr) (l.getD k Yr) (Zf c b) (Zf c (Yc b)) (Zf c a)) λ_ _=>go 2<|Xx 107 J (λd8=>?_) (λd8=>?_)
             .have g:=d8;refine go 3 ?_;refine Lh 15 [] (Qe (l.getD k Yr) (l.getD ((k+1)%l.length) Yr) (l.getD ((i+1)%l.length) Yr) (Zf c a) (Zf c (Yc a)) (Zf c (Yc b))) λ_ _=>go 12<|Yq J (λH=>?_) (λH=>?_)
              .have e:=H;refine go 15 ?_;exact Yx f () results116 (vB (Qc b (Qg k O a (by rw [Pm O O5,g,Xw e];rfl)))) aA Za
              .have e:=H;refine go 8 ⟨O,?_⟩;exact Ym (k+1) ⟨⟨O,O⟩,λm o p=>by rcases aC.1 p with d|d;exact n m o d;subst d;exact(by rw [Pm O O5,g,Ql e];rfl)⟩ O1 K1 aA
             .have g:=d8;refine go 32 ?_;exact Yx f () results116 (vB (Qc b (Qg k O a (by rw [Pm O O5,g];rfl)))) aA Za
            .refine go 5 ?_;refine cl 15 [] (Lv (l.getD i Yr) (l.getD ((i+1)%l.length) Yr) (l.getD k Yr) (l.getD ((k+1)%l.length) Yr) (Zf c b) (Zf c (Yc b)) (Zf c a) (Zf c (Yc a))) λ_ _=>go 11<|Yq J (λI=>?_) (λI=>?_)
             .have e:=I;refine go 15 ?_;exact Yx f () results116 (vB (Qc b (Qg k O a (by rw [Lc O O5];exact Xw e)))) aA Za
             .have e:=I;refine go 8 ⟨O,?_⟩;exact Ym (k+1) ⟨⟨O,O⟩,λm o p=>by rcases aC.1 p with d|d;exact n m o d;subst d;exact(by rw [Lc O O5];exact Ql e)⟩ O1 K1 aA
          .refine go 12 ⟨O,?_⟩;refine dt (Yw ( .int .i64 (((k+1)%l.length:Nat):Int)) (Kk J J J) (aL (Value.int .i64) (Nh k l.length)))<|go 5 ?_;refine Zc J (λd9=>?_) (λd9=>?_)
           .refine go 4 ?_;refine cl 15 [] (Qe (l.getD i Yr) (l.getD ((i+1)%l.length) Yr) (l.getD k Yr) (Zf c b) (Zf c (Yc b)) (Zf c a)) λ_ _=>go 2<|Xx 107 J (λa7=>?_) (λa7=>?_)
            .have g:=a7;refine go 3 ?_;refine Lh 15 [] (Qe (l.getD k Yr) (l.getD ((k+1)%l.length) Yr) (l.getD ((i+1)%l.length) Yr) (Zf c a) (Zf c (Yc a)) (Zf c (Yc b))) λ_ _=>go 12<|Yq J (λM=>?_) (λM=>?_)
             .have e:=M;refine go 15 ?_;exact Yx f () results116 (vB (Qc b (Qg k O a (by rw [Pm O O5,g,Xw e];rfl)))) aA Za
             .have e:=M;refine go 8 ⟨O,?_⟩;exact Ym (k+1) ⟨⟨O,O⟩,λm o p=>by rcases aC.1 p with d|d;exact n m o d;subst d;exact(by rw [Pm O O5,g,Ql e];rfl)⟩ O1 K1 aA
            .have g:=a7;refine go 32 ?_;exact Yx f () results116 (vB (Qc b (Qg k O a (by rw [Pm O O5,g];rfl)))) aA Za
           .refine go 5 ?_;refine cl 15 [] (Lv (l.getD i Yr) (l.getD ((i+1)%l.length) Yr) (l.getD k Yr) (l.getD ((k+1)%l.length) Yr) (Zf c b) (Zf c (Yc b)) (Zf c a) (Zf c (Yc a))) λ_ _=>go 11<|Yq J (λN=>?_) (λN=>?_)
            .have e:=N;refine go 15 ?_;exact Yx f () results116 (vB (Qc b (Qg k O a (by rw [Lc O O5];exact Xw e)))) aA Za
            .have e:=N;refine go 8 ⟨O,?_⟩;exact Ym (k+1) ⟨⟨O,O⟩,λm o p=>by rcases aC.1 p with d|d;exact n m o d;subst d;exact(by rw [Lc O O5];exact Ql e)⟩ O1 K1 aA
         .refine Iz (Nx 16) λj0 l9=>?_;refine Zv 0 [(11,1),(13,1),(14,3)]<|Qn (Nx 17) λj1 m0=>go 3 ?_;refine Ys<|go 15 ⟨O,?_⟩;refine Zj 79 J (λi0=>?_) (λi0=>?_)
          .refine go 6<|Zc J (λf5=>?_) (λf5=>?_)
           .refine go 4 ?_;refine cl 17 [] (Qe (l.getD i Yr) (l.getD ((i+1)%l.length) Yr) (l.getD ((k+1)%l.length) Yr) (Zf c b) (Zf c (Yc b)) (Zf c (Yc a))) λ_ _=>go 2<|Xx 88 J (λc8=>?_) (λc8=>?_)
            .have g:=c8;refine go 3 ?_;refine Lh 17 [] (Qe (l.getD k Yr) (l.getD ((k+1)%l.length) Yr) (l.getD i Yr) (Zf c a) (Zf c (Yc a)) (Zf c b)) λ_ _=>go 12<|Yq J (λP=>?_) (λP=>?_)
             .have e:=P;refine go 15 ?_;exact Yx f () results116 (vB (Qc b (Qg k O a (by rw [Hd ⟨O,O⟩,g,Xw e];rfl)))) aA Za
             .have e:=P;refine go 8 ⟨O,?_⟩;exact Ym (k+1) ⟨⟨O,O⟩,λm o p=>by rcases aC.1 p with d|d;exact n m o d;subst d;exact(by rw [Hd ⟨O,O⟩,g,Ql e];rfl)⟩ O1 K1 aA
            .have g:=c8;refine go 32 ?_;exact Yx f () results116 (vB (Qc b (Qg k O a (by rw [Hd ⟨O,O⟩,g];rfl)))) aA Za
           .refine go 5 ⟨O,?_⟩;refine dt (Yw ( .int .i64 (((k+1)%l.length:Nat):Int)) (Kk J J J) (aL (Value.int .i64) (Nh k l.length)))<|go 5 ?_;refine Zc J (λe0=>?_) (λe0=>?_)
            .refine go 4 ?_;refine cl 17 [] (Qe (l.getD i Yr) (l.getD ((i+1)%l.length) Yr) (l.getD k Yr) (Zf c b) (Zf c (Yc b)) (Zf c a)) λ_ _=>go 2<|Xx 107 J (λa8=>?_) (λa8=>?_)
             .have g:=a8;refine go 3 ?_;refine Lh 17 [] (Qe (l.getD k Yr) (l.getD ((k+1)%l.length) Yr) (l.getD ((i+1)%l.length) Yr) (Zf c a) (Zf c (Yc a)) (Zf c (Yc b))) λ_ _=>go 12<|Yq J (λQ=>?_) (λQ=>?_)
              .have e:=Q;refine go 15 ?_;exact Yx f () results116 (vB (Qc b (Qg k O a (by rw [Pm O O5,g,Xw e];rfl)))) aA Za
              .have e:=Q;refine go 8 ⟨O,?_⟩;exact Ym (k+1) ⟨⟨O,O⟩,λm o p=>by rcases aC.1 p with d|d;exact n m o d;subst d;exact(by rw [Pm O O5,g,Ql e];rfl)⟩ O1 K1 aA
             .have g:=a8;refine go 32 ?_;exact Yx f () results116 (vB (Qc b (Qg k O a (by rw [Pm O O5,g];rfl)))) aA Za
            .refine go 5 ?_;refine cl 17 [] (Lv (l.getD i Yr) (l.getD ((i+1)%l.length) Yr) (l.getD k Yr) (l.getD ((k+1)%l.length) Yr) (Zf c b) (Zf c (Yc b)) (Zf c a) (Zf c (Yc a))) λ_ _=>go 11<|Yq J (λR=>?_) (λR=>?_)
             .have e:=R;refine go 15 ?_;exact Yx f () results116 (vB (Qc b (Qg k O a (by rw [Lc O O5];exact Xw e)))) aA Za
             .have e:=R;refine go 8 ⟨O,?_⟩;exact Ym (k+1) ⟨⟨O,O⟩,λm o p=>by rcases aC.1 p with d|d;exact n m o d;subst d;exact(by rw [Lc O O5];exact Ql e)⟩ O1 K1 aA
          .refine go 12 ⟨O,?_⟩;refine dt (Yw ( .int .i64 (((k+1)%l.length:Nat):Int)) (Kk J J J) (aL (Value.int .i64) (Nh k l.length)))<|go 5 ?_;refine Zc J (λe1=>?_) (λe1=>?_)
           .refine go 4 ?_;refine cl 17 [] (Qe (l.getD i Yr) (l.getD ((i+1)%l.length) Yr) (l.getD k Yr) (Zf c b) (Zf c (Yc b)) (Zf c a)) λ_ _=>go 2<|Xx 107 J (λa9=>?_) (λa9=>?_)
            .have g:=a9;refine go 3 ?_;refine Lh 17 [] (Qe (l.getD k Yr) (l.getD ((k+1)%l.length) Yr) (l.getD ((i+1)%l.length) Yr) (Zf c a) (Zf c (Yc a)) (Zf c (Yc b))) λ_ _=>go 12<|Yq J (λS=>?_) (λS=>?_)
             .have e:=S;refine go 15 ?_;exact Yx f () results116 (vB (Qc b (Qg k O a (by rw [Pm O O5,g,Xw e];rfl)))) aA Za
             .have e:=S;refine go 8 ⟨O,?_⟩;exact Ym (k+1) ⟨⟨O,O⟩,λm o p=>by rcases aC.1 p with d|d;exact n m o d;subst d;exact(by rw [Pm O O5,g,Ql e];rfl)⟩ O1 K1 aA
            .have g:=a9;refine go 32 ?_;exact Yx f () results116 (vB (Qc b (Qg k O a (by rw [Pm O O5,g];rfl)))) aA Za
           .refine go 5 ?_;refine cl 17 [] (Lv (l.getD i Yr) (l.getD ((i+1)%l.length) Yr) (l.getD k Yr) (l.getD ((k+1)%l.length) Yr) (Zf c b) (Zf c (Yc b)) (Zf c a) (Zf c (Yc a))) λ_ _=>go 11<|Yq J (λV=>?_) (λV=>?_)
            .have e:=V;refine go 15 ?_;exact Yx f () results116 (vB (Qc b (Qg k O a (by rw [Lc O O5];exact Xw e)))) aA Za
            .have e:=V;refine go 8 ⟨O,?_⟩;exact Ym (k+1) ⟨⟨O,O⟩,λm o p=>by rcases aC.1 p with d|d;exact n m o d;subst d;exact(by rw [Lc O O5];exact Ql e)⟩ O1 K1 aA
        .have a:l.length<=k:=O;refine go 10 ⟨O,?_⟩;exact Ym (i+1) ⟨O1,λj hj=>by rcases aC.1 hj with d|d;exact hr j d;subst d;exact Zxw a c3 n⟩ O1 K1 aA
      .refine go 19 ⟨O,?_⟩;have c3:okE l i=true:=by unfold okE;simp_all
       refine lp (G:=Nat) [0,3,4,5,6,23,24,44,45,46,47,48] [0,1,12,13] (λk=>[(7,.int .i64 (k:Int))]) (λk=>[]) (λk=>(i+1<=k/\k<=l.length)/\(∀m,i<m->m<k->Zf9 l i m=true)) (λk=>l.length-k) (i+1) ⟨⟨O,O⟩,λm o p=>absurd o O⟩ K1 aA ?_;rintro k ⟨hk,n⟩;refine go 8<|Zc J (λf0=>?_) (λf0=>?_)
       .have a:k<l.length:=O;refine go 5<|Ni [1] [14] ?_;refine Zv 4 [(0,0),(1,0),(2,0),(3,0),(4,0),(5,0),(6,0),(7,0),(8,0),(9,0),(10,0)]<|go 2 ?_;refine Qd J J (Fu (Yn 1 k J J J J Zk Fr Ad J) K1)<|Qd J J (Fu (Og 1 Yr J J J Zk pPt) K1)<|go 4 ⟨O,?_⟩;refine Qd J J (Fu (Yw ( .int .i64 (((k+1)%l.length:Nat):Int)) (Kk J J J) (aL (Value.int .i64) (Nh k l.length))) K1)<|Qd J J (Fu (Yn 1 ((k+1)%l.length) J J J J Zk Fr Ad J (Yc a)) K1)<|Qd J J (Fu (Og 1 Yr J J J Zk pPt (Yc a)) K1)<|go 1 ?_;refine Np 3 11 12 ?_ ?_
        .refine Iz (Nx 18) λj2 m1=>?_;refine Zv 0 [(12,1),(13,1),(14,3)]<|Qn (Nx 19) λj3 m2=>go 3 ?_;refine Ys<|go 15 ⟨O,?_⟩;refine Zj 79 J (λi1=>?_) (λi1=>?_)
         .refine go 6<|Zc J (λf6=>?_) (λf6=>?_)
          .refine go 4 ?_;refine cl 19 [] (Qe (l.getD i Yr) (l.getD ((i+1)%l.length) Yr) (l.getD ((k+1)%l.length) Yr) (Zf c b) (Zf c (Yc b)) (Zf c (Yc a))) λ_ _=>go 2<|Xx 88 J (λc9=>?_) (λc9=>?_)
           .have g:=c9;refine go 3 ?_;refine Lh 19 [] (Qe (l.getD k Yr) (l.getD ((k+1)%l.length) Yr) (l.getD i Yr) (Zf c a) (Zf c (Yc a)) (Zf c b)) λ_ _=>go 12<|Yq J (λW=>?_) (λW=>?_)
            .have e:=W;refine go 15 ?_;exact Yx f () results116 (vB (Qc b (Qg k O a (by rw [Hd ⟨O,O⟩,g,Xw e];rfl)))) aA Za
            .have e:=W;refine go 8 ⟨O,?_⟩;exact Ym (k+1) ⟨⟨O,O⟩,λm o p=>by rcases aC.1 p with d|d;exact n m o d;subst d;exact(by rw [Hd ⟨O,O⟩,g,Ql e];rfl)⟩ O1 K1 aA
           .have g:=c9;refine go 32 ?_;exact Yx f () results116 (vB (Qc b (Qg k O a (by rw [Hd ⟨O,O⟩,g];rfl)))) aA Za
          .refine go 5 ⟨O,?_⟩;refine dt (Yw ( .int .i64 (((k+1)%l.length:Nat):Int)) (Kk J J J) (aL (Value.int .i64) (Nh k l.length)))<|go 5 ?_;refine Zc J (λe2=>?_) (λe2=>?_)
           .refine go 4 ?_;refine cl 19 [] (Qe (l.getD i Yr) (l.getD ((i+1)%l.length) Yr) (l.getD k Yr) (Zf c b) (Zf c (Yc b)) (Zf c a)) λ_ _=>go 2<|Xx 107 J (λb0=>?_) (λb0=>?_)
            .have g:=b0;refine go 3 ?_;refine Lh 19 [] (Qe (l.getD k Yr) (l.getD ((k+1)%l.length) Yr) (l.getD ((i+1)%l.length) Yr) (Zf c a) (Zf c (Yc a)) (Zf c (Yc b))) λ_ _=>go 12<|Yq J (λY=>?_) (λY=>?_)
             .have e:=Y;refine go 15 ?_;exact Yx f () results116 (vB (Qc b (Qg k O a (by rw [Pm O O5,g,Xw e];rfl)))) aA Za
             .have e:=Y;refine go 8 ⟨O,?_⟩;exact Ym (k+1) ⟨⟨O,O⟩,λm o p=>by rcases aC.1 p with d|d;exact n m o d;subst d;exact(by rw [Pm O O5,g,Ql e];rfl)⟩ O1 K1 aA
            .have g:=b0;refine go 32 ?_;exact Yx f () results116 (vB (Qc b (Qg k O a (by rw [Pm O O5,g];rfl)))) aA Za
           .refine go 5 ?_;refine cl 19 [] (Lv (l.getD i Yr) (l.getD ((i+1)%l.length) Yr) (l.getD k Yr) (l.getD ((k+1)%l.length) Yr) (Zf c b) (Zf c (Yc b)) (Zf c a) (Zf c (Yc a))) λ_ _=>go 11<|Yq J (λZ=>?_) (λZ=>?_)
            .have e:=Z;refine go 15 ?_;exact Yx f () results116 (vB (Qc b (Qg k O a (by rw [Lc O O5];exact Xw e)))) aA Za
            .have e:=Z;refine go 8 ⟨O,?_⟩;exact Ym (k+1) ⟨⟨O,O⟩,λm o p=>by rcases aC.1 p with d|d;exact n m o d;subst d;exact(by rw [Lc O O5];exact Ql e)⟩ O1 K1 aA
         .refine go 12 ⟨O,?_⟩;refine dt (Yw ( .int .i64 (((k+1)%l.length:Nat):Int)) (Kk J J J) (aL (Value.int .i64) (Nh k l.length)))<|go 5 ?_;refine Zc J (λe3=>?_) (λe3=>?_)
          .refine go 4 ?_;refine cl 19 [] (Qe (l.getD i Yr) (l.getD ((i+1)%l.length) Yr) (l.getD k Yr) (Zf c b) (Zf c (Yc b)) (Zf c a)) λ_ _=>go 2<|Xx 107 J (λb1=>?_) (λb1=>?_)
           .have g:=b1;refine go 3 ?_;refine Lh 19 [] (Qe (l.getD k Yr) (l.getD ((k+1)%l.length) Yr) (l.getD ((i+1)%l.length) Yr) (Zf c a) (Zf c (Yc a)) (Zf c (Yc b))) λ_ _=>go 12<|Yq J (λa0=>?_) (λa0=>?_)
            .have e:=a0;refine go 15 ?_;exact Yx f () results116 (vB (Qc b (Qg k O a (by rw [Pm O O5,g,Xw e];rfl)))) aA Za
            .have e:=a0;refine go 8 ⟨O,?_⟩;exact Ym (k+1) ⟨⟨O,O⟩,λm o p=>by rcases aC.1 p with d|d;exact n m o d;subst d;exact(by rw [Pm O O5,g,Ql e];rfl)⟩ O1 K1 aA
           .have g:=b1;refine go 32 ?_;exact Yx f () results116 (vB (Qc b (Qg k O a (by rw [Pm O O5,g];rfl)))) aA Za
          .refine go 5 ?_;refine cl 19 [] (Lv (l.getD i Yr) (l.getD ((i+1)%l.length) Yr) (l.getD k Yr) (l.getD ((k+1)%l.length) Yr) (Zf c b) (Zf c (Yc b)) (Zf c a) (Zf c (Yc a))) λ_ _=>go 11<|Yq J (λa1=>?_) (λa1=>?_)
           .have e:=a1;refine go 15 ?_;exact Yx f () results116 (vB (Qc b (Qg k O a (by rw [Lc O O5];exact Xw e)))) aA Za
           .have e:=a1;refine go 8 ⟨O,?_⟩;exact Ym (k+1) ⟨⟨O,O⟩,λm o p=>by rcases aC.1 p with d|d;exact n m o d;subst d;exact(by rw [Lc O O5];exact Ql e)⟩ O1 K1 aA
        .refine Iz (Nx 20) λj4 m3=>?_;refine Zv 0 [(11,1),(13,1),(14,3)]<|Qn (Nx 21) λj5 m4=>go 3 ?_;refine Ys<|go 15 ⟨O,?_⟩;refine Zj 79 J (λi2=>?_) (λi2=>?_)
         .refine go 6<|Zc J (λf7=>?_) (λf7=>?_)
          .refine go 4 ?_;refine cl 21 [] (Qe (l.getD i Yr) (l.getD ((i+1)%l.length) Yr) (l.getD ((k+1)%l.length) Yr) (Zf c b) (Zf c (Yc b)) (Zf c (Yc a))) λ_ _=>go 2<|Xx 88 J (λd0=>?_) (λd0=>?_)
           .have g:=d0;refine go 3 ?_;refine Lh 21 [] (Qe (l.getD k Yr) (l.getD ((k+1)%l.length) Yr) (l.getD i Yr) (Zf c a) (Zf c (Yc a)) (Zf c b)) λ_ _=>go 12<|Yq J (λa2=>?_) (λa2=>?_)
            .have e:=a2;refine go 15 ?_;exact Yx f () results116 (vB (Qc b (Qg k O a (by rw [Hd ⟨O,O⟩,g,Xw e];rfl)))) aA Za
            .have e:=a2;refine go 8 ⟨O,?_⟩;exact Ym (k+1) ⟨⟨O,O⟩,λm o p=>by rcases aC.1 p with d|d;exact n m o d;subst d;exact(by rw [Hd ⟨O,O⟩,g,Ql e];rfl)⟩ O1 K1 aA
           .have g:=d0;refine go 32 ?_;exact Yx f () results116 (vB (Qc b (Qg k O a (by rw [Hd ⟨O,O⟩,g];rfl)))) aA Za
          .refine go 5 ⟨O,?_⟩;refine dt (Yw ( .int .i64 (((k+1)%l.length:Nat):Int)) (Kk J J J) (aL (Value.int .i64) (Nh k l.length)))<|go 5 ?_;refine Zc J (λe4=>?_) (λe4=>?_)
           .refine go 4 ?_;refine cl 21 [] (Qe (l.getD i Yr) (l.getD ((i+1)%l.length) Yr) (l.getD k Yr) (Zf c b) (Zf c (Yc b)) (Zf c a)) λ_ _=>go 2<|Xx 107 J (λb2=>?_) (λb2=>?_)
            .have g:=b2;refine go 3 ?_;refine Lh 21 [] (Qe (l.getD k Yr) (l.getD ((k+1)%l.length) Yr) (l.getD ((i+1)%l.length) Yr) (Zf c a) (Zf c (Yc a)) (Zf c (Yc b))) λ_ _=>go 12<|Yq J (λa3=>?_) (λa3=>?_)
             .have e:=a3;refine go 15 ?_;exact Yx f () results116 (vB (Qc b (Qg k O a (by rw [Pm O O5,g,Xw e];rfl)))) aA Za
             .have e:=a3;refine go 8 ⟨O,?_⟩;exact Ym (k+1) ⟨⟨O,O⟩,λm o p=>by rcases aC.1 p with d|d;exact n m o d;subst d;exact(by rw [Pm O O5,g,Ql e];rfl)⟩ O1 K1 aA
            .have g:=b2;refine go 32 ?_;exact Yx f () results116 (vB (Qc b (Qg k O a (by rw [Pm O O5,g];rfl)))) aA Za
           .refine go 5 ?_;refine cl 21 [] (Lv (l.getD i Yr) (l.getD ((i+1)%l.length) Yr) (l.getD k Yr) (l.getD ((k+1)%l.length) Yr) (Zf c b) (Zf c (Yc b)) (Zf c a) (Zf c (Yc a))) λ_ _=>go 11<|Yq J (λa4=>?_) (λa4=>?_)
            .have e:=a4;refine go 15 ?_;exact Yx f () results116 (vB (Qc b (Qg k O a (by rw [Lc O O5];exact Xw e)))) aA Za
            .have e:=a4;refine go 8 ⟨O,?_⟩;exact Ym (k+1) ⟨⟨O,O⟩,λm o p=>by rcases aC.1 p with d|d;exact n m o d;subst d;exact(by rw [Lc O O5];exact Ql e)⟩ O1 K1 aA
         .refine go 12 ⟨O,?_⟩;refine dt (Yw ( .int .i64 (((k+1)%l.length:Nat):Int)) (Kk J J J) (aL (Value.int .i64) (Nh k l.length)))<|go 5 ?_;refine Zc J (λe5=>?_) (λe5=>?_)
          .refine go 4 ?_;refine cl 21 [] (Qe (l.getD i Yr) (l.getD ((i+1)%l.length) Yr) (l.getD k Yr) (Zf c b) (Zf c (Yc b)) (Zf c a)) λ_ _=>go 2<|Xx 107 J (λb3=>?_) (λb3=>?_)
           .have g:=b3;refine go 3 ?_;refine Lh 21 [] (Qe (l.getD k Yr) (l.getD ((k+1)%l.length) Yr) (l.getD ((i+1)%l.length) Yr) (Zf c a) (Zf c (Yc a)) (Zf c (Yc b))) λ_ _=>go 12<|Yq J (λa5=>?_) (λa5=>?_)
            .have e:=a5;refine go 15 ?_;exact Yx f () results116 (vB (Qc b (Qg k O a (by rw [Pm O O5,g,Xw e];rfl)))) aA Za
            .have e:=a5;refine go 8 ⟨O,?_⟩;exact Ym (k+1) ⟨⟨O,O⟩,λm o p=>by rcases aC.1 p with d|d;exact n m o d;subst d;exact(by rw [Pm O O5,g,Ql e];rfl)⟩ O1 K1 aA
           .have g:=b3;refine go 32 ?_;exact Yx f () results116 (vB (Qc b (Qg k O a (by rw [Pm O O5,g];rfl)))) aA Za
          .refine go 5 ?_;refine cl 21 [] (Lv (l.getD i Yr) (l.getD ((i+1)%l.length) Yr) (l.getD k Yr) (l.getD ((k+1)%l.length) Yr) (Zf c b) (Zf c (Yc b)) (Zf c a) (Zf c (Yc a))) λ_ _=>go 11<|Yq J (λa6=>?_) (λa6=>?_)
           .have e:=a6;refine go 15 ?_;exact Yx f () results116 (vB (Qc b (Qg k O a (by rw [Lc O O5];exact Xw e)))) aA Za
           .have e:=a6;refine go 8 ⟨O,?_⟩;exact Ym (k+1) ⟨⟨O,O⟩,λm o p=>by rcases aC.1 p with d|d;exact n m o d;subst d;exact(by rw [Lc O O5];exact Ql e)⟩ O1 K1 aA
       .have a:l.length<=k:=O;refine go 10 ⟨O,?_⟩;exact Ym (i+1) ⟨O1,λj hj=>by rcases aC.1 hj with d|d;exact hr j d;subst d;exact Zxw a c3 n⟩ O1 K1 aA
    .have b:l.length<=i:=O;refine go 11 ?_;exact Yx f () results116 (vB (smp_t b k0 c hr)) aA Za
end Go.Sky

