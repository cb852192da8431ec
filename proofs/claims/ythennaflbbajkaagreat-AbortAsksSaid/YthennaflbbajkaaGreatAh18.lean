/- Rules, arithmetic and contracts: part 19. No conditions but those that each theorem names. -/
import Derived.Test.YthennaflbbajkaaGreatAh17
set_option linter.all false
set_option maxHeartbeats 4000000
namespace Go.Sky
open Go.Proofs.Tryz
open Go.Proofs
set_option synthInstance.maxHeartbeats 0
set_option synthInstance.maxSize 100000
set_option maxRecDepth 20000
set_option linter.unusedSimpArgs false
variable{v:Value}
theorem Yk2{n:Int}:Xa prog 183 #[.int .i64 n] [] (.int .i64 (sgI n)):=by
 refine Zd func183 ntmps183 λf e d a=>go 14 ?_;refine Zb J (λb=>?_) (λb=>?_)
 .refine go 8 ?_;exact Yq a () results183 (by rw [sgI_n O]) aA Za
 .refine go 7<|Zb J (λc=>?_) (λc=>?_)
  .refine go 8 ?_;exact Yq a () results183 (by rw [sgI_p O]) aA Za
  .refine go 9 ?_;exact Yq a () results183 (by rw [sgI_0 O O]) aA Za
theorem Zzv{n:Int}:Xa prog 104 #[.int .i64 n] [] (.int .i64 (sgI n)):=by
 refine Zd func104 ntmps104 λf e d a=>go 14 ?_;refine Zb J (λb=>?_) (λb=>?_)
 .refine go 8 ?_;exact Yq a () results104 (by rw [sgI_n O]) aA Za
 .refine go 7<|Zb J (λc=>?_) (λc=>?_)
  .refine go 8 ?_;exact Yq a () results104 (by rw [sgI_p O]) aA Za
  .refine go 9 ?_;exact Yq a () results104 (by rw [sgI_0 O O]) aA Za
theorem Yk1(a b c:Zz)(g:Li a=true)(h:Li b=true)(i:Li c=true):Xa prog 141 #[Ya a,Ya b,Ya c] [] (.tuple #[.int .i64 (trn a b c),.int .i64 0]):=by refine Zd func141 ntmps141 λx w s d=>?_;obtain⟨j,k,l⟩:=Ak g;obtain⟨m,n,o⟩:=Ak h;obtain⟨p,q,r⟩:=Ak i;have t:=Zs0 (b.1-a.1) (c.2.1-a.2.1) ⟨O,O⟩ ⟨O,O⟩;have u:=Zs0 (b.2.1-a.2.1) (c.1-a.1) ⟨O,O⟩ ⟨O,O⟩;refine go 2<|Zu (Zo 1) λbq _=>Zu (Zo 2) λe _=>Zu (Zo 3) λf _=>go 8 ?_;refine cl 3 [] Ydn λ_ _=>?_;refine dt (dF (Zw J J) (aF (λb=>Value.bool (!b)) (Ydp g)))<|go 2 ?_;refine Ns 3 [] Ydn λ_ _=>?_;refine Kh (dF (Zw J J) (aF (λb=>Value.bool (!b)) (Ydp h))) J J<|go 3 ?_;refine Ns 3 [] Ydn λ_ _=>?_;refine Kh (dF (Zw J J) (aF (λb=>Value.bool (!b)) (Ydp i))) J J<|go 31 ⟨O,O,O,O,O,O,O,?_⟩;refine cl 3 [] Yk2 λ_ _=>go 5 ?_;exact Oe d () results141 J aA Za
theorem Zag{a b c:Zz}(g:Li a=true)(h:Li b=true)(i:Li c=true):Xa prog 102 #[Ya a,Ya b,Ya c] [] (.int .i64 (trn a b c)):=by refine Zd func102 ntmps102 λl k j d=>go 2 ?_;refine Zu (Zo 1) λbq _=>Zu (Zo 2) λe _=>Zu (Zo 3) λf _=>go 8 ?_;refine cl 3 [] (Yk1 a b c g h i) λ_ _=>go 14 ?_;exact Yq d () results102 J aA Za
theorem Qg(a b c:Zz)(k:Li a=true)(l:Li b=true)(m:Li c=true):Xa prog 98 #[Ya a,Ya b,Ya c] [] (.bool (Al a b c)):=by
 refine Zd func98 ntmps98 λp o n d=>go 2 ?_;refine Zu (Zo 1) λbq _=>Zu (Zo 2) λi _=>Zu (Zo 3) λj _=>go 8 ?_;refine cl 3 [] (Zag (a:=a) (b:=b) (c:=c) k l m) λ_ _=>go 2<|Zg 12 J (λh=>?_) (λh=>?_)
 .refine go 6 ?_;refine Kh (Zej J J J) J J<|go 3 ?_;refine Zg 22 J (λe=>?_) (λe=>?_)
  .refine go 6 ?_;refine Kh (Ci J J J) J J<|go 3 ?_;refine Zg 32 J (λf=>?_) (λf=>?_)
   .refine go 6 ?_;refine Kh (Zej J J J) J J<|go 3 ?_;refine Zg 42 J (λg=>?_) (λg=>?_)
    .refine go 6 ?_;refine Kh (Ci J J J) J J<|go 6 ?_;exact Yq d () results98 (by first|exact vB (Yf0 ‹_› ‹_› ‹_› ‹_›)|exact vB (Yf1 ‹_›)|exact vB (Yf2 ‹_›)|exact vB (Yf3 ‹_›)|exact vB (Yf4 ‹_›)) aA Za
    .refine go 13 ?_;exact Yq d () results98 (by first|exact vB (Yf0 ‹_› ‹_› ‹_› ‹_›)|exact vB (Yf1 ‹_›)|exact vB (Yf2 ‹_›)|exact vB (Yf3 ‹_›)|exact vB (Yf4 ‹_›)) aA Za
   .refine go 23 ?_;exact Yq d () results98 (by first|exact vB (Yf0 ‹_› ‹_› ‹_› ‹_›)|exact vB (Yf1 ‹_›)|exact vB (Yf2 ‹_›)|exact vB (Yf3 ‹_›)|exact vB (Yf4 ‹_›)) aA Za
  .refine go 33 ?_;exact Yq d () results98 (by first|exact vB (Yf0 ‹_› ‹_› ‹_› ‹_›)|exact vB (Yf1 ‹_›)|exact vB (Yf2 ‹_›)|exact vB (Yf3 ‹_›)|exact vB (Yf4 ‹_›)) aA Za
 .refine go 43 ?_;exact Yq d () results98 (by first|exact vB (Yf0 ‹_› ‹_› ‹_› ‹_›)|exact vB (Yf1 ‹_›)|exact vB (Yf2 ‹_›)|exact vB (Yf3 ‹_›)|exact vB (Yf4 ‹_›)) aA Za
theorem Lt(a b c d:Zz)(g:Li a=true)(i:Li b=true)(j:Li c=true)(l:Li d=true):Xa prog 56 #[Ya a,Ya b,Ya c,Ya d] [] (.bool (Zhh a b c d)):=by
 refine Zd func56 ntmps56 λt s e k=>go 2 ?_;refine Zu (Zo 1) λbq _=>Zu (Zo 2) λp _=>Zu (Zo 3) λq _=>Zu (Zo 4) λr _=>go 4 ?_;rcases Yb5 a b c d with f|⟨f,h⟩|⟨f,h,m⟩|⟨f,h,m,n⟩|⟨f,h,m,n,o⟩|⟨f,h,m,n,o⟩
 .refine Pd (λ_=>False) [(0,0),(1,0),(2,0),(3,1),(4,0),(5,2),(6,2),(7,2),(8,2),(9,0),(10,0),(11,2),(12,2),(13,2),(14,2),(15,0),(16,0),(17,2),(18,2),(19,2),(20,2),(21,0),(22,0),(23,2),(24,2),(25,2),(27,2),(28,2),(29,2),(26,2),(30,2),(31,2),(32,2),(33,2),(34,2),(35,2),(36,2),(38,2),(39,2),(40,2),(37,2),(41,2),(42,2),(43,2),(44,2),(45,0),(46,3)]<|go 3<|Ql (Zx 4 [] (Qg a b c g i j)) λ_ _=>?_;refine Qd J J (Pt (dT (Hk J J) (vB f)))<|go 29 ?_;refine Bi J J J J J<|Bi J J J J J<|Bi J J J J J<|Bi J J J J J<|Bi J J J J J<|Bi J J J J J<|Bi J J J J J<|Bi J J J J J<|Bi J J J J J<|Bi J J J J J<|go 6 ?_;exact Yq k () results56 (by unfold Zhh;rw [f];rfl) aA Za
 .refine Pd (λ_=>False) [(0,0),(1,0),(2,0),(3,1),(4,0),(5,0),(6,0),(7,0),(8,1),(9,0),(10,0),(11,2),(12,2),(13,2),(14,2),(15,0),(16,0),(17,2),(18,2),(19,2),(20,2),(21,0),(22,0),(23,2),(24,2),(25,2),(27,2),(28,2),(29,2),(26,2),(30,2),(31,2),(32,2),(33,2),(34,2),(35,2),(36,2),(38,2),(39,2),(40,2),(37,2),(41,2),(42,2),(43,2),(44,2),(45,0),(46,3)]<|go 3<|Ql (Zx 4 [] (Qg a b c g i j)) λ_ _=>?_;refine Qd J J (Pt (dF (Hk J J) (vB f)))<|go 3 ?_;refine Aj J J J J J (Ou 4 (Qg a b d g i l) J J J K3 call98 Zq J e.h) λ_ _=>go 1 ?_;refine Qd J J (Pt (dT (Hk J J) (vB h)))<|go 23 ?_;refine Bi J J J J J<|Bi J J J J J<|Bi J J J J J<|Bi J J J J J<|Bi J J J J J<|Bi J J J J J<|Bi J J J J J<|Bi J J J J J<|Bi J J J J J<|Bi J J J J J<|go 6 ?_;exact Yq k () results56 (by unfold Zhh;rw [f,h];rfl) aA Za
 .refine Pd (λ_=>False) [(0,0),(1,0),(2,0),(3,1),(4,0),(5,0),(6,0),(7,0),(8,1),(9,0),(10,0),(11,0),(12,0),(13,0),(14,1),(15,0),(16,0),(17,2),(18,2),(19,2),(20,2),(21,0),(22,0),(23,2),(24,2),(25,2),(27,2),(28,2),(29,2),(26,2),(30,2),(31,2),(32,2),(33,2),(34,2),(35,2),(36,2),(38,2),(39,2),(40,2),(37,2),(41,2),(42,2),(43,2),(44,2),(45,0),(46,3)]<|go 3<|Ql (Zx 4 [] (Qg a b c g i j)) λ_ _=>?_;refine Qd J J (Pt (dF (Hk J J) (vB f)))<|go 3 ?_;refine Aj J J J J J (Ou 4 (Qg a b d g i l) J J J K3 call98 Zq J e.h) λ_ _=>go 1 ?_;refine Qd J J (Pt (dF (Hk J J) (vB h)))<|go 3 ?_;refine Aj J J J J J (Ou 4 (Qg c d a j l g) J J J K3 call98 Zq J e.h) λ_ _=>go 1 ?_;refine Qd J J (Pt (dT (Hk J J) (vB m)))<|go 17 ?_;refine Bi J J J J J<|Bi J J J J J<|Bi J J J J J<|Bi J J J J J<|Bi J J J J J<|Bi J J J J J<|Bi J J J J J<|Bi J J J J J<|Bi J J J J J<|Bi J J J J J<|go 6 ?_;exact Yq k () results56 (by unfold Zhh;rw [f,h,m];rfl) aA Za
 .refine Pd (λ_=>False) [(0,0),(1,0),(2,0),(3,1),(4,0),(5,0),(6,0),(7,0),(8,1),(9,0),(10,0),(11,0),(12,0),(13,0),(14,1),(15,0),(16,0),(17,0),(18,0),(19,0),(20,1),(21,0),(22,0),(23,2),(24,2),(25,2),(27,2),(28,2),(29,2),(26,2),(30,2),(31,2),(32,2),(33,2),(34,2),(35,2),(36,2),(38,2),(39,2),(40,2),(37,2),(41,2),(42,2),(43,2),(44,2),(45,0),(46,3)]<|go 3<|Ql (Zx 4 [] (Qg a b c g i j)) λ_ _=>?_;refine Qd J J (Pt (dF (Hk J J) (vB f)))<|go 3 ?_;refine Aj J J J J J (Ou 4 (Qg a b d g i l) J J J K3 call98 Zq J e.h) λ_ _=>go 1 ?_;refine Qd J J (Pt (dF (Hk J J) (vB h)))<|go 3 ?_;refine Aj J J J J J (Ou 4 (Qg c d a j l g) J J J K3 call98 Zq J e.h) λ_ _=>go 1 ?_;refine Qd J J (Pt (dF (Hk J J) (vB m)))<|go 3 ?_;refine Aj J J J J J (Ou 4 (Qg c d b j l i) J J J K3 call98 Zq J e.h) λ_ _=>go 1 ?_;refine Qd J J (Pt (dT (Hk J J) (vB n)))<|go 11 ?_;refine Bi J J J J J<|Bi J J J J J<|Bi J J J J J<|Bi J J J J J<|Bi J J J J J<|Bi J J J J J<|Bi J J J J J<|Bi J J J J J<|Bi J J J J J<|Bi J J J J J<|go 6 ?_;exact Yq k () results56 (by unfold Zhh;rw [f,h,m,n];rfl) aA Za
 .refine Pd (λ_=>False) [(0,0),(1,0),(2,0),(3,1),(4,0),(5,0),(6,0),(7,0),(8,1),(9,0),(10,0),(11,0),(12,0),(13,0),(14,1),(15,0),(16,0),(17,0),(18,0),(19,0),(20,1),(21,0),(22,0),(23,0),(24,0),(25,0),(27,0),(28,0),(29,0),(26,1),(30,1),(31,0),(32,0),(33,0),(34,0),(35,0),(36,0),(38,0),(39,0),(40,0),(37,1),(41,1),(42,0),(43,0),(44,0),(45,0),(46,3)]<|go 3<|Ql (Zx 4 [] (Qg a b c g i j)) λ_ _=>?_;refine Qd J J (Pt (dF (Hk J J) (vB f)))<|go 3 ?_;refine Aj J J J J J (Ou 4 (Qg a b d g i l) J J J K3 call98 Zq J e.h) λ_ _=>go 1 ?_;refine Qd J J (Pt (dF (Hk J J) (vB h)))<|go 3 ?_;refine Aj J J J J J (Ou 4 (Qg c d a j l g) J J J K3 call98 Zq J e.h) λ_ _=>go 1 ?_;refine Qd J J (Pt (dF (Hk J J) (vB m)))<|go 3 ?_;refine Aj J J J J J (Ou 4 (Qg c d b j l i) J J J K3 call98 Zq J e.h) λ_ _=>go 1 ?_;refine Qd J J (Pt (dF (Hk J J) (vB n)))<|go 6 ?_;refine Aj J J J J J (Ou 4 (Zag ‹_› ‹_› ‹_›) J J J K3 call102 Zq J e.h) (λ_ _=>?_);refine Aj J J J J J (Ou 4 (Zag ‹_› ‹_› ‹_›) J J J K3 call102 Zq J e.h) (λ_ _=>?_);refine go 2 ⟨by have:=Zl9 (Zmx a b c) (Zmx a b d);exact⟨O,O⟩,?_⟩;refine r0g (Pt (dT (Hk J J) (vB (aD o)))) J J J J J<|go 6 ?_;refine Aj J J J J J (Ou 4 (Zag ‹_› ‹_› ‹_›) J J J K3 call102 Zq J e.h) (λ_ _=>?_);refine Aj J J J J J (Ou 4 (Zag ‹_› ‹_› ‹_›) J J J K3 call102 Zq J e.h) (λ_ _=>?_);refine go 8 ⟨by have:=Zl9 (Zmx c d a) (Zmx c d b);exact⟨O,O⟩,?_⟩;exact Yq k () results56 (by unfold Zhh;unfold mtB;rw [f,h,m,n,aD o];rfl) aA Za
 .refine Pd (λ_=>False) [(0,0),(1,0),(2,0),(3,1),(4,0),(5,0),(6,0),(7,0),(8,1),(9,0),(10,0),(11,0),(12,0),(13,0),(14,1),(15,0),(16,0),(17,0),(18,0),(19,0),(20,1),(21,0),(22,0),(23,0),(24,0),(25,0),(27,0),(28,0),(29,0),(26,1),(30,1),(31,0),(32,0),(33,0),(34,2),(35,2),(36,2),(38,2),(39,2),(40,2),(37,2),(41,2),(42,2),(43,2),(44,0),(45,0),(46,3)]<|go 3<|Ql (Zx 4 [] (Qg a b c g i j)) λ_ _=>?_;refine Qd J J (Pt (dF (Hk J J) (vB f)))<|go 3 ?_;refine Aj J J J J J (Ou 4 (Qg a b d g i l) J J J K3 call98 Zq J e.h) λ_ _=>go 1 ?_;refine Qd J J (Pt (dF (Hk J J) (vB h)))<|go 3 ?_;refine Aj J J J J J (Ou 4 (Qg c d a j l g) J J J K3 call98 Zq J e.h) λ_ _=>go 1 ?_;refine Qd J J (Pt (dF (Hk J J) (vB m)))<|go 3 ?_;refine Aj J J J J J (Ou 4 (Qg c d b j l i) J J J K3 call98 Zq J e.h) λ_ _=>go 1 ?_;refine Qd J J (Pt (dF (Hk J J) (vB n)))<|go 6 ?_;refine Aj J J J J J (Ou 4 (Zag ‹_› ‹_› ‹_›) J J J K3 call102 Zq J e.h) (λ_ _=>?_);refine Aj J J J J J (Ou 4 (Zag ‹_› ‹_› ‹_›) J J J K3 call102 Zq J e.h) (λ_ _=>?_);refine go 2 ⟨by have:=Zl9 (Zmx a b c) (Zmx a b d);exact⟨O,O⟩,?_⟩;refine r0g (Pt (dF (Hk J J) (vB (aE o)))) J J J J J<|go 16 ?_;exact Yq k () results56 (by unfold Zhh;unfold mtB;rw [f,h,m,n,aE o];rfl) aA Za
theorem Zwf(a:Zz):Xa prog 97 #[Ya a] [] (.bool (!Li a)):=by refine Zd func97 ntmps97 λe d c b=>go 2 ?_;refine Zu (Zo 1) λbq _=>go 6 ?_;refine cl 1 [] (Ap a.1 a.2.1 a.2.2) λ_ _=>go 5 ?_;exact Yq b () results97 J aA Za
theorem ix_pts(l:List Zz):Cal prog 140 #[v,.func (.func 97) #[] #[]] [Yn 3 Ya v l] false (G:=Int) (λr=>decide (r>=0)=!l.all Li) (λr=> .int .i64 r) (λr=>[]):=by
 refine Zd func140 ntmps140 λo n m d=>?_;refine Mz (Ek (i:=1) J Zk) λf=>go 14 ?_;refine lp (G:=Nat) [0,1,7] [0,1] (λi=>[(8,.int .i64 (i:Int))]) (λi=>[]) (λi=>(i<=l.length)/\(∀j,j<i->Li (l.getD j Ys)=true)) (λi=>l.length-i) 0 ⟨O1,λj h=>absurd h (bM j)⟩ K1 aA ?_;rintro i ⟨hi,g⟩;refine go 6<|Zb J (λc=>?_) (λc=>?_)
 .refine go 15 ?_;refine dt (Yl 1 i J J J J Zk Fu Ag J)<|dt (Ph 1 Ys J J J Zk pPt)<|tt (Cu 1 [] [_] [] (Zwf (l.getD i Ys)) J J J J K1 call97 Zq J m.h) λ_ _=>go 2 ?_;refine Yo J (λa=>?_) (λa=>?_)
  .have b:=a;refine go 12 ?_;exact Yq d (i:Int) results140 J (by rw [al_f O (Xy b)];exact aD (jU i)) Za
  .have b:=a;refine go 7 ⟨O,?_⟩;exact Ym (i+1) ⟨O1,λj k=>by rcases aC.1 k with e|e;exact g j e;subst e;exact Qn b⟩ O1 K1 aA
 .obtain rfl:i=l.length:=O;refine go 11 ?_;exact Yq d (-1) results140 J (by rw [al_t g];rfl) Za
theorem cf_pts(l:List Zz):Xa prog 96 #[v,.func (.func 97) #[] #[]] [Yn 3 Ya v l] (.bool (!l.all Li)):=by refine Zd func96 ntmps96 λf e c b=>go 9 ?_;refine cl 1 [1] (ix_pts l) λd a=>go 5 ?_;exact Yq b () results96 (by rw [a]) aA Za
theorem Znp(l:List Zz):Xa prog 53 #[v] [Yn 3 Ya v l] (.bool (Kz l)):=by
 refine Zd func53 ntmps53 λw0 sc hw f=>?_;refine Mz (Ek (i:=1) J Zk) λl2=>go 18 ?_;refine Zg 15 J (λk1=>?_) (λk1=>?_)
 .refine go 17 ?_;exact Yq f () results53 (vB (by first|exact Yeg O|exact Yef (Xy g0))) aA Za
 .refine go 4<|Zg 19 J (λh3=>?_) (λh3=>?_)
  .refine go 13 ?_;exact Yq f () results53 (vB (by first|exact Yeg O|exact Yef (Xy g0))) aA Za
  .refine go 1 ?_;refine Ns 1 [1] (cf_pts l) λ_ _=>go 3<|Yo J (λe6=>?_) (λe6=>?_)
   .have g0:=e6;refine go 7 ?_;exact Yq f () results53 (vB (by first|exact Yeg O|exact Yef (Xy g0))) aA Za
   .have g0:=e6;have c:l.all Li=true:=by first|exact Qn g0|(exfalso;omega)
    have k0:3<=l.length/\l.length<=64:=O;refine go 10 ?_;refine lp (G:=Nat) [0,3,23] [0,1] (λi=>[(24,.int .i64 (i:Int))]) (λi=>[]) (λi=>(i<=l.length)/\(∀j,j<i->Zke l j=true)) (λi=>l.length-i) 0 ⟨O1,λj h=>absurd h (bM j)⟩ K1 aA ?_;rintro i ⟨hi,hr⟩;refine go 6<|Zb J (λj6=>?_) (λj6=>?_)
    .have b:i<l.length:=O;refine go 11<|Qz [1] [14] ?_;refine Zp 4 [(0,0),(1,0),(2,0),(3,0),(4,0),(5,0),(6,0),(7,0),(8,0),(9,0),(10,0)]<|go 2 ?_;refine Qd J J (Fp (Yl 1 i J J J J Zk Fu Ag J) K1)<|Qd J J (Fp (Ph 1 Ys J J J Zk pPt) K1)<|go 4 ⟨O,?_⟩;refine Qd J J (Fp (Yu ( .int .i64 (((i+1)%l.length:Nat):Int)) (Ki J J J O O) (aF (Value.int .i64) (Nn i l.length))) K1)<|Qd J J (Fp (Yl 1 ((i+1)%l.length) J J J J Zk Fu Ag J (Yd b)) K1)<|Qd J J (Fp (Ph 1 Ys J J J Zk pPt (Yd b)) K1)<|go 1 ?_;refine Oo 3 11 12 ?_ ?_
     .refine Ko (Ov 2) λbq ho=>?_;refine Zp 0 [(12,1),(13,1),(14,3)]<|Ql (Ov 3) λk4 m5=>go 3 ?_;refine Ye<|go 10<|Zg 43 J (λk2=>?_) (λk2=>?_)
      .refine go 8<|Zb J (λe7=>?_) (λe7=>?_)
       .have g0:=e7;refine go 12 ?_;exact Yq f () results53 (vB (Qf b (row_o (by unfold okE;simp_all)))) aA Za
       .have g0:=e7;refine go 10 ⟨O,?_⟩;have c3:okE l i=true:=by unfold okE;simp_all
        refine lp (G:=Nat) [0,3,4,5,6,23,24,44,45,46,47,48] [0,1,2,3] (λk=>[(7,.int .i64 (k:Int))]) (λk=>[]) (λk=>(i+1<=k/\k<=l.length)/\(∀m,i<m->m<k->Zge l i m=true)) (λk=>l.length-k) (i+1) ⟨⟨O,O⟩,λm o p=>absurd o O⟩ K1 aA ?_;rintro k ⟨hk,n⟩;refine go 8<|Zb J (λj7=>?_) (λj7=>?_)
        .have a:k<l.length:=O;refine go 5<|Qz [1] [14] ?_;refine Zp 4 [(0,0),(1,0),(2,0),(3,0),(4,0),(5,0),(6,0),(7,0),(8,0),(9,0),(10,0)]<|go 2 ?_;refine Qd J J (Fp (Yl 1 k J J J J Zk Fu Ag J) K1)<|Qd J J (Fp (Ph 1 Ys J J J Zk pPt) K1)<|go 4 ⟨O,?_⟩;refine Qd J J (Fp (Yu ( .int .i64 (((k+1)%l.length:Nat):Int)) (Ki J J J O O) (aF (Value.int .i64) (Nn k l.length))) K1)<|Qd J J (Fp (Yl 1 ((k+1)%l.length) J J J J Zk Fu Ag J (Yd a)) K1)<|Qd J J (Fp (Ph 1 Ys J J J Zk pPt (Yd a)) K1)<|go 1 ?_;refine Oo 3 11 12 ?_ ?_
         .refine Ko (Ov 4) λk5 m6=>?_;refine Zp 0 [(12,1),(13,1),(14,3)]<|Ql (Ov 5) λk6 m7=>go 3 ?_;refine Ye<|go 15 ⟨O,?_⟩;refine Zg 79 J (λk3=>?_) (λk3=>?_)
          .refine go 6<|Zb J (λj8=>?_) (λj8=>?_)
           .refine go 4 ?_;refine cl 5 [] (Qg (l.getD i Ys) (l.getD ((i+1)%l.length) Ys) (l.getD ((k+1)%l.length) Ys) (Zf c b) (Zf c (Yd b)) (Zf c (Yd a))) λ_ _=>go 2<|Xz 88 J (λi3=>?_) (λi3=>?_)
            .have g:=i3;refine go 3 ?_;refine Ns 5 [] (Qg (l.getD k Ys) (l.getD ((k+1)%l.length) Ys) (l.getD i Ys) (Zf c a) (Zf c (Yd a)) (Zf c b)) λ_ _=>go 12<|Yo J (λh0=>?_) (λh0=>?_)
             .have e:=h0;refine go 15 ?_;exact Yq f () results53 (vB (Qf b (Qk k O a (by rw [Hh ⟨O,O⟩,g,Xy e];rfl)))) aA Za
             .have e:=h0;refine go 8 ⟨O,?_⟩;exact Ym (k+1) ⟨⟨O,O⟩,λm o p=>by rcases aC.1 p with d|d;exact n m o d;subst d;exact(by rw [Hh ⟨O,O⟩,g,Qn e];rfl)⟩ O1 K1 aA
            .have g:=i3;refine go 32 ?_;exact Yq f () results53 (vB (Qf b (Qk k O a (by rw [Hh ⟨O,O⟩,g];rfl)))) aA Za
           .refine go 5 ⟨O,?_⟩;refine dt (Yu ( .int .i64 (((k+1)%l.length:Nat):Int)) (Ki J J J O O) (aF (Value.int .i64) (Nn k l.length)))<|go 5 ?_;refine Zb J (λj9=>?_) (λj9=>?_)
            .refine go 4 ?_;refine cl 5 [] (Qg (l.getD i Ys) (l.getD ((i+1)%l.length) Ys) (l.getD k Ys) (Zf c b) (Zf c (Yd b)) (Zf c a)) λ_ _=>go 2<|Xz 107 J (λi4=>?_) (λi4=>?_)
             .have g:=i4;refine go 3 ?_;refine Ns 5 [] (Qg (l.getD k Ys) (l.getD ((k+1)%l.length) Ys) (l.getD ((i+1)%l.length) Ys) (Zf c a) (Zf c (Yd a)) (Zf c (Yd b))) λ_ _=>go 12<|Yo J (λb5=>?_) (λb5=>?_)
              .have e:=b5;refine go 15 ?_;exact Yq f () results53 (vB (Qf b (Qk k O a (by rw [Pn O O5,g,Xy e];rfl)))) aA Za
              .have e:=b5;refine go 8 ⟨O,?_⟩;exact Ym (k+1) ⟨⟨O,O⟩,λm o p=>by rcases aC.1 p with d|d;exact n m o d;subst d;exact(by rw [Pn O O5,g,Qn e];rfl)⟩ O1 K1 aA
             .have g:=i4;refine go 32 ?_;exact Yq f () results53 (vB (Qf b (Qk k O a (by rw [Pn O O5,g];rfl)))) aA Za
            .refine go 5 ?_;refine cl 5 [] (Lt (l.getD i Ys) (l.getD ((i+1)%l.length) Ys) (l.getD k Ys) (l.getD ((k+1)%l.length) Ys) (Zf c b) (Zf c (Yd b)) (Zf c a) (Zf c (Yd a))) λ_ _=>go 11<|Yo J (λb6=>?_) (λb6=>?_)
             .have e:=b6;refine go 15 ?_;exact Yq f () results53 (vB (Qf b (Qk k O a (by rw [Ld O O5];exact Xy e)))) aA Za
             .have e:=b6;refine go 8 ⟨O,?_⟩;exact Ym (k+1) ⟨⟨O,O⟩,λm o p=>by rcases aC.1 p with d|d;exact n m o d;subst d;exact(by rw [Ld O O5];exact Qn e)⟩ O1 K1 aA
          .refine go 12 ⟨O,?_⟩;refine dt (Yu ( .int .i64 (((k+1)%l.length:Nat):Int)) (Ki J J J O O) (aF (Value.int .i64) (Nn k l.length)))<|go 5 ?_;refine Zb J (λf8=>?_) (λf8=>?_)
           .refine go 4 ?_;refine cl 5 [] (Qg (l.getD i Ys) (l.getD ((i+1)%l.length) Ys) (l.getD k Ys) (Zf c b) (Zf c (Yd b)) (Zf c a)) λ_ _=>go 2<|Xz 107 J (λd1=>?_) (λd1=>?_)
            .have g:=d1;refine go 3 ?_;refine Ns 5 [] (Qg (l.getD k Ys) (l.getD ((k+1)%l.length) Ys) (l.getD ((i+1)%l.length) Ys) (Zf c a) (Zf c (Yd a)) (Zf c (Yd b))) λ_ _=>go 12<|Yo J (λb7=>?_) (λb7=>?_)
             .have e:=b7;refine go 15 ?_;exact Yq f () results53 (vB (Qf b (Qk k O a (by rw [Pn O O5,g,Xy e];rfl)))) aA Za
             .have e:=b7;refine go 8 ⟨O,?_⟩;exact Ym (k+1) ⟨⟨O,O⟩,λm o p=>by rcases aC.1 p with d|d;exact n m o d;subst d;exact(by rw [Pn O O5,g,Qn e];rfl)⟩ O1 K1 aA
            .have g:=d1;refine go 32 ?_;exact Yq f () results53 (vB (Qf b (Qk k O a (by rw [Pn O O5,g];rfl)))) aA Za
           .refine go 5 ?_;refine cl 5 [] (Lt (l.getD i Ys) (l.getD ((i+1)%l.length) Ys) (l.getD k Ys) (l.getD ((k+1)%l.length) Ys) (Zf c b) (Zf c (Yd b)) (Zf c a) (Zf c (Yd a))) λ_ _=>go 11<|Yo J (λb8=>?_) (λb8=>?_)
            .have e:=b8;refine go 15 ?_;exact Yq f () results53 (vB (Qf b (Qk k O a (by rw [Ld O O5];exact Xy e)))) aA Za
            .have e:=b8;refine go 8 ⟨O,?_⟩;exact Ym (k+1) ⟨⟨O,O⟩,λm o p=>by rcases aC.1 p with d|d;exact n m o d;subst d;exact(by rw [Ld O O5];exact Qn e)⟩ O1 K1 aA
         .refine Ko (Ov 6) λk7 m8=>?_;refine Zp 0 [(11,1),(13,1),(14,3)]<|Ql (Ov 7) λk8 m9=>go 3 ?_;refine Ye<|go 15 ⟨O,?_⟩;refine Zg 79 J (λh5=>?_) (λh5=>?_)
          .refine go 6<|Zb J (λf1=>?_) (λf1=>?_)
           .refine go 4 ?_;refine cl 7 [] (Qg (l.getD i Ys) (l.getD ((i+1)%l.length) Ys) (l.getD ((k+1)%l.length) Ys) (Zf c b) (Zf c (Yd b)) (Zf c (Yd a))) λ_ _=>go 2<|Xz 88 J (λc4=>?_) (λc4=>?_)
            .have g:=c4;refine go 3 ?_;refine Ns 7 [] (Qg (l.getD k Ys) (l.getD ((k+1)%l.length) Ys) (l.getD i Ys) (Zf c a) (Zf c (Yd a)) (Zf c b)) λ_ _=>go 12<|Yo J (λb9=>?_) (λb9=>?_)
             .have e:=b9;refine go 15 ?_;exact Yq f () results53 (vB (Qf b (Qk k O a (by rw [Hh ⟨O,O⟩,g,Xy e];rfl)))) aA Za
             .have e:=b9;refine go 8 ⟨O,?_⟩;exact Ym (k+1) ⟨⟨O,O⟩,λm o p=>by rcases aC.1 p with d|d;exact n m o d;subst d;exact(by rw [Hh ⟨O,O⟩,g,Qn e];rfl)⟩ O1 K1 aA
            .have g:=c4;refine go 32 ?_;exact Yq f () results53 (vB (Qf b (Qk k O a (by rw [Hh ⟨O,O⟩,g];rfl)))) aA Za
           .refine go 5 ⟨O,?_⟩;refine dt (Yu ( .int .i64 (((k+1)%l.length:Nat):Int)) (Ki J J J O O) (aF (Value.int .i64) (Nn k l.length)))<|go 5 ?_;refine Zb J (λf9=>?_) (λf9=>?_)
            .refine go 4 ?_;refine cl 7 [] (Qg (l.getD i Ys) (l.getD ((i+1)%l.length) Ys) (l.getD k Ys) (Zf c b) (Zf c (Yd b)) (Zf c a)) λ_ _=>go 2<|Xz 107 J (λd2=>?_) (λd2=>?_)
             .have g:=d2;refine go 3 ?_;refine Ns 7 [] (Qg (l.getD k Ys) (l.getD ((k+1)%l.length) Ys) (l.getD ((i+1)%l.length) Ys) (Zf c a) (Zf c (Yd a)) (Zf c (Yd b))) λ_ _=>go 12<|Yo J (λc0=>?_) (λc0=>?_)
              .have e:=c0;refine go 15 ?_;exact Yq f () results53 (vB (Qf b (Qk k O a (by rw [Pn O O5,g,Xy e];rfl)))) aA Za
              .have e:=c0;refine go 8 ⟨O,?_⟩;exact Ym (k+1) ⟨⟨O,O⟩,λm o p=>by rcases aC.1 p with d|d;exact n m o d;subst d;exact(by rw [Pn O O5,g,Qn e];rfl)⟩ O1 K1 aA
             .have g:=d2;refine go 32 ?_;exact Yq f () results53 (vB (Qf b (Qk k O a (by rw [Pn O O5,g];rfl)))) aA Za
            .refine go 5 ?_;refine cl 7 [] (Lt (l.getD i Ys) (l.getD ((i+1)%l.length) Ys) (l.getD k Ys) (l.getD ((k+1)%l.length) Ys) (Zf c b) (Zf c (Yd b)) (Zf c a) (Zf c (Yd a))) λ_ _=>go 11<|Yo J (λc1=>?_) (λc1=>?_)
             .have e:=c1;refine go 15 ?_;exact Yq f () results53 (vB (Qf b (Qk k O a (by rw [Ld O O5];exact Xy e)))) aA Za
             .have e:=c1;refine go 8 ⟨O,?_⟩;exact Ym (k+1) ⟨⟨O,O⟩,λm o p=>by rcases aC.1 p with d|d;exact n m o d;subst d;exact(by rw [Ld O O5];exact Qn e)⟩ O1 K1 aA
          .refine go 12 ⟨O,?_⟩;refine dt (Yu ( .int .i64 (((k+1)%l.length:Nat):Int)) (Ki J J J O O) (aF (Value.int .i64) (Nn k l.length)))<|go 5 ?_;refine Zb J (λg3=>?_) (λg3=>?_)
           .refine go 4 ?_;refine cl 7 [] (Qg (l.getD i Ys) (l.getD ((i+1)%l.length) Ys) (l.getD k Ys) (Zf c b) (Zf c (Yd b)) (Zf c a)) λ_ _=>go 2<|Xz 107 J (λd3=>?_) (λd3=>?_)
            .have g:=d3;refine go 3 ?_;refine Ns 7 [] (Qg (l.getD k Ys) (l.getD ((k+1)%l.length) Ys) (l.getD ((i+1)%l.length) Ys) (Zf c a) (Zf c (Yd a)) (Zf c (Yd b))) λ_ _=>go 12<|Yo J (λc2=>?_) (λc2=>?_)
             .have e:=c2;refine go 15 ?_;exact Yq f () results53 (vB (Qf b (Qk k O a (by rw [Pn O O5,g,Xy e];rfl)))) aA Za
             .have e:=c2;refine go 8 ⟨O,?_⟩;exact Ym (k+1) ⟨⟨O,O⟩,λm o p=>by rcases aC.1 p with d|d;exact n m o d;subst d;exact(by rw [Pn O O5,g,Qn e];rfl)⟩ O1 K1 aA
            .have g:=d3;refine go 32 ?_;exact Yq f () results53 (vB (Qf b (Qk k O a (by rw [Pn O O5,g];rfl)))) aA Za
           .refine go 5 ?_;refine cl 7 [] (Lt (l.getD i Ys) (l.getD ((i+1)%l.length) Ys) (l.getD k Ys) (l.getD ((k+1)%l.length) Ys) (Zf c b) (Zf c (Yd b)) (Zf c a) (Zf c (Yd a))) λ_ _=>go 11<|Yo J (λq=>?_) (λq=>?_)
            .have e:=q;refine go 15 ?_;exact Yq f () results53 (vB (Qf b (Qk k O a (by rw [Ld O O5];exact Xy e)))) aA Za
            .have e:=q;refine go 8 ⟨O,?_⟩;exact Ym (k+1) ⟨⟨O,O⟩,λm o p=>by rcases aC.1 p with d|d;exact n m o d;subst d;exact(by rw [Ld O O5];exact Qn e)⟩ O1 K1 aA
        .have a:l.length<=k:=O;refine go 10 ⟨O,?_⟩;exact Ym (i+1) ⟨O1,λj hj=>by rcases aC.1 hj with d|d;exact hr j d;subst d;exact Zyf a c3 n⟩ O1 K1 aA
      .refine go 19 ⟨O,?_⟩;have c3:okE l i=true:=by unfold okE;simp_all
       refine lp (G:=Nat) [0,3,4,5,6,23,24,44,45,46,47,48] [0,1,2,3] (λk=>[(7,.int .i64 (k:Int))]) (λk=>[]) (λk=>(i+1<=k/\k<=l.length)/\(∀m,i<m->m<k->Zge l i m=true)) (λk=>l.length-k) (i+1) ⟨⟨O,O⟩,λm o p=>absurd o O⟩ K1 aA ?_;rintro k ⟨hk,n⟩;refine go 8<|Zb J (λe8=>?_) (λe8=>?_)
       .have a:k<l.length:=O;refine go 5<|Qz [1] [14] ?_;refine Zp 4 [(0,0),(1,0),(2,0),(3,0),(4,0),(5,0),(6,0),(7,0),(8,0),(9,0),(10,0)]<|go 2 ?_;refine Qd J J (Fp (Yl 1 k J J J J Zk Fu Ag J) K1)<|Qd J J (Fp (Ph 1 Ys J J J Zk pPt) K1)<|go 4 ⟨O,?_⟩;refine Qd J J (Fp (Yu ( .int .i64 (((k+1)%l.length:Nat):Int)) (Ki J J J O O) (aF (Value.int .i64) (Nn k l.length))) K1)<|Qd J J (Fp (Yl 1 ((k+1)%l.length) J J J J Zk Fu Ag J (Yd a)) K1)<|Qd J J (Fp (Ph 1 Ys J J J Zk pPt (Yd a)) K1)<|go 1 ?_;refine Oo 3 11 12 ?_ ?_
        .refine Ko (Ov 8) λk9 n0=>?_;refine Zp 0 [(12,1),(13,1),(14,3)]<|Ql (Ov 9) λl0 n1=>go 3 ?_;refine Ye<|go 15 ⟨O,?_⟩;refine Zg 79 J (λh6=>?_) (λh6=>?_)
         .refine go 6<|Zb J (λf2=>?_) (λf2=>?_)
          .refine go 4 ?_;refine cl 9 [] (Qg (l.getD i Ys) (l.getD ((i+1)%l.length) Ys) (l.getD ((k+1)%l.length) Ys) (Zf c b) (Zf c (Yd b)) (Zf c (Yd a))) λ_ _=>go 2<|Xz 88 J (λc5=>?_) (λc5=>?_)
           .have g:=c5;refine go 3 ?_;refine Ns 9 [] (Qg (l.getD k Ys) (l.getD ((k+1)%l.length) Ys) (l.getD i Ys) (Zf c a) (Zf c (Yd a)) (Zf c b)) λ_ _=>go 12<|Yo J (λr=>?_) (λr=>?_)
            .have e:=r;refine go 15 ?_;exact Yq f () results53 (vB (Qf b (Qk k O a (by rw [Hh ⟨O,O⟩,g,Xy e];rfl)))) aA Za
            .have e:=r;refine go 8 ⟨O,?_⟩;exact Ym (k+1) ⟨⟨O,O⟩,λm o p=>by rcases aC.1 p with d|d;exact n m o d;subst d;exact(by rw [Hh ⟨O,O⟩,g,Qn e];rfl)⟩ O1 K1 aA
           .have g:=c5;refine go 32 ?_;exact Yq f () results53 (vB (Qf b (Qk k O a (by rw [Hh ⟨O,O⟩,g];rfl)))) aA Za
          .refine go 5 ⟨O,?_⟩;refine dt (Yu ( .int .i64 (((k+1)%l.length:Nat):Int)) (Ki J J J O O) (aF (Value.int .i64) (Nn k l.length)))<|go 5 ?_;refine Zb J (λg4=>?_) (λg4=>?_)
           .refine go 4 ?_;refine cl 9 [] (Qg (l.getD i Ys) (l.getD ((i+1)%l.length) Ys) (l.getD k Ys) (Zf c b) (Zf c (Yd b)) (Zf c a)) λ_ _=>go 2<|Xz 107 J (λd4=>?_) (λd4=>?_)
            .have g:=d4;refine go 3 ?_;refine Ns 9 [] (Qg (l.getD k Ys) (l.getD ((k+1)%l.length) Ys) (l.getD ((i+1)%l.length) Ys) (Zf c a) (Zf c (Yd a)) (Zf c (Yd b))) λ_ _=>go 12<|Yo J (λs=>?_) (λs=>?_)
             .have e:=s;refine go 15 ?_;exact Yq f () results53 (vB (Qf b (Qk k O a (by rw [Pn O O5,g,Xy e];rfl)))) aA Za
             .have e:=s;refine go 8 ⟨O,?_⟩;exact Ym (k+1) ⟨⟨O,O⟩,λm o p=>by rcases aC.1 p with d|d;exact n m o d;subst d;exact(by rw [Pn O O5,g,Qn e];rfl)⟩ O1 K1 aA
            .have g:=d4;refine go 32 ?_;exact Yq f () results53 (vB (Qf b (Qk k O a (by rw [Pn O O5,g];rfl)))) aA Za
           .refine go 5 ?_;refine cl 9 [] (Lt (l.getD i Ys) (l.getD ((i+1)%l.length) Ys) (l.getD k Ys) (l.getD ((k+1)%l.length) Ys) (Zf c b) (Zf c (Yd b)) (Zf c a) (Zf c (Yd a))) λ_ _=>go 11<|Yo J (λt=>?_) (λt=>?_)
            .have e:=t;refine go 15 ?_;exact Yq f () results53 (vB (Qf b (Qk k O a (by rw [Ld O O5];exact Xy e)))) aA Za
            .have e:=t;refine go 8 ⟨O,?_⟩;exact Ym (k+1) ⟨⟨O,O⟩,λm o p=>by rcases aC.1 p with d|d;exact n m o d;subst d;exact(by rw [Ld O O5];exact Qn e)⟩ O1 K1 aA
         .refine go 12 ⟨O,?_⟩;refine dt (Yu ( .int .i64 (((k+1)%l.length:Nat):Int)) (Ki J J J O O) (aF (Value.int .i64) (Nn k l.length)))<|go 5 ?_;refine Zb J (λg5=>?_) (λg5=>?_)
          .refine go 4 ?_;refine cl 9 [] (Qg (l.getD i Ys) (l.getD ((i+1)%l.length) Ys) (l.getD k Ys) (Zf c b) (Zf c (Yd b)) (Zf c a)) λ_ _=>go 2<|Xz 107 J (λd5=>?_) (λd5=>?_)
           .have g:=d5;refine go 3 ?_;refine Ns 9 [] (Qg (l.getD k Ys) (l.getD ((k+1)%l.length) Ys) (l.getD ((i+1)%l.length) Ys) (Zf c a) (Zf c (Yd a)) (Zf c (Yd b))) λ_ _=>go 12<|Yo J (λu=>?_) (λu=>?_)
            .have e:=u;refine go 15 ?_;exact Yq f () results53 (vB (Qf b (Qk k O a (by rw [Pn O O5,g,Xy e];rfl)))) aA Za
            .have e:=u;refine go 8 ⟨O,?_⟩;exact Ym (k+1) ⟨⟨O,O⟩,λm o p=>by rcases aC.1 p with d|d;exact n m o d;subst d;exact(by rw [Pn O O5,g,Qn e];rfl)⟩ O1 K1 aA
           .have g:=d5;refine go 32 ?_;exact Yq f () results53 (vB (Qf b (Qk k O a (by rw [Pn O O5,g];rfl)))) aA Za
          .refine go 5 ?_;refine cl 9 [] (Lt (l.getD i Ys) (l.getD ((i+1)%l.length) Ys) (l.getD k Ys) (l.getD ((k+1)%l.length) Ys) (Zf c b) (Zf c (Yd b)) (Zf c a) (Zf c (Yd a))) λ_ _=>go 11<|Yo J (λw=>?_) (λw=>?_)
           .have e:=w;refine go 15 ?_;exact Yq f () results53 (vB (Qf b (Qk k O a (by rw [Ld O O5];exact Xy e)))) aA Za
           .have e:=w;refine go 8 ⟨O,?_⟩;exact Ym (k+1) ⟨⟨O,O⟩,λm o p=>by rcases aC.1 p with d|d;exact n m o d;subst d;exact(by rw [Ld O O5];exact Qn e)⟩ O1 K1 aA
        .refine Ko (Ov 10) λl1 n2=>?_;refine Zp 0 [(11,1),(13,1),(14,3)]<|Ql (Ov 11) λi5 l4=>go 3 ?_;refine Ye<|go 15 ⟨O,?_⟩;refine Zg 79 J (λh7=>?_) (λh7=>?_)
         .refine go 6<|Zb J (λf3=>?_) (λf3=>?_)
          .refine go 4 ?_;refine cl 11 [] (Qg (l.getD i Ys) (l.getD ((i+1)%l.length) Ys) (l.getD ((k+1)%l.length) Ys) (Zf c b) (Zf c (Yd b)) (Zf c (Yd a))) λ_ _=>go 2<|Xz 88 J (λc6=>?_) (λc6=>?_)
           .have g:=c6;refine go 3 ?_;refine Ns 11 [] (Qg (l.getD k Ys) (l.getD ((k+1)%l.length) Ys) (l.getD i Ys) (Zf c a) (Zf c (Yd a)) (Zf c b)) λ_ _=>go 12<|Yo J (λx=>?_) (λx=>?_)
            .have e:=x;refine go 15 ?_;exact Yq f () results53 (vB (Qf b (Qk k O a (by rw [Hh ⟨O,O⟩,g,Xy e];rfl)))) aA Za
            .have e:=x;refine go 8 ⟨O,?_⟩;exact Ym (k+1) ⟨⟨O,O⟩,λm o p=>by rcases aC.1 p with d|d;exact n m o d;subst d;exact(by rw [Hh ⟨O,O⟩,g,Qn e];rfl)⟩ O1 K1 aA
           .have g:=c6;refine go 32 ?_;exact Yq f () results53 (vB (Qf b (Qk k O a (by rw [Hh ⟨O,O⟩,g];rfl)))) aA Za
          .refine go 5 ⟨O,?_⟩;refine dt (Yu ( .int .i64 (((k+1)%l.length:Nat):Int)) (Ki J J J O O) (aF (Value.int .i64) (Nn k l.length)))<|go 5 ?_;refine Zb J (λg6=>?_) (λg6=>?_)
           .refine go 4 ?_;refine cl 11 [] (Qg (l.getD i Ys) (l.getD ((i+1)%l.length) Ys) (l.getD k Ys) (Zf c b) (Zf c (Yd b)) (Zf c a)) λ_ _=>go 2<|Xz 107 J (λd6=>?_) (λd6=>?_)
            .have g:=d6;refine go 3 ?_;refine Ns 11 [] (Qg (l.getD k Ys) (l.getD ((k+1)%l.length) Ys) (l.getD ((i+1)%l.length) Ys) (Zf c a) (Zf c (Yd a)) (Zf c (Yd b))) λ_ _=>go 12<|Yo J (λy=>?_) (λy=>?_)
             .have e:=y;refine go 15 ?_;exact Yq f () results53 (vB (Qf b (Qk k O a (by rw [Pn O O5,g,Xy e];rfl)))) aA Za
             .have e:=y;refine go 8 ⟨O,?_⟩;exact Ym (k+1) ⟨⟨O,O⟩,λm o p=>by rcases aC.1 p with d|d;exact n m o d;subst d;exact(by rw [Pn O O5,g,Qn e];rfl)⟩ O1 K1 aA
            .have g:=d6;refine go 32 ?_;exact Yq f () results53 (vB (Qf b (Qk k O a (by rw [Pn O O5,g];rfl)))) aA Za
           .refine go 5 ?_;refine cl 11 [] (Lt (l.getD i Ys) (l.getD ((i+1)%l.length) Ys) (l.getD k Ys) (l.getD ((k+1)%l.length) Ys) (Zf c b) (Zf c (Yd b)) (Zf c a) (Zf c (Yd a))) λ_ _=>go 11<|Yo J (λz=>?_) (λz=>?_)
            .have e:=z;refine go 15 ?_;exact Yq f () results53 (vB (Qf b (Qk k O a (by rw [Ld O O5];exact Xy e)))) aA Za
            .have e:=z;refine go 8 ⟨O,?_⟩;exact Ym (k+1) ⟨⟨O,O⟩,λm o p=>by rcases aC.1 p with d|d;exact n m o d;subst d;exact(by rw [Ld O O5];exact Qn e)⟩ O1 K1 aA
         .refine go 12 ⟨O,?_⟩;refine dt (Yu ( .int .i64 (((k+1)%l.length:Nat):Int)) (Ki J J J O O) (aF (Value.int .i64) (Nn k l.length)))<|go 5 ?_;refine Zb J (λg7=>?_) (λg7=>?_)
          .refine go 4 ?_;refine cl 11 [] (Qg (l.getD i Ys) (l.getD ((i+1)%l.length) Ys) (l.getD k Ys) (Zf c b) (Zf c (Yd b)) (Zf c a)) λ_ _=>go 2<|Xz 107 J (λd7=>?_) (λd7=>?_)
           .have g:=d7;refine go 3 ?_;refine Ns 11 [] (Qg (l.getD k Ys) (l.getD ((k+1)%l.length) Ys) (l.getD ((i+1)%l.length) Ys) (Zf c a) (Zf c (Yd a)) (Zf c (Yd b))) λ_ _=>go 12<|Yo J (λB=>?_) (λB=>?_)
            .have e:=B;refine go 15 ?_;exact Yq f () results53 (vB (Qf b (Qk k O a (by rw [Pn O O5,g,Xy e];rfl)))) aA Za
            .have e:=B;refine go 8 ⟨O,?_⟩;exact Ym (k+1) ⟨⟨O,O⟩,λm o p=>by rcases aC.1 p with d|d;exact n m o d;subst d;exact(by rw [Pn O O5,g,Qn e];rfl)⟩ O1 K1 aA
           .have g:=d7;refine go 32 ?_;exact Yq f () results53 (vB (Qf b (Qk k O a (by rw [Pn O O5,g];rfl)))) aA Za
          .refine go 5 ?_;refine cl 11 [] (Lt (l.getD i Ys) (l.getD ((i+1)%l.length) Ys) (l.getD k Ys) (l.getD ((k+1)%l.length) Ys) (Zf c b) (Zf c (Yd b)) (Zf c a) (Zf c (Yd a))) λ_ _=>go 11<|Yo J (λD=>?_) (λD=>?_)
           .have e:=D;refine go 15 ?_;exact Yq f () results53 (vB (Qf b (Qk k O a (by rw [Ld O O5];exact Xy e)))) aA Za
           .have e:=D;refine go 8 ⟨O,?_⟩;exact Ym (k+1) ⟨⟨O,O⟩,λm o p=>by rcases aC.1 p with d|d;exact n m o d;subst d;exact(by rw [Ld O O5];exact Qn e)⟩ O1 K1 aA
       .have a:l.length<=k:=O;refine go 10 ⟨O,?_⟩;exact Ym (i+1) ⟨O1,λj hj=>by rcases aC.1 hj with d|d;exact hr j d;subst d;exact Zyf a c3 n⟩ O1 K1 aA
     .refine Ko (Ov 12) λi6 l5=>?_;refine Zp 0 [(11,1),(13,1),(14,3)]<|Ql (Ov 13) λi7 l6=>go 3 ?_;refine Ye<|go 10<|Zg 43 J (λh4=>?_) (λh4=>?_)
      .refine go 8<|Zb J (λb4=>?_) (λb4=>?_)
       .have g0:=b4;refine go 12 ?_;exact Yq f () results53 (vB (Qf b (row_o (by unfold okE;simp_all)))) aA Za
       .have g0:=b4;refine go 10 ⟨O,?_⟩;have c3:okE l i=true:=by unfold okE;simp_all
        refine lp (G:=Nat) [0,3,4,5,6,23,24,44,45,46,47,48] [0,1,12,13] (λk=>[(7,.int .i64 (k:Int))]) (λk=>[]) (λk=>(i+1<=k/\k<=l.length)/\(∀m,i<m->m<k->Zge l i m=true)) (λk=>l.length-k) (i+1) ⟨⟨O,O⟩,λm o p=>absurd o O⟩ K1 aA ?_;rintro k ⟨hk,n⟩;refine go 8<|Zb J (λe9=>?_) (λe9=>?_)
        .have a:k<l.length:=O;refine go 5<|Qz [1] [14] ?_;refine Zp 4 [(0,0),(1,0),(2,0),(3,0),(4,0),(5,0),(6,0),(7,0),(8,0),(9,0),(10,0)]<|go 2 ?_;refine Qd J J (Fp (Yl 1 k J J J J Zk Fu Ag J) K1)<|Qd J J (Fp (Ph 1 Ys J J J Zk pPt) K1)<|go 4 ⟨O,?_⟩;refine Qd J J (Fp (Yu ( .int .i64 (((k+1)%l.length:Nat):Int)) (Ki J J J O O) (aF (Value.int .i64) (Nn k l.length))) K1)<|Qd J J (Fp (Yl 1 ((k+1)%l.length) J J J J Zk Fu Ag J (Yd a)) K1)<|Qd J J (Fp (Ph 1 Ys J J J Zk pPt (Yd a)) K1)<|go 1 ?_;refine Oo 3 11 12 ?_ ?_
         .refine Ko (Ov 14) λi8 l7=>?_;refine Zp 0 [(12,1),(13,1),(14,3)]<|Ql (Ov 15) λi9 l8=>go 3 ?_;refine Ye<|go 15 ⟨O,?_⟩;refine Zg 79 J (λh8=>?_) (λh8=>?_)
          .refine go 6<|Zb J (λf4=>?_) (λf4=>?_)
           .refine go 4 ?_;refine cl 15 [] (Qg (l.getD i Ys) (l.getD ((i+1)%l.length) Ys) (l.getD ((k+1)%l.length) Ys) (Zf c b) (Zf c (Yd b)) (Zf c (Yd a))) λ_ _=>go 2<|Xz 88 J (λc7=>?_) (λc7=>?_)
            .have g:=c7;refine go 3 ?_;refine Ns 15 [] (Qg (l.getD k Ys) (l.getD ((k+1)%l.length) Ys) (l.getD i Ys) (Zf c a) (Zf c (Yd a)) (Zf c b)) λ_ _=>go 12<|Yo J (λF=>?_) (λF=>?_)
             .have e:=F;refine go 15 ?_;exact Yq f () results53 (vB (Qf b (Qk k O a (by rw [Hh ⟨O,O⟩,g,Xy e];rfl)))) aA Za
             .have e:=F;refine go 8 ⟨O,?_⟩;exact Ym (k+1) ⟨⟨O,O⟩,λm o p=>by rcases aC.1 p with d|d;exact n m o d;subst d;exact(by rw [Hh ⟨O,O⟩,g,Qn e];rfl)⟩ O1 K1 aA
            .have g:=c7;refine go 32 ?_;exact Yq f () results53 (vB (Qf b (Qk k O a (by rw [Hh ⟨O,O⟩,g];rfl)))) aA Za
           .refine go 5 ⟨O,?_⟩;refine dt (Yu ( .int .i64 (((k+1)%l.length:Nat):Int)) (Ki J J J O O) (aF (Value.int .i64) (Nn k l.length)))<|go 5 ?_;refine Zb J (λg9=>?_) (λg9=>?_)
            .refine go 4 ?_;refine cl 15 [] (Qg (l.getD i Ys) (l.getD ((i+1)%l.length) Ys) (l.getD k Ys) (Zf c b) (Zf c (Yd b)) (Zf c a)) λ_ _=>go 2<|Xz 107 J (λd8=>?_) (λd8=>?_)
             .have g:=d8;refine go 3 ?_;refine Ns 15 [] (Qg (l.getD k Ys) (l.getD ((k+1)%l.length) Ys) (l.getD ((i+1)%l.length) Ys) (Zf c a) (Zf c (Yd a)) (Zf c (Yd b))) λ_ _=>go 12<|Yo J (λH=>?_) (λH=>?_)
              .have e:=H;refine go 15 ?_;exact Yq f () results53 (vB (Qf b (Qk k O a (by rw [Pn O O5,g,Xy e];rfl)))) aA Za
              .have e:=H;refine go 8 ⟨O,?_⟩;exact Ym (k+1) ⟨⟨O,O⟩,λm o p=>by rcases aC.1 p with d|d;exact n m o d;subst d;exact(by rw [Pn O O5,g,Qn e];rfl)⟩ O1 K1 aA
             .have g:=d8;refine go 32 ?_;exact Yq f () results53 (vB (Qf b (Qk k O a (by rw [Pn O O5,g];rfl)))) aA Za
            .refine go 5 ?_;refine cl 15 [] (Lt (l.getD i Ys) (l.getD ((i+1)%l.length) Ys) (l.getD k Ys) (l.getD ((k+1)%l.length) Ys) (Zf c b) (Zf c (Yd b)) (Zf c a) (Zf c (Yd a))) λ_ _=>go 11<|Yo J (λI=>?_) (λI=>?_)
             .have e:=I;refine go 15 ?_;exact Yq f () results53 (vB (Qf b (Qk k O a (by rw [Ld O O5];exact Xy e)))) aA Za
             .have e:=I;refine go 8 ⟨O,?_⟩;exact Ym (k+1) ⟨⟨O,O⟩,λm o p=>by rcases aC.1 p with d|d;exact n m o d;subst d;exact(by rw [Ld O O5];exact Qn e)⟩ O1 K1 aA
          .refine go 12 ⟨O,?_⟩;refine dt (Yu ( .int .i64 (((k+1)%l.length:Nat):Int)) (Ki J J J O O) (aF (Value.int .i64) (Nn k l.length)))<|go 5 ?_;refine Zb J (λd9=>?_) (λd9=>?_)
           .refine go 4 ?_;refine cl 15 [] (Qg (l.getD i Ys) (l.getD ((i+1)%l.length) Ys) (l.getD k Ys) (Zf c b) (Zf c (Yd b)) (Zf c a)) λ_ _=>go 2<|Xz 107 J (λa7=>?_) (λa7=>?_)
            .have g:=a7;refine go 3 ?_;refine Ns 15 [] (Qg (l.getD k Ys) (l.getD ((k+1)%l.length) Ys) (l.getD ((i+1)%l.length) Ys) (Zf c a) (Zf c (Yd a)) (Zf c (Yd b))) λ_ _=>go 12<|Yo J (λM=>?_) (λM=>?_)
             .have e:=M;refine go 15 ?_;exact Yq f () results53 (vB (Qf b (Qk k O a (by rw [Pn O O5,g,Xy e];rfl)))) aA Za
             .have e:=M;refine go 8 ⟨O,?_⟩;exact Ym (k+1) ⟨⟨O,O⟩,λm o p=>by rcases aC.1 p with d|d;exact n m o d;subst d;exact(by rw [Pn O O5,g,Qn e];rfl)⟩ O1 K1 aA
            .have g:=a7;refine go 32 ?_;exact Yq f () results53 (vB (Qf b (Qk k O a (by rw [Pn O O5,g];rfl)))) aA Za
           .refine go 5 ?_;refine cl 15 [] (Lt (l.getD i Ys) (l.getD ((i+1)%l.length) Ys) (l.getD k Ys) (l.getD ((k+1)%l.length) Ys) (Zf c b) (Zf c (Yd b)) (Zf c a) (Zf c (Yd a))) λ_ _=>go 11<|Yo J (λN=>?_) (λN=>?_)
            .have e:=N;refine go 15 ?_;exact Yq f () results53 (vB (Qf b (Qk k O a (by rw [Ld O O5];exact Xy e)))) aA Za
            .have e:=N;refine go 8 ⟨O,?_⟩;exact Ym (k+1) ⟨⟨O,O⟩,λm o p=>by rcases aC.1 p with d|d;exact n m o d;subst d;exact(by rw [Ld O O5];exact Qn e)⟩ O1 K1 aA
         .refine Ko (Ov 16) λj0 l9=>?_;refine Zp 0 [(11,1),(13,1),(14,3)]<|Ql (Ov 17) λj1 m0=>go 3 ?_;refine Ye<|go 15 ⟨O,?_⟩;refine Zg 79 J (λi0=>?_) (λi0=>?_)
          .refine go 6<|Zb J (λf5=>?_) (λf5=>?_)
           .refine go 4 ?_;refine cl 17 [] (Qg (l.getD i Ys) (l.getD ((i+1)%l.length) Ys) (l.getD ((k+1)%l.length) Ys) (Zf c b) (Zf c (Yd b)) (Zf c (Yd a))) λ_ _=>go 2<|Xz 88 J (λc8=>?_) (λc8=>?_)
            .have g:=c8;refine go 3 ?_;refine Ns 17 [] (Qg (l.getD k Ys) (l.getD ((k+1)%l.length) Ys) (l.getD i Ys) (Zf c a) (Zf c (Yd a)) (Zf c b)) λ_ _=>go 12<|Yo J (λP=>?_) (λP=>?_)
             .have e:=P;refine go 15 ?_;exact Yq f () results53 (vB (Qf b (Qk k O a (by rw [Hh ⟨O,O⟩,g,Xy e];rfl)))) aA Za
             .have e:=P;refine go 8 ⟨O,?_⟩;exact Ym (k+1) ⟨⟨O,O⟩,λm o p=>by rcases aC.1 p with d|d;exact n m o d;subst d;exact(by rw [Hh ⟨O,O⟩,g,Qn e];rfl)⟩ O1 K1 aA
            .have g:=c8;refine go 32 ?_;exact Yq f () results53 (vB (Qf b (Qk k O a (by rw [Hh ⟨O,O⟩,g];rfl)))) aA Za
           .refine go 5 ⟨O,?_⟩;refine dt (Yu ( .int .i64 (((k+1)%l.length:Nat):Int)) (Ki J J J O O) (aF (Value.int .i64) (Nn k l.length)))<|go 5 ?_;refine Zb J (λe0=>?_) (λe0=>?_)
            .refine go 4 ?_;refine cl 17 [] (Qg (l.getD i Ys) (l.getD ((i+1)%l.length) Ys) (l.getD k Ys) (Zf c b) (Zf c (Yd b)) (Zf c a)) λ_ _=>go 2<|Xz 107 J (λa8=>?_) (λa8=>?_)
             .have g:=a8;refine go 3 ?_;refine Ns 17 [] (Qg (l.getD k Ys) (l.getD ((k+1)%l.length) Ys) (l.getD ((i+1)%l.length) Ys) (Zf c a) (Zf c (Yd a)) (Zf c (Yd b))) λ_ _=>go 12<|Yo J (λQ=>?_) (λQ=>?_)
              .have e:=Q;refine go 15 ?_;exact Yq f () results53 (vB (Qf b (Qk k O a (by rw [Pn O O5,g,Xy e];rfl)))) aA Za
              .have e:=Q;refine go 8 ⟨O,?_⟩;exact Ym (k+1) ⟨⟨O,O⟩,λm o p=>by rcases aC.1 p with d|d;exact n m o d;subst d;exact(by rw [Pn O O5,g,Qn e];rfl)⟩ O1 K1 aA
             .have g:=a8;refine go 32 ?_;exact Yq f () results53 (vB (Qf b (Qk k O a (by rw [Pn O O5,g];rfl)))) aA Za
            .refine go 5 ?_;refine cl 17 [] (Lt (l.getD i Ys) (l.getD ((i+1)%l.length) Ys) (l.getD k Ys) (l.getD ((k+1)%l.length) Ys) (Zf c b) (Zf c (Yd b)) (Zf c a) (Zf c (Yd a))) λ_ _=>go 11<|Yo J (λR=>?_) (λR=>?_)
             .have e:=R;refine go 15 ?_;exact Yq f () results53 (vB (Qf b (Qk k O a (by rw [Ld O O5];exact Xy e)))) aA Za
             .have e:=R;refine go 8 ⟨O,?_⟩;exact Ym (k+1) ⟨⟨O,O⟩,λm o p=>by rcases aC.1 p with d|d;exact n m o d;subst d;exact(by rw [Ld O O5];exact Qn e)⟩ O1 K1 aA
          .refine go 12 ⟨O,?_⟩;refine dt (Yu ( .int .i64 (((k+1)%l.length:Nat):Int)) (Ki J J J O O) (aF (Value.int .i64) (Nn k l.length)))<|go 5 ?_;refine Zb J (λe1=>?_) (λe1=>?_)
           .refine go 4 ?_;refine cl 17 [] (Qg (l.getD i Ys) (l.getD ((i+1)%l.length) Ys) (l.getD k Ys) (Zf c b) (Zf c (Yd b)) (Zf c a)) λ_ _=>go 2<|Xz 107 J (λa9=>?_) (λa9=>?_)
            .have g:=a9;refine go 3 ?_;refine Ns 17 [] (Qg (l.getD k Ys) (l.getD ((k+1)%l.length) Ys) (l.getD ((i+1)%l.length) Ys) (Zf c a) (Zf c (Yd a)) (Zf c (Yd b))) λ_ _=>go 12<|Yo J (λS=>?_) (λS=>?_)
             .have e:=S;refine go 15 ?_;exact Yq f () results53 (vB (Qf b (Qk k O a (by rw [Pn O O5,g,Xy e];rfl)))) aA Za
             .have e:=S;refine go 8 ⟨O,?_⟩;exact Ym (k+1) ⟨⟨O,O⟩,λm o p=>by rcases aC.1 p with d|d;exact n m o d;subst d;exact(by rw [Pn O O5,g,Qn e];rfl)⟩ O1 K1 aA
            .have g:=a9;refine go 32 ?_;exact Yq f () results53 (vB (Qf b (Qk k O a (by rw [Pn O O5,g];rfl)))) aA Za
           .refine go 5 ?_;refine cl 17 [] (Lt (l.getD i Ys) (l.getD ((i+1)%l.length) Ys) (l.getD k Ys) (l.getD ((k+1)%l.length) Ys) (Zf c b) (Zf c (Yd b)) (Zf c a) (Zf c (Yd a))) λ_ _=>go 11<|Yo J (λV=>?_) (λV=>?_)
            .have e:=V;refine go 15 ?_;exact Yq f () results53 (vB (Qf b (Qk k O a (by rw [Ld O O5];exact Xy e)))) aA Za
            .have e:=V;refine go 8 ⟨O,?_⟩;exact Ym (k+1) ⟨⟨O,O⟩,λm o p=>by rcases aC.1 p with d|d;exact n m o d;subst d;exact(by rw [Ld O O5];exact Qn e)⟩ O1 K1 aA
        .have a:l.length<=k:=O;refine go 10 ⟨O,?_⟩;exact Ym (i+1) ⟨O1,λj hj=>by rcases aC.1 hj with d|d;exact hr j d;subst d;exact Zyf a c3 n⟩ O1 K1 aA
      .refine go 19 ⟨O,?_⟩;have c3:okE l i=true:=by unfold okE;simp_all
       refine lp (G:=Nat) [0,3,4,5,6,23,24,44,45,46,47,48] [0,1,12,13] (λk=>[(7,.int .i64 (k:Int))]) (λk=>[]) (λk=>(i+1<=k/\k<=l.length)/\(∀m,i<m->m<k->Zge l i m=true)) (λk=>l.length-k) (i+1) ⟨⟨O,O⟩,λm o p=>absurd o O⟩ K1 aA ?_;rintro k ⟨hk,n⟩;refine go 8<|Zb J (λf0=>?_) (λf0=>?_)
       .have a:k<l.length:=O;refine go 5<|Qz [1] [14] ?_;refine Zp 4 [(0,0),(1,0),(2,0),(3,0),(4,0),(5,0),(6,0),(7,0),(8,0),(9,0),(10,0)]<|go 2 ?_;refine Qd J J (Fp (Yl 1 k J J J J Zk Fu Ag J) K1)<|Qd J J (Fp (Ph 1 Ys J J J Zk pPt) K1)<|go 4 ⟨O,?_⟩;refine Qd J J (Fp (Yu ( .int .i64 (((k+1)%l.length:Nat):Int)) (Ki J J J O O) (aF (Value.int .i64) (Nn k l.length))) K1)<|Qd J J (Fp (Yl 1 ((k+1)%l.length) J J J J Zk Fu Ag J (Yd a)) K1)<|Qd J J (Fp (Ph 1 Ys J J J Zk pPt (Yd a)) K1)<|go 1 ?_;refine Oo 3 11 12 ?_ ?_
        .refine Ko (Ov 18) λj2 m1=>?_;refine Zp 0 [(12,1),(13,1),(14,3)]<|Ql (Ov 19) λj3 m2=>go 3 ?_;refine Ye<|go 15 ⟨O,?_⟩;refine Zg 79 J (λi1=>?_) (λi1=>?_)
         .refine go 6<|Zb J (λf6=>?_) (λf6=>?_)
          .refine go 4 ?_;refine cl 19 [] (Qg (l.getD i Ys) (l.getD ((i+1)%l.length) Ys) (l.getD ((k+1)%l.length) Ys) (Zf c b) (Zf c (Yd b)) (Zf c (Yd a))) λ_ _=>go 2<|Xz 88 J (λc9=>?_) (λc9=>?_)
           .have g:=c9;refine go 3 ?_;refine Ns 19 [] (Qg (l.getD k Ys) (l.getD ((k+1)%l.length) Ys) (l.getD i Ys) (Zf c a) (Zf c (Yd a)) (Zf c b)) λ_ _=>go 12<|Yo J (λW=>?_) (λW=>?_)
            .have e:=W;refine go 15 ?_;exact Yq f () results53 (vB (Qf b (Qk k O a (by rw [Hh ⟨O,O⟩,g,Xy e];rfl)))) aA Za
            .have e:=W;refine go 8 ⟨O,?_⟩;exact Ym (k+1) ⟨⟨O,O⟩,λm o p=>by rcases aC.1 p with d|d;exact n m o d;subst d;exact(by rw [Hh ⟨O,O⟩,g,Qn e];rfl)⟩ O1 K1 aA
           .have g:=c9;refine go 32 ?_;exact Yq f () results53 (vB (Qf b (Qk k O a (by rw [Hh ⟨O,O⟩,g];rfl)))) aA Za
          .refine go 5 ⟨O,?_⟩;refine dt (Yu ( .int .i64 (((k+1)%l.length:Nat):Int)) (Ki J J J O O) (aF (Value.int .i64) (Nn k l.length)))<|go 5 ?_;refine Zb J (λe2=>?_) (λe2=>?_)
           .refine go 4 ?_;refine cl 19 [] (Qg (l.getD i Ys) (l.getD ((i+1)%l.length) Ys) (l.getD k Ys) (Zf c b) (Zf c (Yd b)) (Zf c a)) λ_ _=>go 2<|Xz 107 J (λb0=>?_) (λb0=>?_)
            .have g:=b0;refine go 3 ?_;refine Ns 19 [] (Qg (l.getD k Ys) (l.getD ((k+1)%l.length) Ys) (l.getD ((i+1)%l.length) Ys) (Zf c a) (Zf c (Yd a)) (Zf c (Yd b))) λ_ _=>go 12<|Yo J (λY=>?_) (λY=>?_)
             .have e:=Y;refine go 15 ?_;exact Yq f () results53 (vB (Qf b (Qk k O a (by rw [Pn O O5,g,Xy e];rfl)))) aA Za
             .have e:=Y;refine go 8 ⟨O,?_⟩;exact Ym (k+1) ⟨⟨O,O⟩,λm o p=>by rcases aC.1 p with d|d;exact n m o d;subst d;exact(by rw [Pn O O5,g,Qn e];rfl)⟩ O1 K1 aA
            .have g:=b0;refine go 32 ?_;exact Yq f () results53 (vB (Qf b (Qk k O a (by rw [Pn O O5,g];rfl)))) aA Za
           .refine go 5 ?_;refine cl 19 [] (Lt (l.getD i Ys) (l.getD ((i+1)%l.length) Ys) (l.getD k Ys) (l.getD ((k+1)%l.length) Ys) (Zf c b) (Zf c (Yd b)) (Zf c a) (Zf c (Yd a))) λ_ _=>go 11<|Yo J (λZ=>?_) (λZ=>?_)
            .have e:=Z;refine go 15 ?_;exact Yq f () results53 (vB (Qf b (Qk k O a (by rw [Ld O O5];exact Xy e)))) aA Za
            .have e:=Z;refine go 8 ⟨O,?_⟩;exact Ym (k+1) ⟨⟨O,O⟩,λm o p=>by rcases aC.1 p with d|d;exact n m o d;subst d;exact(by rw [Ld O O5];exact Qn e)⟩ O1 K1 aA
         .refine go 12 ⟨O,?_⟩;refine dt (Yu ( .int .i64 (((k+1)%l.length:Nat):Int)) (Ki J J J O O) (aF (Value.int .i64) (Nn k l.length)))<|go 5 ?_;refine Zb J (λe3=>?_) (λe3=>?_)
          .refine go 4 ?_;refine cl 19 [] (Qg (l.getD i Ys) (l.getD ((i+1)%l.length) Ys) (l.getD k Ys) (Zf c b) (Zf c (Yd b)) (Zf c a)) λ_ _=>go 2<|Xz 107 J (λb1=>?_) (λb1=>?_)
           .have g:=b1;refine go 3 ?_;refine Ns 19 [] (Qg (l.getD k Ys) (l.getD ((k+1)%l.length) Ys) (l.getD ((i+1)%l.length) Ys) (Zf c a) (Zf c (Yd a)) (Zf c (Yd b))) λ_ _=>go 12<|Yo J (λa0=>?_) (λa0=>?_)
            .have e:=a0;refine go 15 ?_;exact Yq f () results53 (vB (Qf b (Qk k O a (by rw [Pn O O5,g,Xy e];rfl)))) aA Za
            .have e:=a0;refine go 8 ⟨O,?_⟩;exact Ym (k+1) ⟨⟨O,O⟩,λm o p=>by rcases aC.1 p with d|d;exact n m o d;subst d;exact(by rw [Pn O O5,g,Qn e];rfl)⟩ O1 K1 aA
           .have g:=b1;refine go 32 ?_;exact Yq f () results53 (vB (Qf b (Qk k O a (by rw [Pn O O5,g];rfl)))) aA Za
          .refine go 5 ?_;refine cl 19 [] (Lt (l.getD i Ys) (l.getD ((i+1)%l.length) Ys) (l.getD k Ys) (l.getD ((k+1)%l.length) Ys) (Zf c b) (Zf c (Yd b)) (Zf c a) (Zf c (Yd a))) λ_ _=>go 11<|Yo J (λa1=>?_) (λa1=>?_)
           .have e:=a1;refine go 15 ?_;exact Yq f () results53 (vB (Qf b (Qk k O a (by rw [Ld O O5];exact Xy e)))) aA Za
           .have e:=a1;refine go 8 ⟨O,?_⟩;exact Ym (k+1) ⟨⟨O,O⟩,λm o p=>by rcases aC.1 p with d|d;exact n m o d;subst d;exact(by rw [Ld O O5];exact Qn e)⟩ O1 K1 aA
        .refine Ko (Ov 20) λj4 m3=>?_;refine Zp 0 [(11,1),(13,1),(14,3)]<|Ql (Ov 21) λj5 m4=>go 3 ?_;refine Ye<|go 15 ⟨O,?_⟩;refine Zg 79 J (λi2=>?_) (λi2=>?_)
         .refine go 6<|Zb J (λf7=>?_) (λf7=>?_)
          .refine go 4 ?_;refine cl 21 [] (Qg (l.getD i Ys) (l.getD ((i+1)%l.length) Ys) (l.getD ((k+1)%l.length) Ys) (Zf c b) (Zf c (Yd b)) (Zf c (Yd a))) λ_ _=>go 2<|Xz 88 J (λd0=>?_) (λd0=>?_)
           .have g:=d0;refine go 3 ?_;refine Ns 21 [] (Qg (l.getD k Ys) (l.getD ((k+1)%l.length) Ys) (l.getD i Ys) (Zf c a) (Zf c (Yd a)) (Zf c b)) λ_ _=>go 12<|Yo J (λa2=>?_) (λa2=>?_)
            .have e:=a2;refine go 15 ?_;exact Yq f () results53 (vB (Qf b (Qk k O a (by rw [Hh ⟨O,O⟩,g,Xy e];rfl)))) aA Za
            .have e:=a2;refine go 8 ⟨O,?_⟩;exact Ym (k+1) ⟨⟨O,O⟩,λm o p=>by rcases aC.1 p with d|d;exact n m o d;subst d;exact(by rw [Hh ⟨O,O⟩,g,Qn e];rfl)⟩ O1 K1 aA
           .have g:=d0;refine go 32 ?_;exact Yq f () results53 (vB (Qf b (Qk k O a (by rw [Hh ⟨O,O⟩,g];rfl)))) aA Za
          .refine go 5 ⟨O,?_⟩;refine dt (Yu ( .int .i64 (((k+1)%l.length:Nat):Int)) (Ki J J J O O) (aF (Value.int .i64) (Nn k l.length)))<|go 5 ?_;refine Zb J (λe4=>?_) (λe4=>?_)
           .refine go 4 ?_;refine cl 21 [] (Qg (l.getD i Ys) (l.getD ((i+1)%l.length) Ys) (l.getD k Ys) (Zf c b) (Zf c (Yd b)) (Zf c a)) λ_ _=>go 2<|Xz 107 J (λb2=>?_) (λb2=>?_)
            .have g:=b2;refine go 3 ?_;refine Ns 21 [] (Qg (l.getD k Ys) (l.getD ((k+1)%l.length) Ys) (l.getD ((i+1)%l.length) Ys) (Zf c a) (Zf c (Yd a)) (Zf c (Yd b))) λ_ _=>go 12<|Yo J (λa3=>?_) (λa3=>?_)
             .have e:=a3;refine go 15 ?_;exact Yq f () results53 (vB (Qf b (Qk k O a (by rw [Pn O O5,g,Xy e];rfl)))) aA Za
             .have e:=a3;refine go 8 ⟨O,?_⟩;exact Ym (k+1) ⟨⟨O,O⟩,λm o p=>by rcases aC.1 p with d|d;exact n m o d;subst d;exact(by rw [Pn O O5,g,Qn e];rfl)⟩ O1 K1 aA
            .have g:=b2;refine go 32 ?_;exact Yq f () results53 (vB (Qf b (Qk k O a (by rw [Pn O O5,g];rfl)))) aA Za
           .refine go 5 ?_;refine cl 21 [] (Lt (l.getD i Ys) (l.getD ((i+1)%l.length) Ys) (l.getD k Ys) (l.getD ((k+1)%l.length) Ys) (Zf c b) (Zf c (Yd b)) (Zf c a) (Zf c (Yd a))) λ_ _=>go 11<|Yo J (λa4=>?_) (λa4=>?_)
            .have e:=a4;refine go 15 ?_;exact Yq f () results53 (vB (Qf b (Qk k O a (by rw [Ld O O5];exact Xy e)))) aA Za
            .have e:=a4;refine go 8 ⟨O,?_⟩;exact Ym (k+1) ⟨⟨O,O⟩,λm o p=>by rcases aC.1 p with d|d;exact n m o d;subst d;exact(by rw [Ld O O5];exact Qn e)⟩ O1 K1 aA
         .refine go 12 ⟨O,?_⟩;refine dt (Yu ( .int .i64 (((k+1)%l.length:Nat):Int)) (Ki J J J O O) (aF (Value.int .i64) (Nn k l.length)))<|go 5 ?_;refine Zb J (λe5=>?_) (λe5=>?_)
          .refine go 4 ?_;refine cl 21 [] (Qg (l.getD i Ys) (l.getD ((i+1)%l.length) Ys) (l.getD k Ys) (Zf c b) (Zf c (Yd b)) (Zf c a)) λ_ _=>go 2<|Xz 107 J (λb3=>?_) (λb3=>?_)
           .have g:=b3;refine go 3 ?_;refine Ns 21 [] (Qg (l.getD k Ys) (l.getD ((k+1)%l.length) Ys) (l.getD ((i+1)%l.length) Ys) (Zf c a) (Zf c (Yd a)) (Zf c (Yd b))) λ_ _=>go 12<|Yo J (λa5=>?_) (λa5=>?_)
            .have e:=a5;refine go 15 ?_;exact Yq f () results53 (vB (Qf b (Qk k O a (by rw [Pn O O5,g,Xy e];rfl)))) aA Za
            .have e:=a5;refine go 8 ⟨O,?_⟩;exact Ym (k+1) ⟨⟨O,O⟩,λm o p=>by rcases aC.1 p with d|d;exact n m o d;subst d;exact(by rw [Pn O O5,g,Qn e];rfl)⟩ O1 K1 aA
           .have g:=b3;refine go 32 ?_;exact Yq f () results53 (vB (Qf b (Qk k O a (by rw [Pn O O5,g];rfl)))) aA Za
          .refine go 5 ?_;refine cl 21 [] (Lt (l.getD i Ys) (l.getD ((i+1)%l.length) Ys) (l.getD k Ys) (l.getD ((k+1)%l.length) Ys) (Zf c b) (Zf c (Yd b)) (Zf c a) (Zf c (Yd a))) λ_ _=>go 11<|Yo J (λa6=>?_) (λa6=>?_)
           .have e:=a6;refine go 15 ?_;exact Yq f () results53 (vB (Qf b (Qk k O a (by rw [Ld O O5];exact Xy e)))) aA Za
           .have e:=a6;refine go 8 ⟨O,?_⟩;exact Ym (k+1) ⟨⟨O,O⟩,λm o p=>by rcases aC.1 p with d|d;exact n m o d;subst d;exact(by rw [Ld O O5];exact Qn e)⟩ O1 K1 aA
       .have a:l.length<=k:=O;refine go 10 ⟨O,?_⟩;exact Ym (i+1) ⟨O1,λj hj=>by rcases aC.1 hj with d|d;exact hr j d;subst d;exact Zyf a c3 n⟩ O1 K1 aA
    .have b:l.length<=i:=O;refine go 11 ?_;exact Yq f () results53 (vB (smp_t b k0 c hr)) aA Za
end Go.Sky

