/- Rules, arithmetic and contracts: part 19. No conditions but those that each theorem names. -/
import Derived.Test.YthennaflbbajkaaGreatAk17
set_option linter.all false
set_option maxHeartbeats 4000000
namespace Go.Sky
open Go.Proofs.Tryz
open Go.Proofs
set_option synthInstance.maxHeartbeats 0
set_option synthInstance.maxSize 100000
set_option maxRecDepth 20000
set_option linter.unusedSimpArgs false
variable{v:Value}
theorem Ymv{n:Int}:Xf prog 183 #[.int .i64 n] [] (.int .i64 (Bn n)):=by
 refine Ze func183 ntmps183 λf e d a=>go 14 ?_;refine Zb J (λb=>?_) (λb=>?_)
 .refine go 8 ?_;exact Yv a () results183 (by rw [sgI_n O1]) aA Za
 .refine go 7<|Zb J (λc=>?_) (λc=>?_)
  .refine go 8 ?_;exact Yv a () results183 (by rw [sgI_p O1]) aA Za
  .refine go 9 ?_;exact Yv a () results183 (by rw [sgI_0 O1 O1]) aA Za
theorem Ya5{n:Int}:Xf prog 104 #[.int .i64 n] [] (.int .i64 (Bn n)):=by
 refine Ze func104 ntmps104 λf e d a=>go 14 ?_;refine Zb J (λb=>?_) (λb=>?_)
 .refine go 8 ?_;exact Yv a () results104 (by rw [sgI_n O1]) aA Za
 .refine go 7<|Zb J (λc=>?_) (λc=>?_)
  .refine go 8 ?_;exact Yv a () results104 (by rw [sgI_p O1]) aA Za
  .refine go 9 ?_;exact Yv a () results104 (by rw [sgI_0 O1 O1]) aA Za
theorem Ymu(a b c:Zu)(g:Lb a=true)(h:Lb b=true)(i:Lb c=true):Xf prog 141 #[Yh a,Yh b,Yh c] [] (.tuple #[.int .i64 (trn a b c),.int .i64 0]):=by refine Ze func141 ntmps141 λx w s d=>?_;obtain⟨j,k,l⟩:=Za6 g;obtain⟨m,n,o⟩:=Za6 h;obtain⟨p,q,r⟩:=Za6 i;have t:=Zlv (b.1-a.1) (c.2.1-a.2.1) ⟨O1,O1⟩ ⟨O1,O1⟩;have u:=Zlv (b.2.1-a.2.1) (c.1-a.1) ⟨O1,O1⟩ ⟨O1,O1⟩;refine go 2<|Zx (Zr 1) λbq _=>Zx (Zr 2) λe _=>Zx (Zr 3) λf _=>go 8 ?_;refine cl 3 [] Zsr λ_ _=>?_;refine dt (dF (Ym J J) (aH (λb=>Value.bool (!b)) (Zss g)))<|go 2 ?_;refine Ln 3 [] Zsr λ_ _=>?_;refine Hz (dF (Ym J J) (aH (λb=>Value.bool (!b)) (Zss h))) J J<|go 3 ?_;refine Ln 3 [] Zsr λ_ _=>?_;refine Hz (dF (Ym J J) (aH (λb=>Value.bool (!b)) (Zss i))) J J<|go 31 ⟨O1,O1,O1,O1,O1,O1,O1,?_⟩;refine cl 3 [] Ymv λ_ _=>go 5 ?_;exact Nn d () results141 J aA Za
theorem Zav{a b c:Zu}(g:Lb a=true)(h:Lb b=true)(i:Lb c=true):Xf prog 102 #[Yh a,Yh b,Yh c] [] (.int .i64 (trn a b c)):=by refine Ze func102 ntmps102 λl k j d=>go 2 ?_;refine Zx (Zr 1) λbq _=>Zx (Zr 2) λe _=>Zx (Zr 3) λf _=>go 8 ?_;refine cl 3 [] (Ymu a b c g h i) λ_ _=>go 14 ?_;exact Yv d () results102 J aA Za
theorem Qg(a b c:Zu)(k:Lb a=true)(l:Lb b=true)(m:Lb c=true):Xf prog 98 #[Yh a,Yh b,Yh c] [] (.bool (onB a b c)):=by
 refine Ze func98 ntmps98 λp o n d=>go 2 ?_;refine Zx (Zr 1) λbq _=>Zx (Zr 2) λi _=>Zx (Zr 3) λj _=>go 8 ?_;refine cl 3 [] (Zav (a:=a) (b:=b) (c:=c) k l m) λ_ _=>go 2<|Zk 12 J (λh=>?_) (λh=>?_)
 .refine go 6 ?_;refine Hz (Zms J J J) J J<|go 3 ?_;refine Zk 22 J (λe=>?_) (λe=>?_)
  .refine go 6 ?_;refine Hz (Zbk J J J) J J<|go 3 ?_;refine Zk 32 J (λf=>?_) (λf=>?_)
   .refine go 6 ?_;refine Hz (Zms J J J) J J<|go 3 ?_;refine Zk 42 J (λg=>?_) (λg=>?_)
    .refine go 6 ?_;refine Hz (Zbk J J J) J J<|go 6 ?_;exact Yv d () results98 (by first|exact vB (Yhl ‹_› ‹_› ‹_› ‹_›)|exact vB (Yhm ‹_›)|exact vB (Yhn ‹_›)|exact vB (Yho ‹_›)|exact vB (Yhp ‹_›)) aA Za
    .refine go 13 ?_;exact Yv d () results98 (by first|exact vB (Yhl ‹_› ‹_› ‹_› ‹_›)|exact vB (Yhm ‹_›)|exact vB (Yhn ‹_›)|exact vB (Yho ‹_›)|exact vB (Yhp ‹_›)) aA Za
   .refine go 23 ?_;exact Yv d () results98 (by first|exact vB (Yhl ‹_› ‹_› ‹_› ‹_›)|exact vB (Yhm ‹_›)|exact vB (Yhn ‹_›)|exact vB (Yho ‹_›)|exact vB (Yhp ‹_›)) aA Za
  .refine go 33 ?_;exact Yv d () results98 (by first|exact vB (Yhl ‹_› ‹_› ‹_› ‹_›)|exact vB (Yhm ‹_›)|exact vB (Yhn ‹_›)|exact vB (Yho ‹_›)|exact vB (Yhp ‹_›)) aA Za
 .refine go 43 ?_;exact Yv d () results98 (by first|exact vB (Yhl ‹_› ‹_› ‹_› ‹_›)|exact vB (Yhm ‹_›)|exact vB (Yhn ‹_›)|exact vB (Yho ‹_›)|exact vB (Yhp ‹_›)) aA Za
theorem Lz(a b c d:Zu)(g:Lb a=true)(i:Lb b=true)(j:Lb c=true)(l:Lb d=true):Xf prog 56 #[Yh a,Yh b,Yh c,Yh d] [] (.bool (Zh8 a b c d)):=by
 refine Ze func56 ntmps56 λt s e k=>go 2 ?_;refine Zx (Zr 1) λbq _=>Zx (Zr 2) λp _=>Zx (Zr 3) λq _=>Zx (Zr 4) λr _=>go 4 ?_;rcases Ydk a b c d with f|⟨f,h⟩|⟨f,h,m⟩|⟨f,h,m,n⟩|⟨f,h,m,n,o⟩|⟨f,h,m,n,o⟩
 .refine Pg (λ_=>False) [(0,0),(1,0),(2,0),(3,1),(4,0),(5,2),(6,2),(7,2),(8,2),(9,0),(10,0),(11,2),(12,2),(13,2),(14,2),(15,0),(16,0),(17,2),(18,2),(19,2),(20,2),(21,0),(22,0),(23,2),(24,2),(25,2),(27,2),(28,2),(29,2),(26,2),(30,2),(31,2),(32,2),(33,2),(34,2),(35,2),(36,2),(38,2),(39,2),(40,2),(37,2),(41,2),(42,2),(43,2),(44,2),(45,0),(46,3)]<|go 3<|Qn (Zz 4 [] (Qg a b c g i j)) λ_ _=>?_;refine Qb J J (Pj (dT (Gc J J) (vB f)))<|go 29 ?_;refine Ad J J J J J<|Ad J J J J J<|Ad J J J J J<|Ad J J J J J<|Ad J J J J J<|Ad J J J J J<|Ad J J J J J<|Ad J J J J J<|Ad J J J J J<|Ad J J J J J<|go 6 ?_;exact Yv k () results56 (by unfold Zh8;rw [f];rfl) aA Za
 .refine Pg (λ_=>False) [(0,0),(1,0),(2,0),(3,1),(4,0),(5,0),(6,0),(7,0),(8,1),(9,0),(10,0),(11,2),(12,2),(13,2),(14,2),(15,0),(16,0),(17,2),(18,2),(19,2),(20,2),(21,0),(22,0),(23,2),(24,2),(25,2),(27,2),(28,2),(29,2),(26,2),(30,2),(31,2),(32,2),(33,2),(34,2),(35,2),(36,2),(38,2),(39,2),(40,2),(37,2),(41,2),(42,2),(43,2),(44,2),(45,0),(46,3)]<|go 3<|Qn (Zz 4 [] (Qg a b c g i j)) λ_ _=>?_;refine Qb J J (Pj (dF (Gc J J) (vB f)))<|go 3 ?_;refine Zac J J J J J (Ov 4 (Qg a b d g i l) J J J K3 call98 Zo J e.h) λ_ _=>go 1 ?_;refine Qb J J (Pj (dT (Gc J J) (vB h)))<|go 23 ?_;refine Ad J J J J J<|Ad J J J J J<|Ad J J J J J<|Ad J J J J J<|Ad J J J J J<|Ad J J J J J<|Ad J J J J J<|Ad J J J J J<|Ad J J J J J<|Ad J J J J J<|go 6 ?_;exact Yv k () results56 (by unfold Zh8;rw [f,h];rfl) aA Za
 .refine Pg (λ_=>False) [(0,0),(1,0),(2,0),(3,1),(4,0),(5,0),(6,0),(7,0),(8,1),(9,0),(10,0),(11,0),(12,0),(13,0),(14,1),(15,0),(16,0),(17,2),(18,2),(19,2),(20,2),(21,0),(22,0),(23,2),(24,2),(25,2),(27,2),(28,2),(29,2),(26,2),(30,2),(31,2),(32,2),(33,2),(34,2),(35,2),(36,2),(38,2),(39,2),(40,2),(37,2),(41,2),(42,2),(43,2),(44,2),(45,0),(46,3)]<|go 3<|Qn (Zz 4 [] (Qg a b c g i j)) λ_ _=>?_;refine Qb J J (Pj (dF (Gc J J) (vB f)))<|go 3 ?_;refine Zac J J J J J (Ov 4 (Qg a b d g i l) J J J K3 call98 Zo J e.h) λ_ _=>go 1 ?_;refine Qb J J (Pj (dF (Gc J J) (vB h)))<|go 3 ?_;refine Zac J J J J J (Ov 4 (Qg c d a j l g) J J J K3 call98 Zo J e.h) λ_ _=>go 1 ?_;refine Qb J J (Pj (dT (Gc J J) (vB m)))<|go 17 ?_;refine Ad J J J J J<|Ad J J J J J<|Ad J J J J J<|Ad J J J J J<|Ad J J J J J<|Ad J J J J J<|Ad J J J J J<|Ad J J J J J<|Ad J J J J J<|Ad J J J J J<|go 6 ?_;exact Yv k () results56 (by unfold Zh8;rw [f,h,m];rfl) aA Za
 .refine Pg (λ_=>False) [(0,0),(1,0),(2,0),(3,1),(4,0),(5,0),(6,0),(7,0),(8,1),(9,0),(10,0),(11,0),(12,0),(13,0),(14,1),(15,0),(16,0),(17,0),(18,0),(19,0),(20,1),(21,0),(22,0),(23,2),(24,2),(25,2),(27,2),(28,2),(29,2),(26,2),(30,2),(31,2),(32,2),(33,2),(34,2),(35,2),(36,2),(38,2),(39,2),(40,2),(37,2),(41,2),(42,2),(43,2),(44,2),(45,0),(46,3)]<|go 3<|Qn (Zz 4 [] (Qg a b c g i j)) λ_ _=>?_;refine Qb J J (Pj (dF (Gc J J) (vB f)))<|go 3 ?_;refine Zac J J J J J (Ov 4 (Qg a b d g i l) J J J K3 call98 Zo J e.h) λ_ _=>go 1 ?_;refine Qb J J (Pj (dF (Gc J J) (vB h)))<|go 3 ?_;refine Zac J J J J J (Ov 4 (Qg c d a j l g) J J J K3 call98 Zo J e.h) λ_ _=>go 1 ?_;refine Qb J J (Pj (dF (Gc J J) (vB m)))<|go 3 ?_;refine Zac J J J J J (Ov 4 (Qg c d b j l i) J J J K3 call98 Zo J e.h) λ_ _=>go 1 ?_;refine Qb J J (Pj (dT (Gc J J) (vB n)))<|go 11 ?_;refine Ad J J J J J<|Ad J J J J J<|Ad J J J J J<|Ad J J J J J<|Ad J J J J J<|Ad J J J J J<|Ad J J J J J<|Ad J J J J J<|Ad J J J J J<|Ad J J J J J<|go 6 ?_;exact Yv k () results56 (by unfold Zh8;rw [f,h,m,n];rfl) aA Za
 .refine Pg (λ_=>False) [(0,0),(1,0),(2,0),(3,1),(4,0),(5,0),(6,0),(7,0),(8,1),(9,0),(10,0),(11,0),(12,0),(13,0),(14,1),(15,0),(16,0),(17,0),(18,0),(19,0),(20,1),(21,0),(22,0),(23,0),(24,0),(25,0),(27,0),(28,0),(29,0),(26,1),(30,1),(31,0),(32,0),(33,0),(34,0),(35,0),(36,0),(38,0),(39,0),(40,0),(37,1),(41,1),(42,0),(43,0),(44,0),(45,0),(46,3)]<|go 3<|Qn (Zz 4 [] (Qg a b c g i j)) λ_ _=>?_;refine Qb J J (Pj (dF (Gc J J) (vB f)))<|go 3 ?_;refine Zac J J J J J (Ov 4 (Qg a b d g i l) J J J K3 call98 Zo J e.h) λ_ _=>go 1 ?_;refine Qb J J (Pj (dF (Gc J J) (vB h)))<|go 3 ?_;refine Zac J J J J J (Ov 4 (Qg c d a j l g) J J J K3 call98 Zo J e.h) λ_ _=>go 1 ?_;refine Qb J J (Pj (dF (Gc J J) (vB m)))<|go 3 ?_;refine Zac J J J J J (Ov 4 (Qg c d b j l i) J J J K3 call98 Zo J e.h) λ_ _=>go 1 ?_;refine Qb J J (Pj (dF (Gc J J) (vB n)))<|go 6 ?_;refine Zac J J J J J (Ov 4 (Zav ‹_› ‹_› ‹_›) J J J K3 call102 Zo J e.h) (λ_ _=>?_);refine Zac J J J J J (Ov 4 (Zav ‹_› ‹_› ‹_›) J J J K3 call102 Zo J e.h) (λ_ _=>?_);refine go 2 ⟨by have:=Zm5 (Znr a b c) (Znr a b d);exact⟨O1,O1⟩,?_⟩;refine r0g (Pj (dT (Gc J J) (vB (aE o)))) J J J J J<|go 6 ?_;refine Zac J J J J J (Ov 4 (Zav ‹_› ‹_› ‹_›) J J J K3 call102 Zo J e.h) (λ_ _=>?_);refine Zac J J J J J (Ov 4 (Zav ‹_› ‹_› ‹_›) J J J K3 call102 Zo J e.h) (λ_ _=>?_);refine go 8 ⟨by have:=Zm5 (Znr c d a) (Znr c d b);exact⟨O1,O1⟩,?_⟩;exact Yv k () results56 (by unfold Zh8;unfold mtB;rw [f,h,m,n,aE o];rfl) aA Za
 .refine Pg (λ_=>False) [(0,0),(1,0),(2,0),(3,1),(4,0),(5,0),(6,0),(7,0),(8,1),(9,0),(10,0),(11,0),(12,0),(13,0),(14,1),(15,0),(16,0),(17,0),(18,0),(19,0),(20,1),(21,0),(22,0),(23,0),(24,0),(25,0),(27,0),(28,0),(29,0),(26,1),(30,1),(31,0),(32,0),(33,0),(34,2),(35,2),(36,2),(38,2),(39,2),(40,2),(37,2),(41,2),(42,2),(43,2),(44,0),(45,0),(46,3)]<|go 3<|Qn (Zz 4 [] (Qg a b c g i j)) λ_ _=>?_;refine Qb J J (Pj (dF (Gc J J) (vB f)))<|go 3 ?_;refine Zac J J J J J (Ov 4 (Qg a b d g i l) J J J K3 call98 Zo J e.h) λ_ _=>go 1 ?_;refine Qb J J (Pj (dF (Gc J J) (vB h)))<|go 3 ?_;refine Zac J J J J J (Ov 4 (Qg c d a j l g) J J J K3 call98 Zo J e.h) λ_ _=>go 1 ?_;refine Qb J J (Pj (dF (Gc J J) (vB m)))<|go 3 ?_;refine Zac J J J J J (Ov 4 (Qg c d b j l i) J J J K3 call98 Zo J e.h) λ_ _=>go 1 ?_;refine Qb J J (Pj (dF (Gc J J) (vB n)))<|go 6 ?_;refine Zac J J J J J (Ov 4 (Zav ‹_› ‹_› ‹_›) J J J K3 call102 Zo J e.h) (λ_ _=>?_);refine Zac J J J J J (Ov 4 (Zav ‹_› ‹_› ‹_›) J J J K3 call102 Zo J e.h) (λ_ _=>?_);refine go 2 ⟨by have:=Zm5 (Znr a b c) (Znr a b d);exact⟨O1,O1⟩,?_⟩;refine r0g (Pj (dF (Gc J J) (vB (aG o)))) J J J J J<|go 16 ?_;exact Yv k () results56 (by unfold Zh8;unfold mtB;rw [f,h,m,n,aG o];rfl) aA Za
theorem Zxs(a:Zu):Xf prog 97 #[Yh a] [] (.bool (!Lb a)):=by refine Ze func97 ntmps97 λe d c b=>go 2 ?_;refine Zx (Zr 1) λbq _=>go 6 ?_;refine cl 1 [] (Zet a.1 a.2.1 a.2.2) λ_ _=>go 5 ?_;exact Yv b () results97 J aA Za
theorem ix_pts(l:List Zu):Cal prog 140 #[v,.func (.func 97) #[] #[]] [Yt 3 Yh v l] false (G:=Int) (λr=>decide (r>=0)=!l.all Lb) (λr=> .int .i64 r) (λr=>[]):=by
 refine Ze func140 ntmps140 λo n m d=>?_;refine Mm (Fj (i:=1) J Zl) λf=>go 14 ?_;refine lp (G:=Nat) [0,1,7] [0,1] (λi=>[(8,.int .i64 (i:Int))]) (λi=>[]) (λi=>(i<=l.length)/\(∀j,j<i->Lb (l.getD j Ys)=true)) (λi=>l.length-i) 0 ⟨O2,λj h=>absurd h (bJ j)⟩ K1 aA ?_;rintro i ⟨hi,g⟩;refine go 6<|Zb J (λc=>?_) (λc=>?_)
 .refine go 15 ?_;refine dt (Yk 1 i J J J J Zl Ep Zaa J)<|dt (Pr 1 Ys J J J Zl pPt)<|tt (Gr 1 [] [_] [] (Zxs (l.getD i Ys)) J J J J K1 call97 Zo J m.h) λ_ _=>go 2 ?_;refine Yq J (λa=>?_) (λa=>?_)
  .have b:=a;refine go 12 ?_;exact Yv d (i:Int) results140 J (by rw [al_f O1 (Qa b)];exact aE (kL i)) Za
  .have b:=a;refine go 7 ⟨O1,?_⟩;exact Yj (i+1) ⟨O2,λj k=>by rcases aC.1 k with e|e;exact g j e;subst e;exact Qj b⟩ O2 K1 aA
 .obtain rfl:i=l.length:=O1;refine go 11 ?_;exact Yv d (-1) results140 J (by rw [al_t g];rfl) Za
theorem cf_pts(l:List Zu):Xf prog 96 #[v,.func (.func 97) #[] #[]] [Yt 3 Yh v l] (.bool (!l.all Lb)):=by refine Ze func96 ntmps96 λf e c b=>go 9 ?_;refine cl 1 [1] (ix_pts l) λd a=>go 5 ?_;exact Yv b () results96 (by rw [a]) aA Za
theorem Zoj(l:List Zu):Xf prog 53 #[v] [Yt 3 Yh v l] (.bool (Ij l)):=by
 refine Ze func53 ntmps53 λw0 sc hw f=>?_;refine Mm (Fj (i:=1) J Zl) λl2=>go 18 ?_;refine Zk 15 J (λk1=>?_) (λk1=>?_)
 .refine go 17 ?_;exact Yv f () results53 (vB (by first|exact Yfx O1|exact Yfw (Qa g0))) aA Za
 .refine go 4<|Zk 19 J (λh3=>?_) (λh3=>?_)
  .refine go 13 ?_;exact Yv f () results53 (vB (by first|exact Yfx O1|exact Yfw (Qa g0))) aA Za
  .refine go 1 ?_;refine Ln 1 [1] (cf_pts l) λ_ _=>go 3<|Yq J (λe6=>?_) (λe6=>?_)
   .have g0:=e6;refine go 7 ?_;exact Yv f () results53 (vB (by first|exact Yfx O1|exact Yfw (Qa g0))) aA Za
   .have g0:=e6;have c:l.all Lb=true:=by first|exact Qj g0|(exfalso;omega)
    have k0:3<=l.length/\l.length<=64:=O1;refine go 10 ?_;refine lp (G:=Nat) [0,3,23] [0,1] (λi=>[(24,.int .i64 (i:Int))]) (λi=>[]) (λi=>(i<=l.length)/\(∀j,j<i->Zk6 l j=true)) (λi=>l.length-i) 0 ⟨O2,λj h=>absurd h (bJ j)⟩ K1 aA ?_;rintro i ⟨hi,hr⟩;refine go 6<|Zb J (λj6=>?_) (λj6=>?_)
    .have b:i<l.length:=O1;refine go 11<|Nh [1] [14] ?_;refine Zw 4 [(0,0),(1,0),(2,0),(3,0),(4,0),(5,0),(6,0),(7,0),(8,0),(9,0),(10,0)]<|go 2 ?_;refine Qb J J (Ej (Yk 1 i J J J J Zl Ep Zaa J) K1)<|Qb J J (Ej (Pr 1 Ys J J J Zl pPt) K1)<|go 4 ⟨O1,?_⟩;refine Qb J J (Ej (Yl ( .int .i64 (((i+1)%l.length:Nat):Int)) (Ko J J J O1 O1) (aH (Value.int .i64) (Nq i l.length))) K1)<|Qb J J (Ej (Yk 1 ((i+1)%l.length) J J J J Zl Ep Zaa J (Yf b)) K1)<|Qb J J (Ej (Pr 1 Ys J J J Zl pPt (Yf b)) K1)<|go 1 ?_;refine Nm 3 11 12 ?_ ?_
     .refine Ha (Mh 2) λbq ho=>?_;refine Zw 0 [(12,1),(13,1),(14,3)]<|Qn (Mh 3) λk4 m5=>go 3 ?_;refine Yr<|go 10<|Zk 43 J (λk2=>?_) (λk2=>?_)
      .refine go 8<|Zb J (λe7=>?_) (λe7=>?_)
       .have g0:=e7;refine go 12 ?_;exact Yv f () results53 (vB (Qf b (row_o (by unfold okE;simp_all)))) aA Za
       .have g0:=e7;refine go 10 ⟨O1,?_⟩;have c3:okE l i=true:=by unfold okE;simp_all
        refine lp (G:=Nat) [0,3,4,5,6,23,24,44,45,46,47,48] [0,1,2,3] (λk=>[(7,.int .i64 (k:Int))]) (λk=>[]) (λk=>(i+1<=k/\k<=l.length)/\(∀m,i<m->m<k->Zg9 l i m=true)) (λk=>l.length-k) (i+1) ⟨⟨O1,O1⟩,λm o p=>absurd o O1⟩ K1 aA ?_;rintro k ⟨hk,n⟩;refine go 8<|Zb J (λj7=>?_) (λj7=>?_)
        .have a:k<l.length:=O1;refine go 5<|Nh [1] [14] ?_;refine Zw 4 [(0,0),(1,0),(2,0),(3,0),(4,0),(5,0),(6,0),(7,0),(8,0),(9,0),(10,0)]<|go 2 ?_;refine Qb J J (Ej (Yk 1 k J J J J Zl Ep Zaa J) K1)<|Qb J J (Ej (Pr 1 Ys J J J Zl pPt) K1)<|go 4 ⟨O1,?_⟩;refine Qb J J (Ej (Yl ( .int .i64 (((k+1)%l.length:Nat):Int)) (Ko J J J O1 O1) (aH (Value.int .i64) (Nq k l.length))) K1)<|Qb J J (Ej (Yk 1 ((k+1)%l.length) J J J J Zl Ep Zaa J (Yf a)) K1)<|Qb J J (Ej (Pr 1 Ys J J J Zl pPt (Yf a)) K1)<|go 1 ?_;refine Nm 3 11 12 ?_ ?_
         .refine Ha (Mh 4) λk5 m6=>?_;refine Zw 0 [(12,1),(13,1),(14,3)]<|Qn (Mh 5) λk6 m7=>go 3 ?_;refine Yr<|go 15 ⟨O1,?_⟩;refine Zk 79 J (λk3=>?_) (λk3=>?_)
          .refine go 6<|Zb J (λj8=>?_) (λj8=>?_)
           .refine go 4 ?_;refine cl 5 [] (Qg (l.getD i Ys) (l.getD ((i+1)%l.length) Ys) (l.getD ((k+1)%l.length) Ys) (Zf c b) (Zf c (Yf b)) (Zf c (Yf a))) λ_ _=>go 2<|Xw 88 J (λi3=>?_) (λi3=>?_)
            .have g:=i3;refine go 3 ?_;refine Ln 5 [] (Qg (l.getD k Ys) (l.getD ((k+1)%l.length) Ys) (l.getD i Ys) (Zf c a) (Zf c (Yf a)) (Zf c b)) λ_ _=>go 12<|Yq J (λh0=>?_) (λh0=>?_)
             .have e:=h0;refine go 15 ?_;exact Yv f () results53 (vB (Qf b (Qk k O1 a (by rw [Hu ⟨O1,O1⟩,g,Qa e];rfl)))) aA Za
             .have e:=h0;refine go 8 ⟨O1,?_⟩;exact Yj (k+1) ⟨⟨O1,O1⟩,λm o p=>by rcases aC.1 p with d|d;exact n m o d;subst d;exact(by rw [Hu ⟨O1,O1⟩,g,Qj e];rfl)⟩ O2 K1 aA
            .have g:=i3;refine go 32 ?_;exact Yv f () results53 (vB (Qf b (Qk k O1 a (by rw [Hu ⟨O1,O1⟩,g];rfl)))) aA Za
           .refine go 5 ⟨O1,?_⟩;refine dt (Yl ( .int .i64 (((k+1)%l.length:Nat):Int)) (Ko J J J O1 O1) (aH (Value.int .i64) (Nq k l.length)))<|go 5 ?_;refine Zb J (λj9=>?_) (λj9=>?_)
            .refine go 4 ?_;refine cl 5 [] (Qg (l.getD i Ys) (l.getD ((i+1)%l.length) Ys) (l.getD k Ys) (Zf c b) (Zf c (Yf b)) (Zf c a)) λ_ _=>go 2<|Xw 107 J (λi4=>?_) (λi4=>?_)
             .have g:=i4;refine go 3 ?_;refine Ln 5 [] (Qg (l.getD k Ys) (l.getD ((k+1)%l.length) Ys) (l.getD ((i+1)%l.length) Ys) (Zf c a) (Zf c (Yf a)) (Zf c (Yf b))) λ_ _=>go 12<|Yq J (λb5=>?_) (λb5=>?_)
              .have e:=b5;refine go 15 ?_;exact Yv f () results53 (vB (Qf b (Qk k O1 a (by rw [Pm O1 O6,g,Qa e];rfl)))) aA Za
              .have e:=b5;refine go 8 ⟨O1,?_⟩;exact Yj (k+1) ⟨⟨O1,O1⟩,λm o p=>by rcases aC.1 p with d|d;exact n m o d;subst d;exact(by rw [Pm O1 O6,g,Qj e];rfl)⟩ O2 K1 aA
             .have g:=i4;refine go 32 ?_;exact Yv f () results53 (vB (Qf b (Qk k O1 a (by rw [Pm O1 O6,g];rfl)))) aA Za
            .refine go 5 ?_;refine cl 5 [] (Lz (l.getD i Ys) (l.getD ((i+1)%l.length) Ys) (l.getD k Ys) (l.getD ((k+1)%l.length) Ys) (Zf c b) (Zf c (Yf b)) (Zf c a) (Zf c (Yf a))) λ_ _=>go 11<|Yq J (λb6=>?_) (λb6=>?_)
             .have e:=b6;refine go 15 ?_;exact Yv f () results53 (vB (Qf b (Qk k O1 a (by rw [Lj O1 O6];exact Qa e)))) aA Za
             .have e:=b6;refine go 8 ⟨O1,?_⟩;exact Yj (k+1) ⟨⟨O1,O1⟩,λm o p=>by rcases aC.1 p with d|d;exact n m o d;subst d;exact(by rw [Lj O1 O6];exact Qj e)⟩ O2 K1 aA
          .refine go 12 ⟨O1,?_⟩;refine dt (Yl ( .int .i64 (((k+1)%l.length:Nat):Int)) (Ko J J J O1 O1) (aH (Value.int .i64) (Nq k l.length)))<|go 5 ?_;refine Zb J (λf8=>?_) (λf8=>?_)
           .refine go 4 ?_;refine cl 5 [] (Qg (l.getD i Ys) (l.getD ((i+1)%l.length) Ys) (l.getD k Ys) (Zf c b) (Zf c (Yf b)) (Zf c a)) λ_ _=>go 2<|Xw 107 J (λd1=>?_) (λd1=>?_)
            .have g:=d1;refine go 3 ?_;refine Ln 5 [] (Qg (l.getD k Ys) (l.getD ((k+1)%l.length) Ys) (l.getD ((i+1)%l.length) Ys) (Zf c a) (Zf c (Yf a)) (Zf c (Yf b))) λ_ _=>go 12<|Yq J (λb7=>?_) (λb7=>?_)
             .have e:=b7;refine go 15 ?_;exact Yv f () results53 (vB (Qf b (Qk k O1 a (by rw [Pm O1 O6,g,Qa e];rfl)))) aA Za
             .have e:=b7;refine go 8 ⟨O1,?_⟩;exact Yj (k+1) ⟨⟨O1,O1⟩,λm o p=>by rcases aC.1 p with d|d;exact n m o d;subst d;exact(by rw [Pm O1 O6,g,Qj e];rfl)⟩ O2 K1 aA
            .have g:=d1;refine go 32 ?_;exact Yv f () results53 (vB (Qf b (Qk k O1 a (by rw [Pm O1 O6,g];rfl)))) aA Za
           .refine go 5 ?_;refine cl 5 [] (Lz (l.getD i Ys) (l.getD ((i+1)%l.length) Ys) (l.getD k Ys) (l.getD ((k+1)%l.length) Ys) (Zf c b) (Zf c (Yf b)) (Zf c a) (Zf c (Yf a))) λ_ _=>go 11<|Yq J (λb8=>?_) (λb8=>?_)
            .have e:=b8;refine go 15 ?_;exact Yv f () results53 (vB (Qf b (Qk k O1 a (by rw [Lj O1 O6];exact Qa e)))) aA Za
            .have e:=b8;refine go 8 ⟨O1,?_⟩;exact Yj (k+1) ⟨⟨O1,O1⟩,λm o p=>by rcases aC.1 p with d|d;exact n m o d;subst d;exact(by rw [Lj O1 O6];exact Qj e)⟩ O2 K1 aA
         .refine Ha (Mh 6) λk7 m8=>?_;refine Zw 0 [(11,1),(13,1),(14,3)]<|Qn (Mh 7) λk8 m9=>go 3 ?_;refine Yr<|go 15 ⟨O1,?_⟩;refine Zk 79 J (λh5=>?_) (λh5=>?_)
          .refine go 6<|Zb J (λf1=>?_) (λf1=>?_)
           .refine go 4 ?_;refine cl 7 [] (Qg (l.getD i Ys) (l.getD ((i+1)%l.length) Ys) (l.getD ((k+1)%l.length) Ys) (Zf c b) (Zf c (Yf b)) (Zf c (Yf a))) λ_ _=>go 2<|Xw 88 J (λc4=>?_) (λc4=>?_)
            .have g:=c4;refine go 3 ?_;refine Ln 7 [] (Qg (l.getD k Ys) (l.getD ((k+1)%l.length) Ys) (l.getD i Ys) (Zf c a) (Zf c (Yf a)) (Zf c b)) λ_ _=>go 12<|Yq J (λb9=>?_) (λb9=>?_)
             .have e:=b9;refine go 15 ?_;exact Yv f () results53 (vB (Qf b (Qk k O1 a (by rw [Hu ⟨O1,O1⟩,g,Qa e];rfl)))) aA Za
             .have e:=b9;refine go 8 ⟨O1,?_⟩;exact Yj (k+1) ⟨⟨O1,O1⟩,λm o p=>by rcases aC.1 p with d|d;exact n m o d;subst d;exact(by rw [Hu ⟨O1,O1⟩,g,Qj e];rfl)⟩ O2 K1 aA
            .have g:=c4;refine go 32 ?_;exact Yv f () results53 (vB (Qf b (Qk k O1 a (by rw [Hu ⟨O1,O1⟩,g];rfl)))) aA Za
           .refine go 5 ⟨O1,?_⟩;refine dt (Yl ( .int .i64 (((k+1)%l.length:Nat):Int)) (Ko J J J O1 O1) (aH (Value.int .i64) (Nq k l.length)))<|go 5 ?_;refine Zb J (λf9=>?_) (λf9=>?_)
            .refine go 4 ?_;refine cl 7 [] (Qg (l.getD i Ys) (l.getD ((i+1)%l.length) Ys) (l.getD k Ys) (Zf c b) (Zf c (Yf b)) (Zf c a)) λ_ _=>go 2<|Xw 107 J (λd2=>?_) (λd2=>?_)
             .have g:=d2;refine go 3 ?_;refine Ln 7 [] (Qg (l.getD k Ys) (l.getD ((k+1)%l.length) Ys) (l.getD ((i+1)%l.length) Ys) (Zf c a) (Zf c (Yf a)) (Zf c (Yf b))) λ_ _=>go 12<|Yq J (λc0=>?_) (λc0=>?_)
              .have e:=c0;refine go 15 ?_;exact Yv f () results53 (vB (Qf b (Qk k O1 a (by rw [Pm O1 O6,g,Qa e];rfl)))) aA Za
              .have e:=c0;refine go 8 ⟨O1,?_⟩;exact Yj (k+1) ⟨⟨O1,O1⟩,λm o p=>by rcases aC.1 p with d|d;exact n m o d;subst d;exact(by rw [Pm O1 O6,g,Qj e];rfl)⟩ O2 K1 aA
             .have g:=d2;refine go 32 ?_;exact Yv f () results53 (vB (Qf b (Qk k O1 a (by rw [Pm O1 O6,g];rfl)))) aA Za
            .refine go 5 ?_;refine cl 7 [] (Lz (l.getD i Ys) (l.getD ((i+1)%l.length) Ys) (l.getD k Ys) (l.getD ((k+1)%l.length) Ys) (Zf c b) (Zf c (Yf b)) (Zf c a) (Zf c (Yf a))) λ_ _=>go 11<|Yq J (λc1=>?_) (λc1=>?_)
             .have e:=c1;refine go 15 ?_;exact Yv f () results53 (vB (Qf b (Qk k O1 a (by rw [Lj O1 O6];exact Qa e)))) aA Za
             .have e:=c1;refine go 8 ⟨O1,?_⟩;exact Yj (k+1) ⟨⟨O1,O1⟩,λm o p=>by rcases aC.1 p with d|d;exact n m o d;subst d;exact(by rw [Lj O1 O6];exact Qj e)⟩ O2 K1 aA
          .refine go 12 ⟨O1,?_⟩;refine dt (Yl ( .int .i64 (((k+1)%l.length:Nat):Int)) (Ko J J J O1 O1) (aH (Value.int .i64) (Nq k l.length)))<|go 5 ?_;refine Zb J (λg3=>?_) (λg3=>?_)
           .refine go 4 ?_;refine cl 7 [] (Qg (l.getD i Ys) (l.getD ((i+1)%l.length) Ys) (l.getD k Ys) (Zf c b) (Zf c (Yf b)) (Zf c a)) λ_ _=>go 2<|Xw 107 J (λd3=>?_) (λd3=>?_)
            .have g:=d3;refine go 3 ?_;refine Ln 7 [] (Qg (l.getD k Ys) (l.getD ((k+1)%l.length) Ys) (l.getD ((i+1)%l.length) Ys) (Zf c a) (Zf c (Yf a)) (Zf c (Yf b))) λ_ _=>go 12<|Yq J (λc2=>?_) (λc2=>?_)
             .have e:=c2;refine go 15 ?_;exact Yv f () results53 (vB (Qf b (Qk k O1 a (by rw [Pm O1 O6,g,Qa e];rfl)))) aA Za
             .have e:=c2;refine go 8 ⟨O1,?_⟩;exact Yj (k+1) ⟨⟨O1,O1⟩,λm o p=>by rcases aC.1 p with d|d;exact n m o d;subst d;exact(by rw [Pm O1 O6,g,Qj e];rfl)⟩ O2 K1 aA
            .have g:=d3;refine go 32 ?_;exact Yv f () results53 (vB (Qf b (Qk k O1 a (by rw [Pm O1 O6,g];rfl)))) aA Za
           .refine go 5 ?_;refine cl 7 [] (Lz (l.getD i Ys) (l.getD ((i+1)%l.length) Ys) (l.getD k Ys) (l.getD ((k+1)%l.length) Ys) (Zf c b) (Zf c (Yf b)) (Zf c a) (Zf c (Yf a))) λ_ _=>go 11<|Yq J (λq=>?_) (λq=>?_)
            .have e:=q;refine go 15 ?_;exact Yv f () results53 (vB (Qf b (Qk k O1 a (by rw [Lj O1 O6];exact Qa e)))) aA Za
            .have e:=q;refine go 8 ⟨O1,?_⟩;exact Yj (k+1) ⟨⟨O1,O1⟩,λm o p=>by rcases aC.1 p with d|d;exact n m o d;subst d;exact(by rw [Lj O1 O6];exact Qj e)⟩ O2 K1 aA
        .have a:l.length<=k:=O1;refine go 10 ⟨O1,?_⟩;exact Yj (i+1) ⟨O2,λj hj=>by rcases aC.1 hj with d|d;exact hr j d;subst d;exact Zzr a c3 n⟩ O2 K1 aA
      .refine go 19 ⟨O1,?_⟩;have c3:okE l i=true:=by unfold okE;simp_all
       refine lp (G:=Nat) [0,3,4,5,6,23,24,44,45,46,47,48] [0,1,2,3] (λk=>[(7,.int .i64 (k:Int))]) (λk=>[]) (λk=>(i+1<=k/\k<=l.length)/\(∀m,i<m->m<k->Zg9 l i m=true)) (λk=>l.length-k) (i+1) ⟨⟨O1,O1⟩,λm o p=>absurd o O1⟩ K1 aA ?_;rintro k ⟨hk,n⟩;refine go 8<|Zb J (λe8=>?_) (λe8=>?_)
       .have a:k<l.length:=O1;refine go 5<|Nh [1] [14] ?_;refine Zw 4 [(0,0),(1,0),(2,0),(3,0),(4,0),(5,0),(6,0),(7,0),(8,0),(9,0),(10,0)]<|go 2 ?_;refine Qb J J (Ej (Yk 1 k J J J J Zl Ep Zaa J) K1)<|Qb J J (Ej (Pr 1 Ys J J J Zl pPt) K1)<|go 4 ⟨O1,?_⟩;refine Qb J J (Ej (Yl ( .int .i64 (((k+1)%l.length:Nat):Int)) (Ko J J J O1 O1) (aH (Value.int .i64) (Nq k l.length))) K1)<|Qb J J (Ej (Yk 1 ((k+1)%l.length) J J J J Zl Ep Zaa J (Yf a)) K1)<|Qb J J (Ej (Pr 1 Ys J J J Zl pPt (Yf a)) K1)<|go 1 ?_;refine Nm 3 11 12 ?_ ?_
        .refine Ha (Mh 8) λk9 n0=>?_;refine Zw 0 [(12,1),(13,1),(14,3)]<|Qn (Mh 9) λl0 n1=>go 3 ?_;refine Yr<|go 15 ⟨O1,?_⟩;refine Zk 79 J (λh6=>?_) (λh6=>?_)
         .refine go 6<|Zb J (λf2=>?_) (λf2=>?_)
          .refine go 4 ?_;refine cl 9 [] (Qg (l.getD i Ys) (l.getD ((i+1)%l.length) Ys) (l.getD ((k+1)%l.length) Ys) (Zf c b) (Zf c (Yf b)) (Zf c (Yf a))) λ_ _=>go 2<|Xw 88 J (λc5=>?_) (λc5=>?_)
           .have g:=c5;refine go 3 ?_;refine Ln 9 [] (Qg (l.getD k Ys) (l.getD ((k+1)%l.length) Ys) (l.getD i Ys) (Zf c a) (Zf c (Yf a)) (Zf c b)) λ_ _=>go 12<|Yq J (λr=>?_) (λr=>?_)
            .have e:=r;refine go 15 ?_;exact Yv f () results53 (vB (Qf b (Qk k O1 a (by rw [Hu ⟨O1,O1⟩,g,Qa e];rfl)))) aA Za
            .have e:=r;refine go 8 ⟨O1,?_⟩;exact Yj (k+1) ⟨⟨O1,O1⟩,λm o p=>by rcases aC.1 p with d|d;exact n m o d;subst d;exact(by rw [Hu ⟨O1,O1⟩,g,Qj e];rfl)⟩ O2 K1 aA
           .have g:=c5;refine go 32 ?_;exact Yv f () results53 (vB (Qf b (Qk k O1 a (by rw [Hu ⟨O1,O1⟩,g];rfl)))) aA Za
          .refine go 5 ⟨O1,?_⟩;refine dt (Yl ( .int .i64 (((k+1)%l.length:Nat):Int)) (Ko J J J O1 O1) (aH (Value.int .i64) (Nq k l.length)))<|go 5 ?_;refine Zb J (λg4=>?_) (λg4=>?_)
           .refine go 4 ?_;refine cl 9 [] (Qg (l.getD i Ys) (l.getD ((i+1)%l.length) Ys) (l.getD k Ys) (Zf c b) (Zf c (Yf b)) (Zf c a)) λ_ _=>go 2<|Xw 107 J (λd4=>?_) (λd4=>?_)
            .have g:=d4;refine go 3 ?_;refine Ln 9 [] (Qg (l.getD k Ys) (l.getD ((k+1)%l.length) Ys) (l.getD ((i+1)%l.length) Ys) (Zf c a) (Zf c (Yf a)) (Zf c (Yf b))) λ_ _=>go 12<|Yq J (λs=>?_) (λs=>?_)
             .have e:=s;refine go 15 ?_;exact Yv f () results53 (vB (Qf b (Qk k O1 a (by rw [Pm O1 O6,g,Qa e];rfl)))) aA Za
             .have e:=s;refine go 8 ⟨O1,?_⟩;exact Yj (k+1) ⟨⟨O1,O1⟩,λm o p=>by rcases aC.1 p with d|d;exact n m o d;subst d;exact(by rw [Pm O1 O6,g,Qj e];rfl)⟩ O2 K1 aA
            .have g:=d4;refine go 32 ?_;exact Yv f () results53 (vB (Qf b (Qk k O1 a (by rw [Pm O1 O6,g];rfl)))) aA Za
           .refine go 5 ?_;refine cl 9 [] (Lz (l.getD i Ys) (l.getD ((i+1)%l.length) Ys) (l.getD k Ys) (l.getD ((k+1)%l.length) Ys) (Zf c b) (Zf c (Yf b)) (Zf c a) (Zf c (Yf a))) λ_ _=>go 11<|Yq J (λt=>?_) (λt=>?_)
            .have e:=t;refine go 15 ?_;exact Yv f () results53 (vB (Qf b (Qk k O1 a (by rw [Lj O1 O6];exact Qa e)))) aA Za
            .have e:=t;refine go 8 ⟨O1,?_⟩;exact Yj (k+1) ⟨⟨O1,O1⟩,λm o p=>by rcases aC.1 p with d|d;exact n m o d;subst d;exact(by rw [Lj O1 O6];exact Qj e)⟩ O2 K1 aA
         .refine go 12 ⟨O1,?_⟩;refine dt (Yl ( .int .i64 (((k+1)%l.length:Nat):Int)) (Ko J J J O1 O1) (aH (Value.int .i64) (Nq k l.length)))<|go 5 ?_;refine Zb J (λg5=>?_) (λg5=>?_)
          .refine go 4 ?_;refine cl 9 [] (Qg (l.getD i Ys) (l.getD ((i+1)%l.length) Ys) (l.getD k Ys) (Zf c b) (Zf c (Yf b)) (Zf c a)) λ_ _=>go 2<|Xw 107 J (λd5=>?_) (λd5=>?_)
           .have g:=d5;refine go 3 ?_;refine Ln 9 [] (Qg (l.getD k Ys) (l.getD ((k+1)%l.length) Ys) (l.getD ((i+1)%l.length) Ys) (Zf c a) (Zf c (Yf a)) (Zf c (Yf b))) λ_ _=>go 12<|Yq J (λu=>?_) (λu=>?_)
            .have e:=u;refine go 15 ?_;exact Yv f () results53 (vB (Qf b (Qk k O1 a (by rw [Pm O1 O6,g,Qa e];rfl)))) aA Za
            .have e:=u;refine go 8 ⟨O1,?_⟩;exact Yj (k+1) ⟨⟨O1,O1⟩,λm o p=>by rcases aC.1 p with d|d;exact n m o d;subst d;exact(by rw [Pm O1 O6,g,Qj e];rfl)⟩ O2 K1 aA
           .have g:=d5;refine go 32 ?_;exact Yv f () results53 (vB (Qf b (Qk k O1 a (by rw [Pm O1 O6,g];rfl)))) aA Za
          .refine go 5 ?_;refine cl 9 [] (Lz (l.getD i Ys) (l.getD ((i+1)%l.length) Ys) (l.getD k Ys) (l.getD ((k+1)%l.length) Ys) (Zf c b) (Zf c (Yf b)) (Zf c a) (Zf c (Yf a))) λ_ _=>go 11<|Yq J (λw=>?_) (λw=>?_)
           .have e:=w;refine go 15 ?_;exact Yv f () results53 (vB (Qf b (Qk k O1 a (by rw [Lj O1 O6];exact Qa e)))) aA Za
           .have e:=w;refine go 8 ⟨O1,?_⟩;exact Yj (k+1) ⟨⟨O1,O1⟩,λm o p=>by rcases aC.1 p with d|d;exact n m o d;subst d;exact(by rw [Lj O1 O6];exact Qj e)⟩ O2 K1 aA
        .refine Ha (Mh 10) λl1 n2=>?_;refine Zw 0 [(11,1),(13,1),(14,3)]<|Qn (Mh 11) λi5 l4=>go 3 ?_;refine Yr<|go 15 ⟨O1,?_⟩;refine Zk 79 J (λh7=>?_) (λh7=>?_)
         .refine go 6<|Zb J (λf3=>?_) (λf3=>?_)
          .refine go 4 ?_;refine cl 11 [] (Qg (l.getD i Ys) (l.getD ((i+1)%l.length) Ys) (l.getD ((k+1)%l.length) Ys) (Zf c b) (Zf c (Yf b)) (Zf c (Yf a))) λ_ _=>go 2<|Xw 88 J (λc6=>?_) (λc6=>?_)
           .have g:=c6;refine go 3 ?_;refine Ln 11 [] (Qg (l.getD k Ys) (l.getD ((k+1)%l.length) Ys) (l.getD i Ys) (Zf c a) (Zf c (Yf a)) (Zf c b)) λ_ _=>go 12<|Yq J (λx=>?_) (λx=>?_)
            .have e:=x;refine go 15 ?_;exact Yv f () results53 (vB (Qf b (Qk k O1 a (by rw [Hu ⟨O1,O1⟩,g,Qa e];rfl)))) aA Za
            .have e:=x;refine go 8 ⟨O1,?_⟩;exact Yj (k+1) ⟨⟨O1,O1⟩,λm o p=>by rcases aC.1 p with d|d;exact n m o d;subst d;exact(by rw [Hu ⟨O1,O1⟩,g,Qj e];rfl)⟩ O2 K1 aA
           .have g:=c6;refine go 32 ?_;exact Yv f () results53 (vB (Qf b (Qk k O1 a (by rw [Hu ⟨O1,O1⟩,g];rfl)))) aA Za
          .refine go 5 ⟨O1,?_⟩;refine dt (Yl ( .int .i64 (((k+1)%l.length:Nat):Int)) (Ko J J J O1 O1) (aH (Value.int .i64) (Nq k l.length)))<|go 5 ?_;refine Zb J (λg6=>?_) (λg6=>?_)
           .refine go 4 ?_;refine cl 11 [] (Qg (l.getD i Ys) (l.getD ((i+1)%l.length) Ys) (l.getD k Ys) (Zf c b) (Zf c (Yf b)) (Zf c a)) λ_ _=>go 2<|Xw 107 J (λd6=>?_) (λd6=>?_)
            .have g:=d6;refine go 3 ?_;refine Ln 11 [] (Qg (l.getD k Ys) (l.getD ((k+1)%l.length) Ys) (l.getD ((i+1)%l.length) Ys) (Zf c a) (Zf c (Yf a)) (Zf c (Yf b))) λ_ _=>go 12<|Yq J (λy=>?_) (λy=>?_)
             .have e:=y;refine go 15 ?_;exact Yv f () results53 (vB (Qf b (Qk k O1 a (by rw [Pm O1 O6,g,Qa e];rfl)))) aA Za
             .have e:=y;refine go 8 ⟨O1,?_⟩;exact Yj (k+1) ⟨⟨O1,O1⟩,λm o p=>by rcases aC.1 p with d|d;exact n m o d;subst d;exact(by rw [Pm O1 O6,g,Qj e];rfl)⟩ O2 K1 aA
            .have g:=d6;refine go 32 ?_;exact Yv f () results53 (vB (Qf b (Qk k O1 a (by rw [Pm O1 O6,g];rfl)))) aA Za
           .refine go 5 ?_;refine cl 11 [] (Lz (l.getD i Ys) (l.getD ((i+1)%l.length) Ys) (l.getD k Ys) (l.getD ((k+1)%l.length) Ys) (Zf c b) (Zf c (Yf b)) (Zf c a) (Zf c (Yf a))) λ_ _=>go 11<|Yq J (λz=>?_) (λz=>?_)
            .have e:=z;refine go 15 ?_;exact Yv f () results53 (vB (Qf b (Qk k O1 a (by rw [Lj O1 O6];exact Qa e)))) aA Za
            .have e:=z;refine go 8 ⟨O1,?_⟩;exact Yj (k+1) ⟨⟨O1,O1⟩,λm o p=>by rcases aC.1 p with d|d;exact n m o d;subst d;exact(by rw [Lj O1 O6];exact Qj e)⟩ O2 K1 aA
         .refine go 12 ⟨O1,?_⟩;refine dt (Yl ( .int .i64 (((k+1)%l.length:Nat):Int)) (Ko J J J O1 O1) (aH (Value.int .i64) (Nq k l.length)))<|go 5 ?_;refine Zb J (λg7=>?_) (λg7=>?_)
          .refine go 4 ?_;refine cl 11 [] (Qg (l.getD i Ys) (l.getD ((i+1)%l.length) Ys) (l.getD k Ys) (Zf c b) (Zf c (Yf b)) (Zf c a)) λ_ _=>go 2<|Xw 107 J (λd7=>?_) (λd7=>?_)
           .have g:=d7;refine go 3 ?_;refine Ln 11 [] (Qg (l.getD k Ys) (l.getD ((k+1)%l.length) Ys) (l.getD ((i+1)%l.length) Ys) (Zf c a) (Zf c (Yf a)) (Zf c (Yf b))) λ_ _=>go 12<|Yq J (λB=>?_) (λB=>?_)
            .have e:=B;refine go 15 ?_;exact Yv f () results53 (vB (Qf b (Qk k O1 a (by rw [Pm O1 O6,g,Qa e];rfl)))) aA Za
            .have e:=B;refine go 8 ⟨O1,?_⟩;exact Yj (k+1) ⟨⟨O1,O1⟩,λm o p=>by rcases aC.1 p with d|d;exact n m o d;subst d;exact(by rw [Pm O1 O6,g,Qj e];rfl)⟩ O2 K1 aA
           .have g:=d7;refine go 32 ?_;exact Yv f () results53 (vB (Qf b (Qk k O1 a (by rw [Pm O1 O6,g];rfl)))) aA Za
          .refine go 5 ?_;refine cl 11 [] (Lz (l.getD i Ys) (l.getD ((i+1)%l.length) Ys) (l.getD k Ys) (l.getD ((k+1)%l.length) Ys) (Zf c b) (Zf c (Yf b)) (Zf c a) (Zf c (Yf a))) λ_ _=>go 11<|Yq J (λD=>?_) (λD=>?_)
           .have e:=D;refine go 15 ?_;exact Yv f () results53 (vB (Qf b (Qk k O1 a (by rw [Lj O1 O6];exact Qa e)))) aA Za
           .have e:=D;refine go 8 ⟨O1,?_⟩;exact Yj (k+1) ⟨⟨O1,O1⟩,λm o p=>by rcases aC.1 p with d|d;exact n m o d;subst d;exact(by rw [Lj O1 O6];exact Qj e)⟩ O2 K1 aA
       .have a:l.length<=k:=O1;refine go 10 ⟨O1,?_⟩;exact Yj (i+1) ⟨O2,λj hj=>by rcases aC.1 hj with d|d;exact hr j d;subst d;exact Zzr a c3 n⟩ O2 K1 aA
     .refine Ha (Mh 12) λi6 l5=>?_;refine Zw 0 [(11,1),(13,1),(14,3)]<|Qn (Mh 13) λi7 l6=>go 3 ?_;refine Yr<|go 10<|Zk 43 J (λh4=>?_) (λh4=>?_)
      .refine go 8<|Zb J (λb4=>?_) (λb4=>?_)
       .have g0:=b4;refine go 12 ?_;exact Yv f () results53 (vB (Qf b (row_o (by unfold okE;simp_all)))) aA Za
       .have g0:=b4;refine go 10 ⟨O1,?_⟩;have c3:okE l i=true:=by unfold okE;simp_all
        refine lp (G:=Nat) [0,3,4,5,6,23,24,44,45,46,47,48] [0,1,12,13] (λk=>[(7,.int .i64 (k:Int))]) (λk=>[]) (λk=>(i+1<=k/\k<=l.length)/\(∀m,i<m->m<k->Zg9 l i m=true)) (λk=>l.length-k) (i+1) ⟨⟨O1,O1⟩,λm o p=>absurd o O1⟩ K1 aA ?_;rintro k ⟨hk,n⟩;refine go 8<|Zb J (λe9=>?_) (λe9=>?_)
        .have a:k<l.length:=O1;refine go 5<|Nh [1] [14] ?_;refine Zw 4 [(0,0),(1,0),(2,0),(3,0),(4,0),(5,0),(6,0),(7,0),(8,0),(9,0),(10,0)]<|go 2 ?_;refine Qb J J (Ej (Yk 1 k J J J J Zl Ep Zaa J) K1)<|Qb J J (Ej (Pr 1 Ys J J J Zl pPt) K1)<|go 4 ⟨O1,?_⟩;refine Qb J J (Ej (Yl ( .int .i64 (((k+1)%l.length:Nat):Int)) (Ko J J J O1 O1) (aH (Value.int .i64) (Nq k l.length))) K1)<|Qb J J (Ej (Yk 1 ((k+1)%l.length) J J J J Zl Ep Zaa J (Yf a)) K1)<|Qb J J (Ej (Pr 1 Ys J J J Zl pPt (Yf a)) K1)<|go 1 ?_;refine Nm 3 11 12 ?_ ?_
         .refine Ha (Mh 14) λi8 l7=>?_;refine Zw 0 [(12,1),(13,1),(14,3)]<|Qn (Mh 15) λi9 l8=>go 3 ?_;refine Yr<|go 15 ⟨O1,?_⟩;refine Zk 79 J (λh8=>?_) (λh8=>?_)
          .refine go 6<|Zb J (λf4=>?_) (λf4=>?_)
           .refine go 4 ?_;refine cl 15 [] (Qg (l.getD i Ys) (l.getD ((i+1)%l.length) Ys) (l.getD ((k+1)%l.length) Ys) (Zf c b) (Zf c (Yf b)) (Zf c (Yf a))) λ_ _=>go 2<|Xw 88 J (λc7=>?_) (λc7=>?_)
            .have g:=c7;refine go 3 ?_;refine Ln 15 [] (Qg (l.getD k Ys) (l.getD ((k+1)%l.length) Ys) (l.getD i Ys) (Zf c a) (Zf c (Yf a)) (Zf c b)) λ_ _=>go 12<|Yq J (λF=>?_) (λF=>?_)
             .have e:=F;refine go 15 ?_;exact Yv f () results53 (vB (Qf b (Qk k O1 a (by rw [Hu ⟨O1,O1⟩,g,Qa e];rfl)))) aA Za
             .have e:=F;refine go 8 ⟨O1,?_⟩;exact Yj (k+1) ⟨⟨O1,O1⟩,λm o p=>by rcases aC.1 p with d|d;exact n m o d;subst d;exact(by rw [Hu ⟨O1,O1⟩,g,Qj e];rfl)⟩ O2 K1 aA
            .have g:=c7;refine go 32 ?_;exact Yv f () results53 (vB (Qf b (Qk k O1 a (by rw [Hu ⟨O1,O1⟩,g];rfl)))) aA Za
           .refine go 5 ⟨O1,?_⟩;refine dt (Yl ( .int .i64 (((k+1)%l.length:Nat):Int)) (Ko J J J O1 O1) (aH (Value.int .i64) (Nq k l.length)))<|go 5 ?_;refine Zb J (λg9=>?_) (λg9=>?_)
            .refine go 4 ?_;refine cl 15 [] (Qg (l.getD i Ys) (l.getD ((i+1)%l.length) Ys) (l.getD k Ys) (Zf c b) (Zf c (Yf b)) (Zf c a)) λ_ _=>go 2<|Xw 107 J (λd8=>?_) (λd8=>?_)
             .have g:=d8;refine go 3 ?_;refine Ln 15 [] (Qg (l.getD k Ys) (l.getD ((k+1)%l.length) Ys) (l.getD ((i+1)%l.length) Ys) (Zf c a) (Zf c (Yf a)) (Zf c (Yf b))) λ_ _=>go 12<|Yq J (λH=>?_) (λH=>?_)
              .have e:=H;refine go 15 ?_;exact Yv f () results53 (vB (Qf b (Qk k O1 a (by rw [Pm O1 O6,g,Qa e];rfl)))) aA Za
              .have e:=H;refine go 8 ⟨O1,?_⟩;exact Yj (k+1) ⟨⟨O1,O1⟩,λm o p=>by rcases aC.1 p with d|d;exact n m o d;subst d;exact(by rw [Pm O1 O6,g,Qj e];rfl)⟩ O2 K1 aA
             .have g:=d8;refine go 32 ?_;exact Yv f () results53 (vB (Qf b (Qk k O1 a (by rw [Pm O1 O6,g];rfl)))) aA Za
            .refine go 5 ?_;refine cl 15 [] (Lz (l.getD i Ys) (l.getD ((i+1)%l.length) Ys) (l.getD k Ys) (l.getD ((k+1)%l.length) Ys) (Zf c b) (Zf c (Yf b)) (Zf c a) (Zf c (Yf a))) λ_ _=>go 11<|Yq J (λI=>?_) (λI=>?_)
             .have e:=I;refine go 15 ?_;exact Yv f () results53 (vB (Qf b (Qk k O1 a (by rw [Lj O1 O6];exact Qa e)))) aA Za
             .have e:=I;refine go 8 ⟨O1,?_⟩;exact Yj (k+1) ⟨⟨O1,O1⟩,λm o p=>by rcases aC.1 p with d|d;exact n m o d;subst d;exact(by rw [Lj O1 O6];exact Qj e)⟩ O2 K1 aA
          .refine go 12 ⟨O1,?_⟩;refine dt (Yl ( .int .i64 (((k+1)%l.length:Nat):Int)) (Ko J J J O1 O1) (aH (Value.int .i64) (Nq k l.length)))<|go 5 ?_;refine Zb J (λd9=>?_) (λd9=>?_)
           .refine go 4 ?_;refine cl 15 [] (Qg (l.getD i Ys) (l.getD ((i+1)%l.length) Ys) (l.getD k Ys) (Zf c b) (Zf c (Yf b)) (Zf c a)) λ_ _=>go 2<|Xw 107 J (λa7=>?_) (λa7=>?_)
            .have g:=a7;refine go 3 ?_;refine Ln 15 [] (Qg (l.getD k Ys) (l.getD ((k+1)%l.length) Ys) (l.getD ((i+1)%l.length) Ys) (Zf c a) (Zf c (Yf a)) (Zf c (Yf b))) λ_ _=>go 12<|Yq J (λM=>?_) (λM=>?_)
             .have e:=M;refine go 15 ?_;exact Yv f () results53 (vB (Qf b (Qk k O1 a (by rw [Pm O1 O6,g,Qa e];rfl)))) aA Za
             .have e:=M;refine go 8 ⟨O1,?_⟩;exact Yj (k+1) ⟨⟨O1,O1⟩,λm o p=>by rcases aC.1 p with d|d;exact n m o d;subst d;exact(by rw [Pm O1 O6,g,Qj e];rfl)⟩ O2 K1 aA
            .have g:=a7;refine go 32 ?_;exact Yv f () results53 (vB (Qf b (Qk k O1 a (by rw [Pm O1 O6,g];rfl)))) aA Za
           .refine go 5 ?_;refine cl 15 [] (Lz (l.getD i Ys) (l.getD ((i+1)%l.length) Ys) (l.getD k Ys) (l.getD ((k+1)%l.length) Ys) (Zf c b) (Zf c (Yf b)) (Zf c a) (Zf c (Yf a))) λ_ _=>go 11<|Yq J (λN=>?_) (λN=>?_)
            .have e:=N;refine go 15 ?_;exact Yv f () results53 (vB (Qf b (Qk k O1 a (by rw [Lj O1 O6];exact Qa e)))) aA Za
            .have e:=N;refine go 8 ⟨O1,?_⟩;exact Yj (k+1) ⟨⟨O1,O1⟩,λm o p=>by rcases aC.1 p with d|d;exact n m o d;subst d;exact(by rw [Lj O1 O6];exact Qj e)⟩ O2 K1 aA
         .refine Ha (Mh 16) λj0 l9=>?_;refine Zw 0 [(11,1),(13,1),(14,3)]<|Qn (Mh 17) λj1 m0=>go 3 ?_;refine Yr<|go 15 ⟨O1,?_⟩;refine Zk 79 J (λi0=>?_) (λi0=>?_)
          .refine go 6<|Zb J (λf5=>?_) (λf5=>?_)
           .refine go 4 ?_;refine cl 17 [] (Qg (l.getD i Ys) (l.getD ((i+1)%l.length) Ys) (l.getD ((k+1)%l.length) Ys) (Zf c b) (Zf c (Yf b)) (Zf c (Yf a))) λ_ _=>go 2<|Xw 88 J (λc8=>?_) (λc8=>?_)
            .have g:=c8;refine go 3 ?_;refine Ln 17 [] (Qg (l.getD k Ys) (l.getD ((k+1)%l.length) Ys) (l.getD i Ys) (Zf c a) (Zf c (Yf a)) (Zf c b)) λ_ _=>go 12<|Yq J (λP=>?_) (λP=>?_)
             .have e:=P;refine go 15 ?_;exact Yv f () results53 (vB (Qf b (Qk k O1 a (by rw [Hu ⟨O1,O1⟩,g,Qa e];rfl)))) aA Za
             .have e:=P;refine go 8 ⟨O1,?_⟩;exact Yj (k+1) ⟨⟨O1,O1⟩,λm o p=>by rcases aC.1 p with d|d;exact n m o d;subst d;exact(by rw [Hu ⟨O1,O1⟩,g,Qj e];rfl)⟩ O2 K1 aA
            .have g:=c8;refine go 32 ?_;exact Yv f () results53 (vB (Qf b (Qk k O1 a (by rw [Hu ⟨O1,O1⟩,g];rfl)))) aA Za
           .refine go 5 ⟨O1,?_⟩;refine dt (Yl ( .int .i64 (((k+1)%l.length:Nat):Int)) (Ko J J J O1 O1) (aH (Value.int .i64) (Nq k l.length)))<|go 5 ?_;refine Zb J (λe0=>?_) (λe0=>?_)
            .refine go 4 ?_;refine cl 17 [] (Qg (l.getD i Ys) (l.getD ((i+1)%l.length) Ys) (l.getD k Ys) (Zf c b) (Zf c (Yf b)) (Zf c a)) λ_ _=>go 2<|Xw 107 J (λa8=>?_) (λa8=>?_)
             .have g:=a8;refine go 3 ?_;refine Ln 17 [] (Qg (l.getD k Ys) (l.getD ((k+1)%l.length) Ys) (l.getD ((i+1)%l.length) Ys) (Zf c a) (Zf c (Yf a)) (Zf c (Yf b))) λ_ _=>go 12<|Yq J (λQ=>?_) (λQ=>?_)
              .have e:=Q;refine go 15 ?_;exact Yv f () results53 (vB (Qf b (Qk k O1 a (by rw [Pm O1 O6,g,Qa e];rfl)))) aA Za
              .have e:=Q;refine go 8 ⟨O1,?_⟩;exact Yj (k+1) ⟨⟨O1,O1⟩,λm o p=>by rcases aC.1 p with d|d;exact n m o d;subst d;exact(by rw [Pm O1 O6,g,Qj e];rfl)⟩ O2 K1 aA
             .have g:=a8;refine go 32 ?_;exact Yv f () results53 (vB (Qf b (Qk k O1 a (by rw [Pm O1 O6,g];rfl)))) aA Za
            .refine go 5 ?_;refine cl 17 [] (Lz (l.getD i Ys) (l.getD ((i+1)%l.length) Ys) (l.getD k Ys) (l.getD ((k+1)%l.length) Ys) (Zf c b) (Zf c (Yf b)) (Zf c a) (Zf c (Yf a))) λ_ _=>go 11<|Yq J (λR=>?_) (λR=>?_)
             .have e:=R;refine go 15 ?_;exact Yv f () results53 (vB (Qf b (Qk k O1 a (by rw [Lj O1 O6];exact Qa e)))) aA Za
             .have e:=R;refine go 8 ⟨O1,?_⟩;exact Yj (k+1) ⟨⟨O1,O1⟩,λm o p=>by rcases aC.1 p with d|d;exact n m o d;subst d;exact(by rw [Lj O1 O6];exact Qj e)⟩ O2 K1 aA
          .refine go 12 ⟨O1,?_⟩;refine dt (Yl ( .int .i64 (((k+1)%l.length:Nat):Int)) (Ko J J J O1 O1) (aH (Value.int .i64) (Nq k l.length)))<|go 5 ?_;refine Zb J (λe1=>?_) (λe1=>?_)
           .refine go 4 ?_;refine cl 17 [] (Qg (l.getD i Ys) (l.getD ((i+1)%l.length) Ys) (l.getD k Ys) (Zf c b) (Zf c (Yf b)) (Zf c a)) λ_ _=>go 2<|Xw 107 J (λa9=>?_) (λa9=>?_)
            .have g:=a9;refine go 3 ?_;refine Ln 17 [] (Qg (l.getD k Ys) (l.getD ((k+1)%l.length) Ys) (l.getD ((i+1)%l.length) Ys) (Zf c a) (Zf c (Yf a)) (Zf c (Yf b))) λ_ _=>go 12<|Yq J (λS=>?_) (λS=>?_)
             .have e:=S;refine go 15 ?_;exact Yv f () results53 (vB (Qf b (Qk k O1 a (by rw [Pm O1 O6,g,Qa e];rfl)))) aA Za
             .have e:=S;refine go 8 ⟨O1,?_⟩;exact Yj (k+1) ⟨⟨O1,O1⟩,λm o p=>by rcases aC.1 p with d|d;exact n m o d;subst d;exact(by rw [Pm O1 O6,g,Qj e];rfl)⟩ O2 K1 aA
            .have g:=a9;refine go 32 ?_;exact Yv f () results53 (vB (Qf b (Qk k O1 a (by rw [Pm O1 O6,g];rfl)))) aA Za
           .refine go 5 ?_;refine cl 17 [] (Lz (l.getD i Ys) (l.getD ((i+1)%l.length) Ys) (l.getD k Ys) (l.getD ((k+1)%l.length) Ys) (Zf c b) (Zf c (Yf b)) (Zf c a) (Zf c (Yf a))) λ_ _=>go 11<|Yq J (λV=>?_) (λV=>?_)
            .have e:=V;refine go 15 ?_;exact Yv f () results53 (vB (Qf b (Qk k O1 a (by rw [Lj O1 O6];exact Qa e)))) aA Za
            .have e:=V;refine go 8 ⟨O1,?_⟩;exact Yj (k+1) ⟨⟨O1,O1⟩,λm o p=>by rcases aC.1 p with d|d;exact n m o d;subst d;exact(by rw [Lj O1 O6];exact Qj e)⟩ O2 K1 aA
        .have a:l.length<=k:=O1;refine go 10 ⟨O1,?_⟩;exact Yj (i+1) ⟨O2,λj hj=>by rcases aC.1 hj with d|d;exact hr j d;subst d;exact Zzr a c3 n⟩ O2 K1 aA
      .refine go 19 ⟨O1,?_⟩;have c3:okE l i=true:=by unfold okE;simp_all
       refine lp (G:=Nat) [0,3,4,5,6,23,24,44,45,46,47,48] [0,1,12,13] (λk=>[(7,.int .i64 (k:Int))]) (λk=>[]) (λk=>(i+1<=k/\k<=l.length)/\(∀m,i<m->m<k->Zg9 l i m=true)) (λk=>l.length-k) (i+1) ⟨⟨O1,O1⟩,λm o p=>absurd o O1⟩ K1 aA ?_;rintro k ⟨hk,n⟩;refine go 8<|Zb J (λf0=>?_) (λf0=>?_)
       .have a:k<l.length:=O1;refine go 5<|Nh [1] [14] ?_;refine Zw 4 [(0,0),(1,0),(2,0),(3,0),(4,0),(5,0),(6,0),(7,0),(8,0),(9,0),(10,0)]<|go 2 ?_;refine Qb J J (Ej (Yk 1 k J J J J Zl Ep Zaa J) K1)<|Qb J J (Ej (Pr 1 Ys J J J Zl pPt) K1)<|go 4 ⟨O1,?_⟩;refine Qb J J (Ej (Yl ( .int .i64 (((k+1)%l.length:Nat):Int)) (Ko J J J O1 O1) (aH (Value.int .i64) (Nq k l.length))) K1)<|Qb J J (Ej (Yk 1 ((k+1)%l.length) J J J J Zl Ep Zaa J (Yf a)) K1)<|Qb J J (Ej (Pr 1 Ys J J J Zl pPt (Yf a)) K1)<|go 1 ?_;refine Nm 3 11 12 ?_ ?_
        .refine Ha (Mh 18) λj2 m1=>?_;refine Zw 0 [(12,1),(13,1),(14,3)]<|Qn (Mh 19) λj3 m2=>go 3 ?_;refine Yr<|go 15 ⟨O1,?_⟩;refine Zk 79 J (λi1=>?_) (λi1=>?_)
         .refine go 6<|Zb J (λf6=>?_) (λf6=>?_)
          .refine go 4 ?_;refine cl 19 [] (Qg (l.getD i Ys) (l.getD ((i+1)%l.length) Ys) (l.getD ((k+1)%l.length) Ys) (Zf c b) (Zf c (Yf b)) (Zf c (Yf a))) λ_ _=>go 2<|Xw 88 J (λc9=>?_) (λc9=>?_)
           .have g:=c9;refine go 3 ?_;refine Ln 19 [] (Qg (l.getD k Ys) (l.getD ((k+1)%l.length) Ys) (l.getD i Ys) (Zf c a) (Zf c (Yf a)) (Zf c b)) λ_ _=>go 12<|Yq J (λW=>?_) (λW=>?_)
            .have e:=W;refine go 15 ?_;exact Yv f () results53 (vB (Qf b (Qk k O1 a (by rw [Hu ⟨O1,O1⟩,g,Qa e];rfl)))) aA Za
            .have e:=W;refine go 8 ⟨O1,?_⟩;exact Yj (k+1) ⟨⟨O1,O1⟩,λm o p=>by rcases aC.1 p with d|d;exact n m o d;subst d;exact(by rw [Hu ⟨O1,O1⟩,g,Qj e];rfl)⟩ O2 K1 aA
           .have g:=c9;refine go 32 ?_;exact Yv f () results53 (vB (Qf b (Qk k O1 a (by rw [Hu ⟨O1,O1⟩,g];rfl)))) aA Za
          .refine go 5 ⟨O1,?_⟩;refine dt (Yl ( .int .i64 (((k+1)%l.length:Nat):Int)) (Ko J J J O1 O1) (aH (Value.int .i64) (Nq k l.length)))<|go 5 ?_;refine Zb J (λe2=>?_) (λe2=>?_)
           .refine go 4 ?_;refine cl 19 [] (Qg (l.getD i Ys) (l.getD ((i+1)%l.length) Ys) (l.getD k Ys) (Zf c b) (Zf c (Yf b)) (Zf c a)) λ_ _=>go 2<|Xw 107 J (λb0=>?_) (λb0=>?_)
            .have g:=b0;refine go 3 ?_;refine Ln 19 [] (Qg (l.getD k Ys) (l.getD ((k+1)%l.length) Ys) (l.getD ((i+1)%l.length) Ys) (Zf c a) (Zf c (Yf a)) (Zf c (Yf b))) λ_ _=>go 12<|Yq J (λY=>?_) (λY=>?_)
             .have e:=Y;refine go 15 ?_;exact Yv f () results53 (vB (Qf b (Qk k O1 a (by rw [Pm O1 O6,g,Qa e];rfl)))) aA Za
             .have e:=Y;refine go 8 ⟨O1,?_⟩;exact Yj (k+1) ⟨⟨O1,O1⟩,λm o p=>by rcases aC.1 p with d|d;exact n m o d;subst d;exact(by rw [Pm O1 O6,g,Qj e];rfl)⟩ O2 K1 aA
            .have g:=b0;refine go 32 ?_;exact Yv f () results53 (vB (Qf b (Qk k O1 a (by rw [Pm O1 O6,g];rfl)))) aA Za
           .refine go 5 ?_;refine cl 19 [] (Lz (l.getD i Ys) (l.getD ((i+1)%l.length) Ys) (l.getD k Ys) (l.getD ((k+1)%l.length) Ys) (Zf c b) (Zf c (Yf b)) (Zf c a) (Zf c (Yf a))) λ_ _=>go 11<|Yq J (λZ=>?_) (λZ=>?_)
            .have e:=Z;refine go 15 ?_;exact Yv f () results53 (vB (Qf b (Qk k O1 a (by rw [Lj O1 O6];exact Qa e)))) aA Za
            .have e:=Z;refine go 8 ⟨O1,?_⟩;exact Yj (k+1) ⟨⟨O1,O1⟩,λm o p=>by rcases aC.1 p with d|d;exact n m o d;subst d;exact(by rw [Lj O1 O6];exact Qj e)⟩ O2 K1 aA
         .refine go 12 ⟨O1,?_⟩;refine dt (Yl ( .int .i64 (((k+1)%l.length:Nat):Int)) (Ko J J J O1 O1) (aH (Value.int .i64) (Nq k l.length)))<|go 5 ?_;refine Zb J (λe3=>?_) (λe3=>?_)
          .refine go 4 ?_;refine cl 19 [] (Qg (l.getD i Ys) (l.getD ((i+1)%l.length) Ys) (l.getD k Ys) (Zf c b) (Zf c (Yf b)) (Zf c a)) λ_ _=>go 2<|Xw 107 J (λb1=>?_) (λb1=>?_)
           .have g:=b1;refine go 3 ?_;refine Ln 19 [] (Qg (l.getD k Ys) (l.getD ((k+1)%l.length) Ys) (l.getD ((i+1)%l.length) Ys) (Zf c a) (Zf c (Yf a)) (Zf c (Yf b))) λ_ _=>go 12<|Yq J (λa0=>?_) (λa0=>?_)
            .have e:=a0;refine go 15 ?_;exact Yv f () results53 (vB (Qf b (Qk k O1 a (by rw [Pm O1 O6,g,Qa e];rfl)))) aA Za
            .have e:=a0;refine go 8 ⟨O1,?_⟩;exact Yj (k+1) ⟨⟨O1,O1⟩,λm o p=>by rcases aC.1 p with d|d;exact n m o d;subst d;exact(by rw [Pm O1 O6,g,Qj e];rfl)⟩ O2 K1 aA
           .have g:=b1;refine go 32 ?_;exact Yv f () results53 (vB (Qf b (Qk k O1 a (by rw [Pm O1 O6,g];rfl)))) aA Za
          .refine go 5 ?_;refine cl 19 [] (Lz (l.getD i Ys) (l.getD ((i+1)%l.length) Ys) (l.getD k Ys) (l.getD ((k+1)%l.length) Ys) (Zf c b) (Zf c (Yf b)) (Zf c a) (Zf c (Yf a))) λ_ _=>go 11<|Yq J (λa1=>?_) (λa1=>?_)
           .have e:=a1;refine go 15 ?_;exact Yv f () results53 (vB (Qf b (Qk k O1 a (by rw [Lj O1 O6];exact Qa e)))) aA Za
           .have e:=a1;refine go 8 ⟨O1,?_⟩;exact Yj (k+1) ⟨⟨O1,O1⟩,λm o p=>by rcases aC.1 p with d|d;exact n m o d;subst d;exact(by rw [Lj O1 O6];exact Qj e)⟩ O2 K1 aA
        .refine Ha (Mh 20) λj4 m3=>?_;refine Zw 0 [(11,1),(13,1),(14,3)]<|Qn (Mh 21) λj5 m4=>go 3 ?_;refine Yr<|go 15 ⟨O1,?_⟩;refine Zk 79 J (λi2=>?_) (λi2=>?_)
         .refine go 6<|Zb J (λf7=>?_) (λf7=>?_)
          .refine go 4 ?_;refine cl 21 [] (Qg (l.getD i Ys) (l.getD ((i+1)%l.length) Ys) (l.getD ((k+1)%l.length) Ys) (Zf c b) (Zf c (Yf b)) (Zf c (Yf a))) λ_ _=>go 2<|Xw 88 J (λd0=>?_) (λd0=>?_)
           .have g:=d0;refine go 3 ?_;refine Ln 21 [] (Qg (l.getD k Ys) (l.getD ((k+1)%l.length) Ys) (l.getD i Ys) (Zf c a) (Zf c (Yf a)) (Zf c b)) λ_ _=>go 12<|Yq J (λa2=>?_) (λa2=>?_)
            .have e:=a2;refine go 15 ?_;exact Yv f () results53 (vB (Qf b (Qk k O1 a (by rw [Hu ⟨O1,O1⟩,g,Qa e];rfl)))) aA Za
            .have e:=a2;refine go 8 ⟨O1,?_⟩;exact Yj (k+1) ⟨⟨O1,O1⟩,λm o p=>by rcases aC.1 p with d|d;exact n m o d;subst d;exact(by rw [Hu ⟨O1,O1⟩,g,Qj e];rfl)⟩ O2 K1 aA
           .have g:=d0;refine go 32 ?_;exact Yv f () results53 (vB (Qf b (Qk k O1 a (by rw [Hu ⟨O1,O1⟩,g];rfl)))) aA Za
          .refine go 5 ⟨O1,?_⟩;refine dt (Yl ( .int .i64 (((k+1)%l.length:Nat):Int)) (Ko J J J O1 O1) (aH (Value.int .i64) (Nq k l.length)))<|go 5 ?_;refine Zb J (λe4=>?_) (λe4=>?_)
           .refine go 4 ?_;refine cl 21 [] (Qg (l.getD i Ys) (l.getD ((i+1)%l.length) Ys) (l.getD k Ys) (Zf c b) (Zf c (Yf b)) (Zf c a)) λ_ _=>go 2<|Xw 107 J (λb2=>?_) (λb2=>?_)
            .have g:=b2;refine go 3 ?_;refine Ln 21 [] (Qg (l.getD k Ys) (l.getD ((k+1)%l.length) Ys) (l.getD ((i+1)%l.length) Ys) (Zf c a) (Zf c (Yf a)) (Zf c (Yf b))) λ_ _=>go 12<|Yq J (λa3=>?_) (λa3=>?_)
             .have e:=a3;refine go 15 ?_;exact Yv f () results53 (vB (Qf b (Qk k O1 a (by rw [Pm O1 O6,g,Qa e];rfl)))) aA Za
             .have e:=a3;refine go 8 ⟨O1,?_⟩;exact Yj (k+1) ⟨⟨O1,O1⟩,λm o p=>by rcases aC.1 p with d|d;exact n m o d;subst d;exact(by rw [Pm O1 O6,g,Qj e];rfl)⟩ O2 K1 aA
            .have g:=b2;refine go 32 ?_;exact Yv f () results53 (vB (Qf b (Qk k O1 a (by rw [Pm O1 O6,g];rfl)))) aA Za
           .refine go 5 ?_;refine cl 21 [] (Lz (l.getD i Ys) (l.getD ((i+1)%l.length) Ys) (l.getD k Ys) (l.getD ((k+1)%l.length) Ys) (Zf c b) (Zf c (Yf b)) (Zf c a) (Zf c (Yf a))) λ_ _=>go 11<|Yq J (λa4=>?_) (λa4=>?_)
            .have e:=a4;refine go 15 ?_;exact Yv f () results53 (vB (Qf b (Qk k O1 a (by rw [Lj O1 O6];exact Qa e)))) aA Za
            .have e:=a4;refine go 8 ⟨O1,?_⟩;exact Yj (k+1) ⟨⟨O1,O1⟩,λm o p=>by rcases aC.1 p with d|d;exact n m o d;subst d;exact(by rw [Lj O1 O6];exact Qj e)⟩ O2 K1 aA
         .refine go 12 ⟨O1,?_⟩;refine dt (Yl ( .int .i64 (((k+1)%l.length:Nat):Int)) (Ko J J J O1 O1) (aH (Value.int .i64) (Nq k l.length)))<|go 5 ?_;refine Zb J (λe5=>?_) (λe5=>?_)
          .refine go 4 ?_;refine cl 21 [] (Qg (l.getD i Ys) (l.getD ((i+1)%l.length) Ys) (l.getD k Ys) (Zf c b) (Zf c (Yf b)) (Zf c a)) λ_ _=>go 2<|Xw 107 J (λb3=>?_) (λb3=>?_)
           .have g:=b3;refine go 3 ?_;refine Ln 21 [] (Qg (l.getD k Ys) (l.getD ((k+1)%l.length) Ys) (l.getD ((i+1)%l.length) Ys) (Zf c a) (Zf c (Yf a)) (Zf c (Yf b))) λ_ _=>go 12<|Yq J (λa5=>?_) (λa5=>?_)
            .have e:=a5;refine go 15 ?_;exact Yv f () results53 (vB (Qf b (Qk k O1 a (by rw [Pm O1 O6,g,Qa e];rfl)))) aA Za
            .have e:=a5;refine go 8 ⟨O1,?_⟩;exact Yj (k+1) ⟨⟨O1,O1⟩,λm o p=>by rcases aC.1 p with d|d;exact n m o d;subst d;exact(by rw [Pm O1 O6,g,Qj e];rfl)⟩ O2 K1 aA
           .have g:=b3;refine go 32 ?_;exact Yv f () results53 (vB (Qf b (Qk k O1 a (by rw [Pm O1 O6,g];rfl)))) aA Za
          .refine go 5 ?_;refine cl 21 [] (Lz (l.getD i Ys) (l.getD ((i+1)%l.length) Ys) (l.getD k Ys) (l.getD ((k+1)%l.length) Ys) (Zf c b) (Zf c (Yf b)) (Zf c a) (Zf c (Yf a))) λ_ _=>go 11<|Yq J (λa6=>?_) (λa6=>?_)
           .have e:=a6;refine go 15 ?_;exact Yv f () results53 (vB (Qf b (Qk k O1 a (by rw [Lj O1 O6];exact Qa e)))) aA Za
           .have e:=a6;refine go 8 ⟨O1,?_⟩;exact Yj (k+1) ⟨⟨O1,O1⟩,λm o p=>by rcases aC.1 p with d|d;exact n m o d;subst d;exact(by rw [Lj O1 O6];exact Qj e)⟩ O2 K1 aA
       .have a:l.length<=k:=O1;refine go 10 ⟨O1,?_⟩;exact Yj (i+1) ⟨O2,λj hj=>by rcases aC.1 hj with d|d;exact hr j d;subst d;exact Zzr a c3 n⟩ O2 K1 aA
    .have b:l.length<=i:=O1;refine go 11 ?_;exact Yv f () results53 (vB (smp_t b k0 c hr)) aA Za
end Go.Sky

