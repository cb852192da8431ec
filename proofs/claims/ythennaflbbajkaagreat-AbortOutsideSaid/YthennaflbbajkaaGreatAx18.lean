/- Rules, arithmetic and contracts: part 19. No conditions but those that each theorem names. -/
import Derived.Test.YthennaflbbajkaaGreatAx17
set_option linter.all false
set_option maxHeartbeats 4000000
namespace Go.Sky
open Go.Proofs.Tryz
open Go.Proofs
set_option synthInstance.maxHeartbeats 0
set_option synthInstance.maxSize 100000
set_option maxRecDepth 20000
set_option linter.unusedSimpArgs false
variable{v:Value}
theorem Yji{n:Int}:Xl prog 183 #[.int .i64 n] [] (.int .i64 (sgI n)):=by
 refine Zd func183 ntmps183 λf e d a=>go 14 ?_;refine Zb J (λb=>?_) (λb=>?_)
 .refine go 8 ?_;exact Yw a () results183 (by rw [sgI_n O]) aA Za
 .refine go 7<|Zb J (λc=>?_) (λc=>?_)
  .refine go 8 ?_;exact Yw a () results183 (by rw [sgI_p O]) aA Za
  .refine go 9 ?_;exact Yw a () results183 (by rw [sgI_0 O O]) aA Za
theorem Zys{n:Int}:Xl prog 104 #[.int .i64 n] [] (.int .i64 (sgI n)):=by
 refine Zd func104 ntmps104 λf e d a=>go 14 ?_;refine Zb J (λb=>?_) (λb=>?_)
 .refine go 8 ?_;exact Yw a () results104 (by rw [sgI_n O]) aA Za
 .refine go 7<|Zb J (λc=>?_) (λc=>?_)
  .refine go 8 ?_;exact Yw a () results104 (by rw [sgI_p O]) aA Za
  .refine go 9 ?_;exact Yw a () results104 (by rw [sgI_0 O O]) aA Za
theorem Yjh(a b c:Yd)(g:Lm a=true)(h:Lm b=true)(i:Lm c=true):Xl prog 141 #[Yf a,Yf b,Yf c] [] (.tuple #[.int .i64 (trn a b c),.int .i64 0]):=by refine Zd func141 ntmps141 λx w s d=>?_;obtain⟨j,k,l⟩:=Bz g;obtain⟨m,n,o⟩:=Bz h;obtain⟨p,q,r⟩:=Bz i;have t:=Zr4 (b.1-a.1) (c.2.1-a.2.1) ⟨O,O⟩ ⟨O,O⟩;have u:=Zr4 (b.2.1-a.2.1) (c.1-a.1) ⟨O,O⟩ ⟨O,O⟩;refine go 2<|Zx (Zs 1) λbq _=>Zx (Zs 2) λe _=>Zx (Zs 3) λf _=>go 8 ?_;refine cl 3 [] Ycb λ_ _=>?_;refine dt (dF (Yk J J) (aE (λb=>Value.bool (!b)) (Ycd g)))<|go 2 ?_;refine Lk 3 [] Ycb λ_ _=>?_;refine Fg (dF (Yk J J) (aE (λb=>Value.bool (!b)) (Ycd h))) J J<|go 3 ?_;refine Lk 3 [] Ycb λ_ _=>?_;refine Fg (dF (Yk J J) (aE (λb=>Value.bool (!b)) (Ycd i))) J J<|go 31 ⟨O,O,O,O,O,O,O,?_⟩;refine cl 3 [] Yji λ_ _=>go 5 ?_;exact Nq d () results141 J aA Za
theorem Av{a b c:Yd}(g:Lm a=true)(h:Lm b=true)(i:Lm c=true):Xl prog 102 #[Yf a,Yf b,Yf c] [] (.int .i64 (trn a b c)):=by refine Zd func102 ntmps102 λl k j d=>go 2 ?_;refine Zx (Zs 1) λbq _=>Zx (Zs 2) λe _=>Zx (Zs 3) λf _=>go 8 ?_;refine cl 3 [] (Yjh a b c g h i) λ_ _=>go 14 ?_;exact Yw d () results102 J aA Za
theorem Qd(a b c:Yd)(k:Lm a=true)(l:Lm b=true)(m:Lm c=true):Xl prog 98 #[Yf a,Yf b,Yf c] [] (.bool (Aa a b c)):=by
 refine Zd func98 ntmps98 λp o n d=>go 2 ?_;refine Zx (Zs 1) λbq _=>Zx (Zs 2) λi _=>Zx (Zs 3) λj _=>go 8 ?_;refine cl 3 [] (Av (a:=a) (b:=b) (c:=c) k l m) λ_ _=>go 2<|Zl 12 J (λh=>?_) (λh=>?_)
 .refine go 6 ?_;refine Fg (Zm5 J J J) J J<|go 3 ?_;refine Zl 22 J (λe=>?_) (λe=>?_)
  .refine go 6 ?_;refine Fg (Zbt J J J) J J<|go 3 ?_;refine Zl 32 J (λf=>?_) (λf=>?_)
   .refine go 6 ?_;refine Fg (Zm5 J J J) J J<|go 3 ?_;refine Zl 42 J (λg=>?_) (λg=>?_)
    .refine go 6 ?_;refine Fg (Zbt J J J) J J<|go 6 ?_;exact Yw d () results98 (by first|exact vB (Yem ‹_› ‹_› ‹_› ‹_›)|exact vB (Yen ‹_›)|exact vB (Yeo ‹_›)|exact vB (Yep ‹_›)|exact vB (Yeq ‹_›)) aA Za
    .refine go 13 ?_;exact Yw d () results98 (by first|exact vB (Yem ‹_› ‹_› ‹_› ‹_›)|exact vB (Yen ‹_›)|exact vB (Yeo ‹_›)|exact vB (Yep ‹_›)|exact vB (Yeq ‹_›)) aA Za
   .refine go 23 ?_;exact Yw d () results98 (by first|exact vB (Yem ‹_› ‹_› ‹_› ‹_›)|exact vB (Yen ‹_›)|exact vB (Yeo ‹_›)|exact vB (Yep ‹_›)|exact vB (Yeq ‹_›)) aA Za
  .refine go 33 ?_;exact Yw d () results98 (by first|exact vB (Yem ‹_› ‹_› ‹_› ‹_›)|exact vB (Yen ‹_›)|exact vB (Yeo ‹_›)|exact vB (Yep ‹_›)|exact vB (Yeq ‹_›)) aA Za
 .refine go 43 ?_;exact Yw d () results98 (by first|exact vB (Yem ‹_› ‹_› ‹_› ‹_›)|exact vB (Yen ‹_›)|exact vB (Yeo ‹_›)|exact vB (Yep ‹_›)|exact vB (Yeq ‹_›)) aA Za
theorem Ln(a b c d:Yd)(g:Lm a=true)(i:Lm b=true)(j:Lm c=true)(l:Lm d=true):Xl prog 56 #[Yf a,Yf b,Yf c,Yf d] [] (.bool (Zgu a b c d)):=by
 refine Zd func56 ntmps56 λt s e k=>go 2 ?_;refine Zx (Zs 1) λbq _=>Zx (Zs 2) λp _=>Zx (Zs 3) λq _=>Zx (Zs 4) λr _=>go 4 ?_;rcases Yay a b c d with f|⟨f,h⟩|⟨f,h,m⟩|⟨f,h,m,n⟩|⟨f,h,m,n,o⟩|⟨f,h,m,n,o⟩
 .refine Pe (λ_=>False) [(0,0),(1,0),(2,0),(3,1),(4,0),(5,2),(6,2),(7,2),(8,2),(9,0),(10,0),(11,2),(12,2),(13,2),(14,2),(15,0),(16,0),(17,2),(18,2),(19,2),(20,2),(21,0),(22,0),(23,2),(24,2),(25,2),(27,2),(28,2),(29,2),(26,2),(30,2),(31,2),(32,2),(33,2),(34,2),(35,2),(36,2),(38,2),(39,2),(40,2),(37,2),(41,2),(42,2),(43,2),(44,2),(45,0),(46,3)]<|go 3<|Ql (Zw 4 [] (Qd a b c g i j)) λ_ _=>?_;refine Qb J J (Pp (dT (Hg J J) (vB f)))<|go 29 ?_;refine Cy J J J J J<|Cy J J J J J<|Cy J J J J J<|Cy J J J J J<|Cy J J J J J<|Cy J J J J J<|Cy J J J J J<|Cy J J J J J<|Cy J J J J J<|Cy J J J J J<|go 6 ?_;exact Yw k () results56 (by unfold Zgu;rw [f];rfl) aA Za
 .refine Pe (λ_=>False) [(0,0),(1,0),(2,0),(3,1),(4,0),(5,0),(6,0),(7,0),(8,1),(9,0),(10,0),(11,2),(12,2),(13,2),(14,2),(15,0),(16,0),(17,2),(18,2),(19,2),(20,2),(21,0),(22,0),(23,2),(24,2),(25,2),(27,2),(28,2),(29,2),(26,2),(30,2),(31,2),(32,2),(33,2),(34,2),(35,2),(36,2),(38,2),(39,2),(40,2),(37,2),(41,2),(42,2),(43,2),(44,2),(45,0),(46,3)]<|go 3<|Ql (Zw 4 [] (Qd a b c g i j)) λ_ _=>?_;refine Qb J J (Pp (dF (Hg J J) (vB f)))<|go 3 ?_;refine Bx J J J J J (Oi 4 (Qd a b d g i l) J J J K3 call98 Zq J e.h) λ_ _=>go 1 ?_;refine Qb J J (Pp (dT (Hg J J) (vB h)))<|go 23 ?_;refine Cy J J J J J<|Cy J J J J J<|Cy J J J J J<|Cy J J J J J<|Cy J J J J J<|Cy J J J J J<|Cy J J J J J<|Cy J J J J J<|Cy J J J J J<|Cy J J J J J<|go 6 ?_;exact Yw k () results56 (by unfold Zgu;rw [f,h];rfl) aA Za
 .refine Pe (λ_=>False) [(0,0),(1,0),(2,0),(3,1),(4,0),(5,0),(6,0),(7,0),(8,1),(9,0),(10,0),(11,0),(12,0),(13,0),(14,1),(15,0),(16,0),(17,2),(18,2),(19,2),(20,2),(21,0),(22,0),(23,2),(24,2),(25,2),(27,2),(28,2),(29,2),(26,2),(30,2),(31,2),(32,2),(33,2),(34,2),(35,2),(36,2),(38,2),(39,2),(40,2),(37,2),(41,2),(42,2),(43,2),(44,2),(45,0),(46,3)]<|go 3<|Ql (Zw 4 [] (Qd a b c g i j)) λ_ _=>?_;refine Qb J J (Pp (dF (Hg J J) (vB f)))<|go 3 ?_;refine Bx J J J J J (Oi 4 (Qd a b d g i l) J J J K3 call98 Zq J e.h) λ_ _=>go 1 ?_;refine Qb J J (Pp (dF (Hg J J) (vB h)))<|go 3 ?_;refine Bx J J J J J (Oi 4 (Qd c d a j l g) J J J K3 call98 Zq J e.h) λ_ _=>go 1 ?_;refine Qb J J (Pp (dT (Hg J J) (vB m)))<|go 17 ?_;refine Cy J J J J J<|Cy J J J J J<|Cy J J J J J<|Cy J J J J J<|Cy J J J J J<|Cy J J J J J<|Cy J J J J J<|Cy J J J J J<|Cy J J J J J<|Cy J J J J J<|go 6 ?_;exact Yw k () results56 (by unfold Zgu;rw [f,h,m];rfl) aA Za
 .refine Pe (λ_=>False) [(0,0),(1,0),(2,0),(3,1),(4,0),(5,0),(6,0),(7,0),(8,1),(9,0),(10,0),(11,0),(12,0),(13,0),(14,1),(15,0),(16,0),(17,0),(18,0),(19,0),(20,1),(21,0),(22,0),(23,2),(24,2),(25,2),(27,2),(28,2),(29,2),(26,2),(30,2),(31,2),(32,2),(33,2),(34,2),(35,2),(36,2),(38,2),(39,2),(40,2),(37,2),(41,2),(42,2),(43,2),(44,2),(45,0),(46,3)]<|go 3<|Ql (Zw 4 [] (Qd a b c g i j)) λ_ _=>?_;refine Qb J J (Pp (dF (Hg J J) (vB f)))<|go 3 ?_;refine Bx J J J J J (Oi 4 (Qd a b d g i l) J J J K3 call98 Zq J e.h) λ_ _=>go 1 ?_;refine Qb J J (Pp (dF (Hg J J) (vB h)))<|go 3 ?_;refine Bx J J J J J (Oi 4 (Qd c d a j l g) J J J K3 call98 Zq J e.h) λ_ _=>go 1 ?_;refine Qb J J (Pp (dF (Hg J J) (vB m)))<|go 3 ?_;refine Bx J J J J J (Oi 4 (Qd c d b j l i) J J J K3 call98 Zq J e.h) λ_ _=>go 1 ?_;refine Qb J J (Pp (dT (Hg J J) (vB n)))<|go 11 ?_;refine Cy J J J J J<|Cy J J J J J<|Cy J J J J J<|Cy J J J J J<|Cy J J J J J<|Cy J J J J J<|Cy J J J J J<|Cy J J J J J<|Cy J J J J J<|Cy J J J J J<|go 6 ?_;exact Yw k () results56 (by unfold Zgu;rw [f,h,m,n];rfl) aA Za
 .refine Pe (λ_=>False) [(0,0),(1,0),(2,0),(3,1),(4,0),(5,0),(6,0),(7,0),(8,1),(9,0),(10,0),(11,0),(12,0),(13,0),(14,1),(15,0),(16,0),(17,0),(18,0),(19,0),(20,1),(21,0),(22,0),(23,0),(24,0),(25,0),(27,0),(28,0),(29,0),(26,1),(30,1),(31,0),(32,0),(33,0),(34,0),(35,0),(36,0),(38,0),(39,0),(40,0),(37,1),(41,1),(42,0),(43,0),(44,0),(45,0),(46,3)]<|go 3<|Ql (Zw 4 [] (Qd a b c g i j)) λ_ _=>?_;refine Qb J J (Pp (dF (Hg J J) (vB f)))<|go 3 ?_;refine Bx J J J J J (Oi 4 (Qd a b d g i l) J J J K3 call98 Zq J e.h) λ_ _=>go 1 ?_;refine Qb J J (Pp (dF (Hg J J) (vB h)))<|go 3 ?_;refine Bx J J J J J (Oi 4 (Qd c d a j l g) J J J K3 call98 Zq J e.h) λ_ _=>go 1 ?_;refine Qb J J (Pp (dF (Hg J J) (vB m)))<|go 3 ?_;refine Bx J J J J J (Oi 4 (Qd c d b j l i) J J J K3 call98 Zq J e.h) λ_ _=>go 1 ?_;refine Qb J J (Pp (dF (Hg J J) (vB n)))<|go 6 ?_;refine Bx J J J J J (Oi 4 (Av ‹_› ‹_› ‹_›) J J J K3 call102 Zq J e.h) (λ_ _=>?_);refine Bx J J J J J (Oi 4 (Av ‹_› ‹_› ‹_›) J J J K3 call102 Zq J e.h) (λ_ _=>?_);refine go 2 ⟨by have:=Zlh (Zl6 a b c) (Zl6 a b d);exact⟨O,O⟩,?_⟩;refine r0g (Pp (dT (Hg J J) (vB (aH o)))) J J J J J<|go 6 ?_;refine Bx J J J J J (Oi 4 (Av ‹_› ‹_› ‹_›) J J J K3 call102 Zq J e.h) (λ_ _=>?_);refine Bx J J J J J (Oi 4 (Av ‹_› ‹_› ‹_›) J J J K3 call102 Zq J e.h) (λ_ _=>?_);refine go 8 ⟨by have:=Zlh (Zl6 c d a) (Zl6 c d b);exact⟨O,O⟩,?_⟩;exact Yw k () results56 (by unfold Zgu;unfold mtB;rw [f,h,m,n,aH o];rfl) aA Za
 .refine Pe (λ_=>False) [(0,0),(1,0),(2,0),(3,1),(4,0),(5,0),(6,0),(7,0),(8,1),(9,0),(10,0),(11,0),(12,0),(13,0),(14,1),(15,0),(16,0),(17,0),(18,0),(19,0),(20,1),(21,0),(22,0),(23,0),(24,0),(25,0),(27,0),(28,0),(29,0),(26,1),(30,1),(31,0),(32,0),(33,0),(34,2),(35,2),(36,2),(38,2),(39,2),(40,2),(37,2),(41,2),(42,2),(43,2),(44,0),(45,0),(46,3)]<|go 3<|Ql (Zw 4 [] (Qd a b c g i j)) λ_ _=>?_;refine Qb J J (Pp (dF (Hg J J) (vB f)))<|go 3 ?_;refine Bx J J J J J (Oi 4 (Qd a b d g i l) J J J K3 call98 Zq J e.h) λ_ _=>go 1 ?_;refine Qb J J (Pp (dF (Hg J J) (vB h)))<|go 3 ?_;refine Bx J J J J J (Oi 4 (Qd c d a j l g) J J J K3 call98 Zq J e.h) λ_ _=>go 1 ?_;refine Qb J J (Pp (dF (Hg J J) (vB m)))<|go 3 ?_;refine Bx J J J J J (Oi 4 (Qd c d b j l i) J J J K3 call98 Zq J e.h) λ_ _=>go 1 ?_;refine Qb J J (Pp (dF (Hg J J) (vB n)))<|go 6 ?_;refine Bx J J J J J (Oi 4 (Av ‹_› ‹_› ‹_›) J J J K3 call102 Zq J e.h) (λ_ _=>?_);refine Bx J J J J J (Oi 4 (Av ‹_› ‹_› ‹_›) J J J K3 call102 Zq J e.h) (λ_ _=>?_);refine go 2 ⟨by have:=Zlh (Zl6 a b c) (Zl6 a b d);exact⟨O,O⟩,?_⟩;refine r0g (Pp (dF (Hg J J) (vB (aF o)))) J J J J J<|go 16 ?_;exact Yw k () results56 (by unfold Zgu;unfold mtB;rw [f,h,m,n,aF o];rfl) aA Za
theorem Zvk(a:Yd):Xl prog 97 #[Yf a] [] (.bool (!Lm a)):=by refine Zd func97 ntmps97 λe d c b=>go 2 ?_;refine Zx (Zs 1) λbq _=>go 6 ?_;refine cl 1 [] (Zby a.1 a.2.1 a.2.2) λ_ _=>go 5 ?_;exact Yw b () results97 J aA Za
theorem ix_pts(l:List Yd):Cal prog 140 #[v,.func (.func 97) #[] #[]] [Yl 3 Yf v l] false (G:=Int) (λr=>decide (r>=0)=!l.all Lm) (λr=> .int .i64 r) (λr=>[]):=by
 refine Zd func140 ntmps140 λo n m d=>?_;refine Le (Er (i:=1) J Zi) λf=>go 14 ?_;refine lp (G:=Nat) [0,1,7] [0,1] (λi=>[(8,.int .i64 (i:Int))]) (λi=>[]) (λi=>(i<=l.length)/\(∀j,j<i->Lm (l.getD j Yo)=true)) (λi=>l.length-i) 0 ⟨O1,λj h=>absurd h (bH j)⟩ K1 aA ?_;rintro i ⟨hi,g⟩;refine go 6<|Zb J (λc=>?_) (λc=>?_)
 .refine go 15 ?_;refine dt (Yn 1 i J J J J Zi Fl Bu J)<|dt (Oa 1 Yo J J J Zi pPt)<|tt (Cl 1 [] [_] [] (Zvk (l.getD i Yo)) J J J J K1 call97 Zq J m.h) λ_ _=>go 2 ?_;refine Ym J (λa=>?_) (λa=>?_)
  .have b:=a;refine go 12 ?_;exact Yw d (i:Int) results140 J (by rw [al_f O (Xv b)];exact aH (jQ i)) Za
  .have b:=a;refine go 7 ⟨O,?_⟩;exact Yi (i+1) ⟨O1,λj k=>by rcases aC.1 k with e|e;exact g j e;subst e;exact Qj b⟩ O1 K1 aA
 .obtain rfl:i=l.length:=O;refine go 11 ?_;exact Yw d (-1) results140 J (by rw [al_t g];rfl) Za
theorem cf_pts(l:List Yd):Xl prog 96 #[v,.func (.func 97) #[] #[]] [Yl 3 Yf v l] (.bool (!l.all Lm)):=by refine Zd func96 ntmps96 λf e c b=>go 9 ?_;refine cl 1 [1] (ix_pts l) λd a=>go 5 ?_;exact Yw b () results96 (by rw [a]) aA Za
theorem Zmy(l:List Yd):Xl prog 53 #[v] [Yl 3 Yf v l] (.bool (Ks l)):=by
 refine Zd func53 ntmps53 λw0 sc hw f=>?_;refine Le (Er (i:=1) J Zi) λl2=>go 18 ?_;refine Zl 15 J (λk1=>?_) (λk1=>?_)
 .refine go 17 ?_;exact Yw f () results53 (vB (by first|exact Yc3 O|exact Yc2 (Xv g0))) aA Za
 .refine go 4<|Zl 19 J (λh3=>?_) (λh3=>?_)
  .refine go 13 ?_;exact Yw f () results53 (vB (by first|exact Yc3 O|exact Yc2 (Xv g0))) aA Za
  .refine go 1 ?_;refine Lk 1 [1] (cf_pts l) λ_ _=>go 3<|Ym J (λe6=>?_) (λe6=>?_)
   .have g0:=e6;refine go 7 ?_;exact Yw f () results53 (vB (by first|exact Yc3 O|exact Yc2 (Xv g0))) aA Za
   .have g0:=e6;have c:l.all Lm=true:=by first|exact Qj g0|(exfalso;omega)
    have k0:3<=l.length/\l.length<=64:=O;refine go 10 ?_;refine lp (G:=Nat) [0,3,23] [0,1] (λi=>[(24,.int .i64 (i:Int))]) (λi=>[]) (λi=>(i<=l.length)/\(∀j,j<i->Zjo l j=true)) (λi=>l.length-i) 0 ⟨O1,λj h=>absurd h (bH j)⟩ K1 aA ?_;rintro i ⟨hi,hr⟩;refine go 6<|Zb J (λj6=>?_) (λj6=>?_)
    .have b:i<l.length:=O;refine go 11<|Nf [1] [14] ?_;refine Zv 4 [(0,0),(1,0),(2,0),(3,0),(4,0),(5,0),(6,0),(7,0),(8,0),(9,0),(10,0)]<|go 2 ?_;refine Qb J J (Fp (Yn 1 i J J J J Zi Fl Bu J) K1)<|Qb J J (Fp (Oa 1 Yo J J J Zi pPt) K1)<|go 4 ⟨O,?_⟩;refine Qb J J (Fp (Ys ( .int .i64 (((i+1)%l.length:Nat):Int)) (Kb J J J O O) (aE (Value.int .i64) (Nd i l.length))) K1)<|Qb J J (Fp (Yn 1 ((i+1)%l.length) J J J J Zi Fl Bu J (Ya b)) K1)<|Qb J J (Fp (Oa 1 Yo J J J Zi pPt (Ya b)) K1)<|go 1 ?_;refine Nj 3 11 12 ?_ ?_
     .refine Iw (Nu 2) λbq ho=>?_;refine Zv 0 [(12,1),(13,1),(14,3)]<|Ql (Nu 3) λk4 m5=>go 3 ?_;refine Yq<|go 10<|Zl 43 J (λk2=>?_) (λk2=>?_)
      .refine go 8<|Zb J (λe7=>?_) (λe7=>?_)
       .have g0:=e7;refine go 12 ?_;exact Yw f () results53 (vB (Qa b (row_o (by unfold okE;simp_all)))) aA Za
       .have g0:=e7;refine go 10 ⟨O,?_⟩;have c3:okE l i=true:=by unfold okE;simp_all
        refine lp (G:=Nat) [0,3,4,5,6,23,24,44,45,46,47,48] [0,1,2,3] (λk=>[(7,.int .i64 (k:Int))]) (λk=>[]) (λk=>(i+1<=k/\k<=l.length)/\(∀m,i<m->m<k->Zfu l i m=true)) (λk=>l.length-k) (i+1) ⟨⟨O,O⟩,λm o p=>absurd o O⟩ K1 aA ?_;rintro k ⟨hk,n⟩;refine go 8<|Zb J (λj7=>?_) (λj7=>?_)
        .have a:k<l.length:=O;refine go 5<|Nf [1] [14] ?_;refine Zv 4 [(0,0),(1,0),(2,0),(3,0),(4,0),(5,0),(6,0),(7,0),(8,0),(9,0),(10,0)]<|go 2 ?_;refine Qb J J (Fp (Yn 1 k J J J J Zi Fl Bu J) K1)<|Qb J J (Fp (Oa 1 Yo J J J Zi pPt) K1)<|go 4 ⟨O,?_⟩;refine Qb J J (Fp (Ys ( .int .i64 (((k+1)%l.length:Nat):Int)) (Kb J J J O O) (aE (Value.int .i64) (Nd k l.length))) K1)<|Qb J J (Fp (Yn 1 ((k+1)%l.length) J J J J Zi Fl Bu J (Ya a)) K1)<|Qb J J (Fp (Oa 1 Yo J J J Zi pPt (Ya a)) K1)<|go 1 ?_;refine Nj 3 11 12 ?_ ?_
         .refine Iw (Nu 4) λk5 m6=>?_;refine Zv 0 [(12,1),(13,1),(14,3)]<|Ql (Nu 5) λk6 m7=>go 3 ?_;refine Yq<|go 15 ⟨O,?_⟩;refine Zl 79 J (λk3=>?_) (λk3=>?_)
          .refine go 6<|Zb J (λj8=>?_) (λj8=>?_)
           .refine go 4 ?_;refine cl 5 [] (Qd (l.getD i Yo) (l.getD ((i+1)%l.length) Yo) (l.getD ((k+1)%l.length) Yo) (Zf c b) (Zf c (Ya b)) (Zf c (Ya a))) λ_ _=>go 2<|Xw 88 J (λi3=>?_) (λi3=>?_)
            .have g:=i3;refine go 3 ?_;refine Lk 5 [] (Qd (l.getD k Yo) (l.getD ((k+1)%l.length) Yo) (l.getD i Yo) (Zf c a) (Zf c (Ya a)) (Zf c b)) λ_ _=>go 12<|Ym J (λh0=>?_) (λh0=>?_)
             .have e:=h0;refine go 15 ?_;exact Yw f () results53 (vB (Qa b (Qf k O a (by rw [He ⟨O,O⟩,g,Xv e];rfl)))) aA Za
             .have e:=h0;refine go 8 ⟨O,?_⟩;exact Yi (k+1) ⟨⟨O,O⟩,λm o p=>by rcases aC.1 p with d|d;exact n m o d;subst d;exact(by rw [He ⟨O,O⟩,g,Qj e];rfl)⟩ O1 K1 aA
            .have g:=i3;refine go 32 ?_;exact Yw f () results53 (vB (Qa b (Qf k O a (by rw [He ⟨O,O⟩,g];rfl)))) aA Za
           .refine go 5 ⟨O,?_⟩;refine dt (Ys ( .int .i64 (((k+1)%l.length:Nat):Int)) (Kb J J J O O) (aE (Value.int .i64) (Nd k l.length)))<|go 5 ?_;refine Zb J (λj9=>?_) (λj9=>?_)
            .refine go 4 ?_;refine cl 5 [] (Qd (l.getD i Yo) (l.getD ((i+1)%l.length) Yo) (l.getD k Yo) (Zf c b) (Zf c (Ya b)) (Zf c a)) λ_ _=>go 2<|Xw 107 J (λi4=>?_) (λi4=>?_)
             .have g:=i4;refine go 3 ?_;refine Lk 5 [] (Qd (l.getD k Yo) (l.getD ((k+1)%l.length) Yo) (l.getD ((i+1)%l.length) Yo) (Zf c a) (Zf c (Ya a)) (Zf c (Ya b))) λ_ _=>go 12<|Ym J (λb5=>?_) (λb5=>?_)
              .have e:=b5;refine go 15 ?_;exact Yw f () results53 (vB (Qa b (Qf k O a (by rw [Pg O O5,g,Xv e];rfl)))) aA Za
              .have e:=b5;refine go 8 ⟨O,?_⟩;exact Yi (k+1) ⟨⟨O,O⟩,λm o p=>by rcases aC.1 p with d|d;exact n m o d;subst d;exact(by rw [Pg O O5,g,Qj e];rfl)⟩ O1 K1 aA
             .have g:=i4;refine go 32 ?_;exact Yw f () results53 (vB (Qa b (Qf k O a (by rw [Pg O O5,g];rfl)))) aA Za
            .refine go 5 ?_;refine cl 5 [] (Ln (l.getD i Yo) (l.getD ((i+1)%l.length) Yo) (l.getD k Yo) (l.getD ((k+1)%l.length) Yo) (Zf c b) (Zf c (Ya b)) (Zf c a) (Zf c (Ya a))) λ_ _=>go 11<|Ym J (λb6=>?_) (λb6=>?_)
             .have e:=b6;refine go 15 ?_;exact Yw f () results53 (vB (Qa b (Qf k O a (by rw [My O O5];exact Xv e)))) aA Za
             .have e:=b6;refine go 8 ⟨O,?_⟩;exact Yi (k+1) ⟨⟨O,O⟩,λm o p=>by rcases aC.1 p with d|d;exact n m o d;subst d;exact(by rw [My O O5];exact Qj e)⟩ O1 K1 aA
          .refine go 12 ⟨O,?_⟩;refine dt (Ys ( .int .i64 (((k+1)%l.length:Nat):Int)) (Kb J J J O O) (aE (Value.int .i64) (Nd k l.length)))<|go 5 ?_;refine Zb J (λf8=>?_) (λf8=>?_)
           .refine go 4 ?_;refine cl 5 [] (Qd (l.getD i Yo) (l.getD ((i+1)%l.length) Yo) (l.getD k Yo) (Zf c b) (Zf c (Ya b)) (Zf c a)) λ_ _=>go 2<|Xw 107 J (λd1=>?_) (λd1=>?_)
            .have g:=d1;refine go 3 ?_;refine Lk 5 [] (Qd (l.getD k Yo) (l.getD ((k+1)%l.length) Yo) (l.getD ((i+1)%l.length) Yo) (Zf c a) (Zf c (Ya a)) (Zf c (Ya b))) λ_ _=>go 12<|Ym J (λb7=>?_) (λb7=>?_)
             .have e:=b7;refine go 15 ?_;exact Yw f () results53 (vB (Qa b (Qf k O a (by rw [Pg O O5,g,Xv e];rfl)))) aA Za
             .have e:=b7;refine go 8 ⟨O,?_⟩;exact Yi (k+1) ⟨⟨O,O⟩,λm o p=>by rcases aC.1 p with d|d;exact n m o d;subst d;exact(by rw [Pg O O5,g,Qj e];rfl)⟩ O1 K1 aA
            .have g:=d1;refine go 32 ?_;exact Yw f () results53 (vB (Qa b (Qf k O a (by rw [Pg O O5,g];rfl)))) aA Za
           .refine go 5 ?_;refine cl 5 [] (Ln (l.getD i Yo) (l.getD ((i+1)%l.length) Yo) (l.getD k Yo) (l.getD ((k+1)%l.length) Yo) (Zf c b) (Zf c (Ya b)) (Zf c a) (Zf c (Ya a))) λ_ _=>go 11<|Ym J (λb8=>?_) (λb8=>?_)
            .have e:=b8;refine go 15 ?_;exact Yw f () results53 (vB (Qa b (Qf k O a (by rw [My O O5];exact Xv e)))) aA Za
            .have e:=b8;refine go 8 ⟨O,?_⟩;exact Yi (k+1) ⟨⟨O,O⟩,λm o p=>by rcases aC.1 p with d|d;exact n m o d;subst d;exact(by rw [My O O5];exact Qj e)⟩ O1 K1 aA
         .refine Iw (Nu 6) λk7 m8=>?_;refine Zv 0 [(11,1),(13,1),(14,3)]<|Ql (Nu 7) λk8 m9=>go 3 ?_;refine Yq<|go 15 ⟨O,?_⟩;refine Zl 79 J (λh5=>?_) (λh5=>?_)
          .refine go 6<|Zb J (λf1=>?_) (λf1=>?_)
           .refine go 4 ?_;refine cl 7 [] (Qd (l.getD i Yo) (l.getD ((i+1)%l.length) Yo) (l.getD ((k+1)%l.length) Yo) (Zf c b) (Zf c (Ya b)) (Zf c (Ya a))) λ_ _=>go 2<|Xw 88 J (λc4=>?_) (λc4=>?_)
            .have g:=c4;refine go 3 ?_;refine Lk 7 [] (Qd (l.getD k Yo) (l.getD ((k+1)%l.length) Yo) (l.getD i Yo) (Zf c a) (Zf c (Ya a)) (Zf c b)) λ_ _=>go 12<|Ym J (λb9=>?_) (λb9=>?_)
             .have e:=b9;refine go 15 ?_;exact Yw f () results53 (vB (Qa b (Qf k O a (by rw [He ⟨O,O⟩,g,Xv e];rfl)))) aA Za
             .have e:=b9;refine go 8 ⟨O,?_⟩;exact Yi (k+1) ⟨⟨O,O⟩,λm o p=>by rcases aC.1 p with d|d;exact n m o d;subst d;exact(by rw [He ⟨O,O⟩,g,Qj e];rfl)⟩ O1 K1 aA
            .have g:=c4;refine go 32 ?_;exact Yw f () results53 (vB (Qa b (Qf k O a (by rw [He ⟨O,O⟩,g];rfl)))) aA Za
           .refine go 5 ⟨O,?_⟩;refine dt (Ys ( .int .i64 (((k+1)%l.length:Nat):Int)) (Kb J J J O O) (aE (Value.int .i64) (Nd k l.length)))<|go 5 ?_;refine Zb J (λf9=>?_) (λf9=>?_)
            .refine go 4 ?_;refine cl 7 [] (Qd (l.getD i Yo) (l.getD ((i+1)%l.length) Yo) (l.getD k Yo) (Zf c b) (Zf c (Ya b)) (Zf c a)) λ_ _=>go 2<|Xw 107 J (λd2=>?_) (λd2=>?_)
             .have g:=d2;refine go 3 ?_;refine Lk 7 [] (Qd (l.getD k Yo) (l.getD ((k+1)%l.length) Yo) (l.getD ((i+1)%l.length) Yo) (Zf c a) (Zf c (Ya a)) (Zf c (Ya b))) λ_ _=>go 12<|Ym J (λc0=>?_) (λc0=>?_)
              .have e:=c0;refine go 15 ?_;exact Yw f () results53 (vB (Qa b (Qf k O a (by rw [Pg O O5,g,Xv e];rfl)))) aA Za
              .have e:=c0;refine go 8 ⟨O,?_⟩;exact Yi (k+1) ⟨⟨O,O⟩,λm o p=>by rcases aC.1 p with d|d;exact n m o d;subst d;exact(by rw [Pg O O5,g,Qj e];rfl)⟩ O1 K1 aA
             .have g:=d2;refine go 32 ?_;exact Yw f () results53 (vB (Qa b (Qf k O a (by rw [Pg O O5,g];rfl)))) aA Za
            .refine go 5 ?_;refine cl 7 [] (Ln (l.getD i Yo) (l.getD ((i+1)%l.length) Yo) (l.getD k Yo) (l.getD ((k+1)%l.length) Yo) (Zf c b) (Zf c (Ya b)) (Zf c a) (Zf c (Ya a))) λ_ _=>go 11<|Ym J (λc1=>?_) (λc1=>?_)
             .have e:=c1;refine go 15 ?_;exact Yw f () results53 (vB (Qa b (Qf k O a (by rw [My O O5];exact Xv e)))) aA Za
             .have e:=c1;refine go 8 ⟨O,?_⟩;exact Yi (k+1) ⟨⟨O,O⟩,λm o p=>by rcases aC.1 p with d|d;exact n m o d;subst d;exact(by rw [My O O5];exact Qj e)⟩ O1 K1 aA
          .refine go 12 ⟨O,?_⟩;refine dt (Ys ( .int .i64 (((k+1)%l.length:Nat):Int)) (Kb J J J O O) (aE (Value.int .i64) (Nd k l.length)))<|go 5 ?_;refine Zb J (λg3=>?_) (λg3=>?_)
           .refine go 4 ?_;refine cl 7 [] (Qd (l.getD i Yo) (l.getD ((i+1)%l.length) Yo) (l.getD k Yo) (Zf c b) (Zf c (Ya b)) (Zf c a)) λ_ _=>go 2<|Xw 107 J (λd3=>?_) (λd3=>?_)
            .have g:=d3;refine go 3 ?_;refine Lk 7 [] (Qd (l.getD k Yo) (l.getD ((k+1)%l.length) Yo) (l.getD ((i+1)%l.length) Yo) (Zf c a) (Zf c (Ya a)) (Zf c (Ya b))) λ_ _=>go 12<|Ym J (λc2=>?_) (λc2=>?_)
             .have e:=c2;refine go 15 ?_;exact Yw f () results53 (vB (Qa b (Qf k O a (by rw [Pg O O5,g,Xv e];rfl)))) aA Za
             .have e:=c2;refine go 8 ⟨O,?_⟩;exact Yi (k+1) ⟨⟨O,O⟩,λm o p=>by rcases aC.1 p with d|d;exact n m o d;subst d;exact(by rw [Pg O O5,g,Qj e];rfl)⟩ O1 K1 aA
            .have g:=d3;refine go 32 ?_;exact Yw f () results53 (vB (Qa b (Qf k O a (by rw [Pg O O5,g];rfl)))) aA Za
           .refine go 5 ?_;refine cl 7 [] (Ln (l.getD i Yo) (l.getD ((i+1)%l.length) Yo) (l.getD k Yo) (l.getD ((k+1)%l.length) Yo) (Zf c b) (Zf c (Ya b)) (Zf c a) (Zf c (Ya a))) λ_ _=>go 11<|Ym J (λq=>?_) (λq=>?_)
            .have e:=q;refine go 15 ?_;exact Yw f () results53 (vB (Qa b (Qf k O a (by rw [My O O5];exact Xv e)))) aA Za
            .have e:=q;refine go 8 ⟨O,?_⟩;exact Yi (k+1) ⟨⟨O,O⟩,λm o p=>by rcases aC.1 p with d|d;exact n m o d;subst d;exact(by rw [My O O5];exact Qj e)⟩ O1 K1 aA
        .have a:l.length<=k:=O;refine go 10 ⟨O,?_⟩;exact Yi (i+1) ⟨O1,λj hj=>by rcases aC.1 hj with d|d;exact hr j d;subst d;exact Zxi a c3 n⟩ O1 K1 aA
      .refine go 19 ⟨O,?_⟩;have c3:okE l i=true:=by unfold okE;simp_all
       refine lp (G:=Nat) [0,3,4,5,6,23,24,44,45,46,47,48] [0,1,2,3] (λk=>[(7,.int .i64 (k:Int))]) (λk=>[]) (λk=>(i+1<=k/\k<=l.length)/\(∀m,i<m->m<k->Zfu l i m=true)) (λk=>l.length-k) (i+1) ⟨⟨O,O⟩,λm o p=>absurd o O⟩ K1 aA ?_;rintro k ⟨hk,n⟩;refine go 8<|Zb J (λe8=>?_) (λe8=>?_)
       .have a:k<l.length:=O;refine go 5<|Nf [1] [14] ?_;refine Zv 4 [(0,0),(1,0),(2,0),(3,0),(4,0),(5,0),(6,0),(7,0),(8,0),(9,0),(10,0)]<|go 2 ?_;refine Qb J J (Fp (Yn 1 k J J J J Zi Fl Bu J) K1)<|Qb J J (Fp (Oa 1 Yo J J J Zi pPt) K1)<|go 4 ⟨O,?_⟩;refine Qb J J (Fp (Ys ( .int .i64 (((k+1)%l.length:Nat):Int)) (Kb J J J O O) (aE (Value.int .i64) (Nd k l.length))) K1)<|Qb J J (Fp (Yn 1 ((k+1)%l.length) J J J J Zi Fl Bu J (Ya a)) K1)<|Qb J J (Fp (Oa 1 Yo J J J Zi pPt (Ya a)) K1)<|go 1 ?_;refine Nj 3 11 12 ?_ ?_
        .refine Iw (Nu 8) λk9 n0=>?_;refine Zv 0 [(12,1),(13,1),(14,3)]<|Ql (Nu 9) λl0 n1=>go 3 ?_;refine Yq<|go 15 ⟨O,?_⟩;refine Zl 79 J (λh6=>?_) (λh6=>?_)
         .refine go 6<|Zb J (λf2=>?_) (λf2=>?_)
          .refine go 4 ?_;refine cl 9 [] (Qd (l.getD i Yo) (l.getD ((i+1)%l.length) Yo) (l.getD ((k+1)%l.length) Yo) (Zf c b) (Zf c (Ya b)) (Zf c (Ya a))) λ_ _=>go 2<|Xw 88 J (λc5=>?_) (λc5=>?_)
           .have g:=c5;refine go 3 ?_;refine Lk 9 [] (Qd (l.getD k Yo) (l.getD ((k+1)%l.length) Yo) (l.getD i Yo) (Zf c a) (Zf c (Ya a)) (Zf c b)) λ_ _=>go 12<|Ym J (λr=>?_) (λr=>?_)
            .have e:=r;refine go 15 ?_;exact Yw f () results53 (vB (Qa b (Qf k O a (by rw [He ⟨O,O⟩,g,Xv e];rfl)))) aA Za
            .have e:=r;refine go 8 ⟨O,?_⟩;exact Yi (k+1) ⟨⟨O,O⟩,λm o p=>by rcases aC.1 p with d|d;exact n m o d;subst d;exact(by rw [He ⟨O,O⟩,g,Qj e];rfl)⟩ O1 K1 aA
           .have g:=c5;refine go 32 ?_;exact Yw f () results53 (vB (Qa b (Qf k O a (by rw [He ⟨O,O⟩,g];rfl)))) aA Za
          .refine go 5 ⟨O,?_⟩;refine dt (Ys ( .int .i64 (((k+1)%l.length:Nat):Int)) (Kb J J J O O) (aE (Value.int .i64) (Nd k l.length)))<|go 5 ?_;refine Zb J (λg4=>?_) (λg4=>?_)
           .refine go 4 ?_;refine cl 9 [] (Qd (l.getD i Yo) (l.getD ((i+1)%l.length) Yo) (l.getD k Yo) (Zf c b) (Zf c (Ya b)) (Zf c a)) λ_ _=>go 2<|Xw 107 J (λd4=>?_) (λd4=>?_)
            .have g:=d4;refine go 3 ?_;refine Lk 9 [] (Qd (l.getD k Yo) (l.getD ((k+1)%l.length) Yo) (l.getD ((i+1)%l.length) Yo) (Zf c a) (Zf c (Ya a)) (Zf c (Ya b))) λ_ _=>go 12<|Ym J (λs=>?_) (λs=>?_)
             .have e:=s;refine go 15 ?_;exact Yw f () results53 (vB (Qa b (Qf k O a (by rw [Pg O O5,g,Xv e];rfl)))) aA Za
             .have e:=s;refine go 8 ⟨O,?_⟩;exact Yi (k+1) ⟨⟨O,O⟩,λm o p=>by rcases aC.1 p with d|d;exact n m o d;subst d;exact(by rw [Pg O O5,g,Qj e];rfl)⟩ O1 K1 aA
            .have g:=d4;refine go 32 ?_;exact Yw f () results53 (vB (Qa b (Qf k O a (by rw [Pg O O5,g];rfl)))) aA Za
           .refine go 5 ?_;refine cl 9 [] (Ln (l.getD i Yo) (l.getD ((i+1)%l.length) Yo) (l.getD k Yo) (l.getD ((k+1)%l.length) Yo) (Zf c b) (Zf c (Ya b)) (Zf c a) (Zf c (Ya a))) λ_ _=>go 11<|Ym J (λt=>?_) (λt=>?_)
            .have e:=t;refine go 15 ?_;exact Yw f () results53 (vB (Qa b (Qf k O a (by rw [My O O5];exact Xv e)))) aA Za
            .have e:=t;refine go 8 ⟨O,?_⟩;exact Yi (k+1) ⟨⟨O,O⟩,λm o p=>by rcases aC.1 p with d|d;exact n m o d;subst d;exact(by rw [My O O5];exact Qj e)⟩ O1 K1 aA
         .refine go 12 ⟨O,?_⟩;refine dt (Ys ( .int .i64 (((k+1)%l.length:Nat):Int)) (Kb J J J O O) (aE (Value.int .i64) (Nd k l.length)))<|go 5 ?_;refine Zb J (λg5=>?_) (λg5=>?_)
          .refine go 4 ?_;refine cl 9 [] (Qd (l.getD i Yo) (l.getD ((i+1)%l.length) Yo) (l.getD k Yo) (Zf c b) (Zf c (Ya b)) (Zf c a)) λ_ _=>go 2<|Xw 107 J (λd5=>?_) (λd5=>?_)
           .have g:=d5;refine go 3 ?_;refine Lk 9 [] (Qd (l.getD k Yo) (l.getD ((k+1)%l.length) Yo) (l.getD ((i+1)%l.length) Yo) (Zf c a) (Zf c (Ya a)) (Zf c (Ya b))) λ_ _=>go 12<|Ym J (λu=>?_) (λu=>?_)
            .have e:=u;refine go 15 ?_;exact Yw f () results53 (vB (Qa b (Qf k O a (by rw [Pg O O5,g,Xv e];rfl)))) aA Za
            .have e:=u;refine go 8 ⟨O,?_⟩;exact Yi (k+1) ⟨⟨O,O⟩,λm o p=>by rcases aC.1 p with d|d;exact n m o d;subst d;exact(by rw [Pg O O5,g,Qj e];rfl)⟩ O1 K1 aA
           .have g:=d5;refine go 32 ?_;exact Yw f () results53 (vB (Qa b (Qf k O a (by rw [Pg O O5,g];rfl)))) aA Za
          .refine go 5 ?_;refine cl 9 [] (Ln (l.getD i Yo) (l.getD ((i+1)%l.length) Yo) (l.getD k Yo) (l.getD ((k+1)%l.length) Yo) (Zf c b) (Zf c (Ya b)) (Zf c a) (Zf c (Ya a))) λ_ _=>go 11<|Ym J (λw=>?_) (λw=>?_)
           .have e:=w;refine go 15 ?_;exact Yw f () results53 (vB (Qa b (Qf k O a (by rw [My O O5];exact Xv e)))) aA Za
           .have e:=w;refine go 8 ⟨O,?_⟩;exact Yi (k+1) ⟨⟨O,O⟩,λm o p=>by rcases aC.1 p with d|d;exact n m o d;subst d;exact(by rw [My O O5];exact Qj e)⟩ O1 K1 aA
        .refine Iw (Nu 10) λl1 n2=>?_;refine Zv 0 [(11,1),(13,1),(14,3)]<|Ql (Nu 11) λi5 l4=>go 3 ?_;refine Yq<|go 15 ⟨O,?_⟩;refine Zl 79 J (λh7=>?_) (λh7=>?_)
         .refine go 6<|Zb J (λf3=>?_) (λf3=>?_)
          .refine go 4 ?_;refine cl 11 [] (Qd (l.getD i Yo) (l.getD ((i+1)%l.length) Yo) (l.getD ((k+1)%l.length) Yo) (Zf c b) (Zf c (Ya b)) (Zf c (Ya a))) λ_ _=>go 2<|Xw 88 J (λc6=>?_) (λc6=>?_)
           .have g:=c6;refine go 3 ?_;refine Lk 11 [] (Qd (l.getD k Yo) (l.getD ((k+1)%l.length) Yo) (l.getD i Yo) (Zf c a) (Zf c (Ya a)) (Zf c b)) λ_ _=>go 12<|Ym J (λx=>?_) (λx=>?_)
            .have e:=x;refine go 15 ?_;exact Yw f () results53 (vB (Qa b (Qf k O a (by rw [He ⟨O,O⟩,g,Xv e];rfl)))) aA Za
            .have e:=x;refine go 8 ⟨O,?_⟩;exact Yi (k+1) ⟨⟨O,O⟩,λm o p=>by rcases aC.1 p with d|d;exact n m o d;subst d;exact(by rw [He ⟨O,O⟩,g,Qj e];rfl)⟩ O1 K1 aA
           .have g:=c6;refine go 32 ?_;exact Yw f () results53 (vB (Qa b (Qf k O a (by rw [He ⟨O,O⟩,g];rfl)))) aA Za
          .refine go 5 ⟨O,?_⟩;refine dt (Ys ( .int .i64 (((k+1)%l.length:Nat):Int)) (Kb J J J O O) (aE (Value.int .i64) (Nd k l.length)))<|go 5 ?_;refine Zb J (λg6=>?_) (λg6=>?_)
           .refine go 4 ?_;refine cl 11 [] (Qd (l.getD i Yo) (l.getD ((i+1)%l.length) Yo) (l.getD k Yo) (Zf c b) (Zf c (Ya b)) (Zf c a)) λ_ _=>go 2<|Xw 107 J (λd6=>?_) (λd6=>?_)
            .have g:=d6;refine go 3 ?_;refine Lk 11 [] (Qd (l.getD k Yo) (l.getD ((k+1)%l.length) Yo) (l.getD ((i+1)%l.length) Yo) (Zf c a) (Zf c (Ya a)) (Zf c (Ya b))) λ_ _=>go 12<|Ym J (λy=>?_) (λy=>?_)
             .have e:=y;refine go 15 ?_;exact Yw f () results53 (vB (Qa b (Qf k O a (by rw [Pg O O5,g,Xv e];rfl)))) aA Za
             .have e:=y;refine go 8 ⟨O,?_⟩;exact Yi (k+1) ⟨⟨O,O⟩,λm o p=>by rcases aC.1 p with d|d;exact n m o d;subst d;exact(by rw [Pg O O5,g,Qj e];rfl)⟩ O1 K1 aA
            .have g:=d6;refine go 32 ?_;exact Yw f () results53 (vB (Qa b (Qf k O a (by rw [Pg O O5,g];rfl)))) aA Za
           .refine go 5 ?_;refine cl 11 [] (Ln (l.getD i Yo) (l.getD ((i+1)%l.length) Yo) (l.getD k Yo) (l.getD ((k+1)%l.length) Yo) (Zf c b) (Zf c (Ya b)) (Zf c a) (Zf c (Ya a))) λ_ _=>go 11<|Ym J (λz=>?_) (λz=>?_)
            .have e:=z;refine go 15 ?_;exact Yw f () results53 (vB (Qa b (Qf k O a (by rw [My O O5];exact Xv e)))) aA Za
            .have e:=z;refine go 8 ⟨O,?_⟩;exact Yi (k+1) ⟨⟨O,O⟩,λm o p=>by rcases aC.1 p with d|d;exact n m o d;subst d;exact(by rw [My O O5];exact Qj e)⟩ O1 K1 aA
         .refine go 12 ⟨O,?_⟩;refine dt (Ys ( .int .i64 (((k+1)%l.length:Nat):Int)) (Kb J J J O O) (aE (Value.int .i64) (Nd k l.length)))<|go 5 ?_;refine Zb J (λg7=>?_) (λg7=>?_)
          .refine go 4 ?_;refine cl 11 [] (Qd (l.getD i Yo) (l.getD ((i+1)%l.length) Yo) (l.getD k Yo) (Zf c b) (Zf c (Ya b)) (Zf c a)) λ_ _=>go 2<|Xw 107 J (λd7=>?_) (λd7=>?_)
           .have g:=d7;refine go 3 ?_;refine Lk 11 [] (Qd (l.getD k Yo) (l.getD ((k+1)%l.length) Yo) (l.getD ((i+1)%l.length) Yo) (Zf c a) (Zf c (Ya a)) (Zf c (Ya b))) λ_ _=>go 12<|Ym J (λB=>?_) (λB=>?_)
            .have e:=B;refine go 15 ?_;exact Yw f () results53 (vB (Qa b (Qf k O a (by rw [Pg O O5,g,Xv e];rfl)))) aA Za
            .have e:=B;refine go 8 ⟨O,?_⟩;exact Yi (k+1) ⟨⟨O,O⟩,λm o p=>by rcases aC.1 p with d|d;exact n m o d;subst d;exact(by rw [Pg O O5,g,Qj e];rfl)⟩ O1 K1 aA
           .have g:=d7;refine go 32 ?_;exact Yw f () results53 (vB (Qa b (Qf k O a (by rw [Pg O O5,g];rfl)))) aA Za
          .refine go 5 ?_;refine cl 11 [] (Ln (l.getD i Yo) (l.getD ((i+1)%l.length) Yo) (l.getD k Yo) (l.getD ((k+1)%l.length) Yo) (Zf c b) (Zf c (Ya b)) (Zf c a) (Zf c (Ya a))) λ_ _=>go 11<|Ym J (λD=>?_) (λD=>?_)
           .have e:=D;refine go 15 ?_;exact Yw f () results53 (vB (Qa b (Qf k O a (by rw [My O O5];exact Xv e)))) aA Za
           .have e:=D;refine go 8 ⟨O,?_⟩;exact Yi (k+1) ⟨⟨O,O⟩,λm o p=>by rcases aC.1 p with d|d;exact n m o d;subst d;exact(by rw [My O O5];exact Qj e)⟩ O1 K1 aA
       .have a:l.length<=k:=O;refine go 10 ⟨O,?_⟩;exact Yi (i+1) ⟨O1,λj hj=>by rcases aC.1 hj with d|d;exact hr j d;subst d;exact Zxi a c3 n⟩ O1 K1 aA
     .refine Iw (Nu 12) λi6 l5=>?_;refine Zv 0 [(11,1),(13,1),(14,3)]<|Ql (Nu 13) λi7 l6=>go 3 ?_;refine Yq<|go 10<|Zl 43 J (λh4=>?_) (λh4=>?_)
      .refine go 8<|Zb J (λb4=>?_) (λb4=>?_)
       .have g0:=b4;refine go 12 ?_;exact Yw f () results53 (vB (Qa b (row_o (by unfold okE;simp_all)))) aA Za
       .have g0:=b4;refine go 10 ⟨O,?_⟩;have c3:okE l i=true:=by unfold okE;simp_all
        refine lp (G:=Nat) [0,3,4,5,6,23,24,44,45,46,47,48] [0,1,12,13] (λk=>[(7,.int .i64 (k:Int))]) (λk=>[]) (λk=>(i+1<=k/\k<=l.length)/\(∀m,i<m->m<k->Zfu l i m=true)) (λk=>l.length-k) (i+1) ⟨⟨O,O⟩,λm o p=>absurd o O⟩ K1 aA ?_;rintro k ⟨hk,n⟩;refine go 8<|Zb J (λe9=>?_) (λe9=>?_)
        .have a:k<l.length:=O;refine go 5<|Nf [1] [14] ?_;refine Zv 4 [(0,0),(1,0),(2,0),(3,0),(4,0),(5,0),(6,0),(7,0),(8,0),(9,0),(10,0)]<|go 2 ?_;refine Qb J J (Fp (Yn 1 k J J J J Zi Fl Bu J) K1)<|Qb J J (Fp (Oa 1 Yo J J J Zi pPt) K1)<|go 4 ⟨O,?_⟩;refine Qb J J (Fp (Ys ( .int .i64 (((k+1)%l.length:Nat):Int)) (Kb J J J O O) (aE (Value.int .i64) (Nd k l.length))) K1)<|Qb J J (Fp (Yn 1 ((k+1)%l.length) J J J J Zi Fl Bu J (Ya a)) K1)<|Qb J J (Fp (Oa 1 Yo J J J Zi pPt (Ya a)) K1)<|go 1 ?_;refine Nj 3 11 12 ?_ ?_
         .refine Iw (Nu 14) λi8 l7=>?_;refine Zv 0 [(12,1),(13,1),(14,3)]<|Ql (Nu 15) λi9 l8=>go 3 ?_;refine Yq<|go 15 ⟨O,?_⟩;refine Zl 79 J (λh8=>?_) (λh8=>?_)
          .refine go 6<|Zb J (λf4=>?_) (λf4=>?_)
           .refine go 4 ?_;refine cl 15 [] (Qd (l.getD i Yo) (l.getD ((i+1)%l.length) Yo) (l.getD ((k+1)%l.length) Yo) (Zf c b) (Zf c (Ya b)) (Zf c (Ya a))) λ_ _=>go 2<|Xw 88 J (λc7=>?_) (λc7=>?_)
            .have g:=c7;refine go 3 ?_;refine Lk 15 [] (Qd (l.getD k Yo) (l.getD ((k+1)%l.length) Yo) (l.getD i Yo) (Zf c a) (Zf c (Ya a)) (Zf c b)) λ_ _=>go 12<|Ym J (λF=>?_) (λF=>?_)
             .have e:=F;refine go 15 ?_;exact Yw f () results53 (vB (Qa b (Qf k O a (by rw [He ⟨O,O⟩,g,Xv e];rfl)))) aA Za
             .have e:=F;refine go 8 ⟨O,?_⟩;exact Yi (k+1) ⟨⟨O,O⟩,λm o p=>by rcases aC.1 p with d|d;exact n m o d;subst d;exact(by rw [He ⟨O,O⟩,g,Qj e];rfl)⟩ O1 K1 aA
            .have g:=c7;refine go 32 ?_;exact Yw f () results53 (vB (Qa b (Qf k O a (by rw [He ⟨O,O⟩,g];rfl)))) aA Za
           .refine go 5 ⟨O,?_⟩;refine dt (Ys ( .int .i64 (((k+1)%l.length:Nat):Int)) (Kb J J J O O) (aE (Value.int .i64) (Nd k l.length)))<|go 5 ?_;refine Zb J (λg9=>?_) (λg9=>?_)
            .refine go 4 ?_;refine cl 15 [] (Qd (l.getD i Yo) (l.getD ((i+1)%l.length) Yo) (l.getD k Yo) (Zf c b) (Zf c (Ya b)) (Zf c a)) λ_ _=>go 2<|Xw 107 J (λd8=>?_) (λd8=>?_)
             .have g:=d8;refine go 3 ?_;refine Lk 15 [] (Qd (l.getD k Yo) (l.getD ((k+1)%l.length) Yo) (l.getD ((i+1)%l.length) Yo) (Zf c a) (Zf c (Ya a)) (Zf c (Ya b))) λ_ _=>go 12<|Ym J (λH=>?_) (λH=>?_)
              .have e:=H;refine go 15 ?_;exact Yw f () results53 (vB (Qa b (Qf k O a (by rw [Pg O O5,g,Xv e];rfl)))) aA Za
              .have e:=H;refine go 8 ⟨O,?_⟩;exact Yi (k+1) ⟨⟨O,O⟩,λm o p=>by rcases aC.1 p with d|d;exact n m o d;subst d;exact(by rw [Pg O O5,g,Qj e];rfl)⟩ O1 K1 aA
             .have g:=d8;refine go 32 ?_;exact Yw f () results53 (vB (Qa b (Qf k O a (by rw [Pg O O5,g];rfl)))) aA Za
            .refine go 5 ?_;refine cl 15 [] (Ln (l.getD i Yo) (l.getD ((i+1)%l.length) Yo) (l.getD k Yo) (l.getD ((k+1)%l.length) Yo) (Zf c b) (Zf c (Ya b)) (Zf c a) (Zf c (Ya a))) λ_ _=>go 11<|Ym J (λI=>?_) (λI=>?_)
             .have e:=I;refine go 15 ?_;exact Yw f () results53 (vB (Qa b (Qf k O a (by rw [My O O5];exact Xv e)))) aA Za
             .have e:=I;refine go 8 ⟨O,?_⟩;exact Yi (k+1) ⟨⟨O,O⟩,λm o p=>by rcases aC.1 p with d|d;exact n m o d;subst d;exact(by rw [My O O5];exact Qj e)⟩ O1 K1 aA
          .refine go 12 ⟨O,?_⟩;refine dt (Ys ( .int .i64 (((k+1)%l.length:Nat):Int)) (Kb J J J O O) (aE (Value.int .i64) (Nd k l.length)))<|go 5 ?_;refine Zb J (λd9=>?_) (λd9=>?_)
           .refine go 4 ?_;refine cl 15 [] (Qd (l.getD i Yo) (l.getD ((i+1)%l.length) Yo) (l.getD k Yo) (Zf c b) (Zf c (Ya b)) (Zf c a)) λ_ _=>go 2<|Xw 107 J (λa7=>?_) (λa7=>?_)
            .have g:=a7;refine go 3 ?_;refine Lk 15 [] (Qd (l.getD k Yo) (l.getD ((k+1)%l.length) Yo) (l.getD ((i+1)%l.length) Yo) (Zf c a) (Zf c (Ya a)) (Zf c (Ya b))) λ_ _=>go 12<|Ym J (λM=>?_) (λM=>?_)
             .have e:=M;refine go 15 ?_;exact Yw f () results53 (vB (Qa b (Qf k O a (by rw [Pg O O5,g,Xv e];rfl)))) aA Za
             .have e:=M;refine go 8 ⟨O,?_⟩;exact Yi (k+1) ⟨⟨O,O⟩,λm o p=>by rcases aC.1 p with d|d;exact n m o d;subst d;exact(by rw [Pg O O5,g,Qj e];rfl)⟩ O1 K1 aA
            .have g:=a7;refine go 32 ?_;exact Yw f () results53 (vB (Qa b (Qf k O a (by rw [Pg O O5,g];rfl)))) aA Za
           .refine go 5 ?_;refine cl 15 [] (Ln (l.getD i Yo) (l.getD ((i+1)%l.length) Yo) (l.getD k Yo) (l.getD ((k+1)%l.length) Yo) (Zf c b) (Zf c (Ya b)) (Zf c a) (Zf c (Ya a))) λ_ _=>go 11<|Ym J (λN=>?_) (λN=>?_)
            .have e:=N;refine go 15 ?_;exact Yw f () results53 (vB (Qa b (Qf k O a (by rw [My O O5];exact Xv e)))) aA Za
            .have e:=N;refine go 8 ⟨O,?_⟩;exact Yi (k+1) ⟨⟨O,O⟩,λm o p=>by rcases aC.1 p with d|d;exact n m o d;subst d;exact(by rw [My O O5];exact Qj e)⟩ O1 K1 aA
         .refine Iw (Nu 16) λj0 l9=>?_;refine Zv 0 [(11,1),(13,1),(14,3)]<|Ql (Nu 17) λj1 m0=>go 3 ?_;refine Yq<|go 15 ⟨O,?_⟩;refine Zl 79 J (λi0=>?_) (λi0=>?_)
          .refine go 6<|Zb J (λf5=>?_) (λf5=>?_)
           .refine go 4 ?_;refine cl 17 [] (Qd (l.getD i Yo) (l.getD ((i+1)%l.length) Yo) (l.getD ((k+1)%l.length) Yo) (Zf c b) (Zf c (Ya b)) (Zf c (Ya a))) λ_ _=>go 2<|Xw 88 J (λc8=>?_) (λc8=>?_)
            .have g:=c8;refine go 3 ?_;refine Lk 17 [] (Qd (l.getD k Yo) (l.getD ((k+1)%l.length) Yo) (l.getD i Yo) (Zf c a) (Zf c (Ya a)) (Zf c b)) λ_ _=>go 12<|Ym J (λP=>?_) (λP=>?_)
             .have e:=P;refine go 15 ?_;exact Yw f () results53 (vB (Qa b (Qf k O a (by rw [He ⟨O,O⟩,g,Xv e];rfl)))) aA Za
             .have e:=P;refine go 8 ⟨O,?_⟩;exact Yi (k+1) ⟨⟨O,O⟩,λm o p=>by rcases aC.1 p with d|d;exact n m o d;subst d;exact(by rw [He ⟨O,O⟩,g,Qj e];rfl)⟩ O1 K1 aA
            .have g:=c8;refine go 32 ?_;exact Yw f () results53 (vB (Qa b (Qf k O a (by rw [He ⟨O,O⟩,g];rfl)))) aA Za
           .refine go 5 ⟨O,?_⟩;refine dt (Ys ( .int .i64 (((k+1)%l.length:Nat):Int)) (Kb J J J O O) (aE (Value.int .i64) (Nd k l.length)))<|go 5 ?_;refine Zb J (λe0=>?_) (λe0=>?_)
            .refine go 4 ?_;refine cl 17 [] (Qd (l.getD i Yo) (l.getD ((i+1)%l.length) Yo) (l.getD k Yo) (Zf c b) (Zf c (Ya b)) (Zf c a)) λ_ _=>go 2<|Xw 107 J (λa8=>?_) (λa8=>?_)
             .have g:=a8;refine go 3 ?_;refine Lk 17 [] (Qd (l.getD k Yo) (l.getD ((k+1)%l.length) Yo) (l.getD ((i+1)%l.length) Yo) (Zf c a) (Zf c (Ya a)) (Zf c (Ya b))) λ_ _=>go 12<|Ym J (λQ=>?_) (λQ=>?_)
              .have e:=Q;refine go 15 ?_;exact Yw f () results53 (vB (Qa b (Qf k O a (by rw [Pg O O5,g,Xv e];rfl)))) aA Za
              .have e:=Q;refine go 8 ⟨O,?_⟩;exact Yi (k+1) ⟨⟨O,O⟩,λm o p=>by rcases aC.1 p with d|d;exact n m o d;subst d;exact(by rw [Pg O O5,g,Qj e];rfl)⟩ O1 K1 aA
             .have g:=a8;refine go 32 ?_;exact Yw f () results53 (vB (Qa b (Qf k O a (by rw [Pg O O5,g];rfl)))) aA Za
            .refine go 5 ?_;refine cl 17 [] (Ln (l.getD i Yo) (l.getD ((i+1)%l.length) Yo) (l.getD k Yo) (l.getD ((k+1)%l.length) Yo) (Zf c b) (Zf c (Ya b)) (Zf c a) (Zf c (Ya a))) λ_ _=>go 11<|Ym J (λR=>?_) (λR=>?_)
             .have e:=R;refine go 15 ?_;exact Yw f () results53 (vB (Qa b (Qf k O a (by rw [My O O5];exact Xv e)))) aA Za
             .have e:=R;refine go 8 ⟨O,?_⟩;exact Yi (k+1) ⟨⟨O,O⟩,λm o p=>by rcases aC.1 p with d|d;exact n m o d;subst d;exact(by rw [My O O5];exact Qj e)⟩ O1 K1 aA
          .refine go 12 ⟨O,?_⟩;refine dt (Ys ( .int .i64 (((k+1)%l.length:Nat):Int)) (Kb J J J O O) (aE (Value.int .i64) (Nd k l.length)))<|go 5 ?_;refine Zb J (λe1=>?_) (λe1=>?_)
           .refine go 4 ?_;refine cl 17 [] (Qd (l.getD i Yo) (l.getD ((i+1)%l.length) Yo) (l.getD k Yo) (Zf c b) (Zf c (Ya b)) (Zf c a)) λ_ _=>go 2<|Xw 107 J (λa9=>?_) (λa9=>?_)
            .have g:=a9;refine go 3 ?_;refine Lk 17 [] (Qd (l.getD k Yo) (l.getD ((k+1)%l.length) Yo) (l.getD ((i+1)%l.length) Yo) (Zf c a) (Zf c (Ya a)) (Zf c (Ya b))) λ_ _=>go 12<|Ym J (λS=>?_) (λS=>?_)
             .have e:=S;refine go 15 ?_;exact Yw f () results53 (vB (Qa b (Qf k O a (by rw [Pg O O5,g,Xv e];rfl)))) aA Za
             .have e:=S;refine go 8 ⟨O,?_⟩;exact Yi (k+1) ⟨⟨O,O⟩,λm o p=>by rcases aC.1 p with d|d;exact n m o d;subst d;exact(by rw [Pg O O5,g,Qj e];rfl)⟩ O1 K1 aA
            .have g:=a9;refine go 32 ?_;exact Yw f () results53 (vB (Qa b (Qf k O a (by rw [Pg O O5,g];rfl)))) aA Za
           .refine go 5 ?_;refine cl 17 [] (Ln (l.getD i Yo) (l.getD ((i+1)%l.length) Yo) (l.getD k Yo) (l.getD ((k+1)%l.length) Yo) (Zf c b) (Zf c (Ya b)) (Zf c a) (Zf c (Ya a))) λ_ _=>go 11<|Ym J (λV=>?_) (λV=>?_)
            .have e:=V;refine go 15 ?_;exact Yw f () results53 (vB (Qa b (Qf k O a (by rw [My O O5];exact Xv e)))) aA Za
            .have e:=V;refine go 8 ⟨O,?_⟩;exact Yi (k+1) ⟨⟨O,O⟩,λm o p=>by rcases aC.1 p with d|d;exact n m o d;subst d;exact(by rw [My O O5];exact Qj e)⟩ O1 K1 aA
        .have a:l.length<=k:=O;refine go 10 ⟨O,?_⟩;exact Yi (i+1) ⟨O1,λj hj=>by rcases aC.1 hj with d|d;exact hr j d;subst d;exact Zxi a c3 n⟩ O1 K1 aA
      .refine go 19 ⟨O,?_⟩;have c3:okE l i=true:=by unfold okE;simp_all
       refine lp (G:=Nat) [0,3,4,5,6,23,24,44,45,46,47,48] [0,1,12,13] (λk=>[(7,.int .i64 (k:Int))]) (λk=>[]) (λk=>(i+1<=k/\k<=l.length)/\(∀m,i<m->m<k->Zfu l i m=true)) (λk=>l.length-k) (i+1) ⟨⟨O,O⟩,λm o p=>absurd o O⟩ K1 aA ?_;rintro k ⟨hk,n⟩;refine go 8<|Zb J (λf0=>?_) (λf0=>?_)
       .have a:k<l.length:=O;refine go 5<|Nf [1] [14] ?_;refine Zv 4 [(0,0),(1,0),(2,0),(3,0),(4,0),(5,0),(6,0),(7,0),(8,0),(9,0),(10,0)]<|go 2 ?_;refine Qb J J (Fp (Yn 1 k J J J J Zi Fl Bu J) K1)<|Qb J J (Fp (Oa 1 Yo J J J Zi pPt) K1)<|go 4 ⟨O,?_⟩;refine Qb J J (Fp (Ys ( .int .i64 (((k+1)%l.length:Nat):Int)) (Kb J J J O O) (aE (Value.int .i64) (Nd k l.length))) K1)<|Qb J J (Fp (Yn 1 ((k+1)%l.length) J J J J Zi Fl Bu J (Ya a)) K1)<|Qb J J (Fp (Oa 1 Yo J J J Zi pPt (Ya a)) K1)<|go 1 ?_;refine Nj 3 11 12 ?_ ?_
        .refine Iw (Nu 18) λj2 m1=>?_;refine Zv 0 [(12,1),(13,1),(14,3)]<|Ql (Nu 19) λj3 m2=>go 3 ?_;refine Yq<|go 15 ⟨O,?_⟩;refine Zl 79 J (λi1=>?_) (λi1=>?_)
         .refine go 6<|Zb J (λf6=>?_) (λf6=>?_)
          .refine go 4 ?_;refine cl 19 [] (Qd (l.getD i Yo) (l.getD ((i+1)%l.length) Yo) (l.getD ((k+1)%l.length) Yo) (Zf c b) (Zf c (Ya b)) (Zf c (Ya a))) λ_ _=>go 2<|Xw 88 J (λc9=>?_) (λc9=>?_)
           .have g:=c9;refine go 3 ?_;refine Lk 19 [] (Qd (l.getD k Yo) (l.getD ((k+1)%l.length) Yo) (l.getD i Yo) (Zf c a) (Zf c (Ya a)) (Zf c b)) λ_ _=>go 12<|Ym J (λW=>?_) (λW=>?_)
            .have e:=W;refine go 15 ?_;exact Yw f () results53 (vB (Qa b (Qf k O a (by rw [He ⟨O,O⟩,g,Xv e];rfl)))) aA Za
            .have e:=W;refine go 8 ⟨O,?_⟩;exact Yi (k+1) ⟨⟨O,O⟩,λm o p=>by rcases aC.1 p with d|d;exact n m o d;subst d;exact(by rw [He ⟨O,O⟩,g,Qj e];rfl)⟩ O1 K1 aA
           .have g:=c9;refine go 32 ?_;exact Yw f () results53 (vB (Qa b (Qf k O a (by rw [He ⟨O,O⟩,g];rfl)))) aA Za
          .refine go 5 ⟨O,?_⟩;refine dt (Ys ( .int .i64 (((k+1)%l.length:Nat):Int)) (Kb J J J O O) (aE (Value.int .i64) (Nd k l.length)))<|go 5 ?_;refine Zb J (λe2=>?_) (λe2=>?_)
           .refine go 4 ?_;refine cl 19 [] (Qd (l.getD i Yo) (l.getD ((i+1)%l.length) Yo) (l.getD k Yo) (Zf c b) (Zf c (Ya b)) (Zf c a)) λ_ _=>go 2<|Xw 107 J (λb0=>?_) (λb0=>?_)
            .have g:=b0;refine go 3 ?_;refine Lk 19 [] (Qd (l.getD k Yo) (l.getD ((k+1)%l.length) Yo) (l.getD ((i+1)%l.length) Yo) (Zf c a) (Zf c (Ya a)) (Zf c (Ya b))) λ_ _=>go 12<|Ym J (λY=>?_) (λY=>?_)
             .have e:=Y;refine go 15 ?_;exact Yw f () results53 (vB (Qa b (Qf k O a (by rw [Pg O O5,g,Xv e];rfl)))) aA Za
             .have e:=Y;refine go 8 ⟨O,?_⟩;exact Yi (k+1) ⟨⟨O,O⟩,λm o p=>by rcases aC.1 p with d|d;exact n m o d;subst d;exact(by rw [Pg O O5,g,Qj e];rfl)⟩ O1 K1 aA
            .have g:=b0;refine go 32 ?_;exact Yw f () results53 (vB (Qa b (Qf k O a (by rw [Pg O O5,g];rfl)))) aA Za
           .refine go 5 ?_;refine cl 19 [] (Ln (l.getD i Yo) (l.getD ((i+1)%l.length) Yo) (l.getD k Yo) (l.getD ((k+1)%l.length) Yo) (Zf c b) (Zf c (Ya b)) (Zf c a) (Zf c (Ya a))) λ_ _=>go 11<|Ym J (λZ=>?_) (λZ=>?_)
            .have e:=Z;refine go 15 ?_;exact Yw f () results53 (vB (Qa b (Qf k O a (by rw [My O O5];exact Xv e)))) aA Za
            .have e:=Z;refine go 8 ⟨O,?_⟩;exact Yi (k+1) ⟨⟨O,O⟩,λm o p=>by rcases aC.1 p with d|d;exact n m o d;subst d;exact(by rw [My O O5];exact Qj e)⟩ O1 K1 aA
         .refine go 12 ⟨O,?_⟩;refine dt (Ys ( .int .i64 (((k+1)%l.length:Nat):Int)) (Kb J J J O O) (aE (Value.int .i64) (Nd k l.length)))<|go 5 ?_;refine Zb J (λe3=>?_) (λe3=>?_)
          .refine go 4 ?_;refine cl 19 [] (Qd (l.getD i Yo) (l.getD ((i+1)%l.length) Yo) (l.getD k Yo) (Zf c b) (Zf c (Ya b)) (Zf c a)) λ_ _=>go 2<|Xw 107 J (λb1=>?_) (λb1=>?_)
           .have g:=b1;refine go 3 ?_;refine Lk 19 [] (Qd (l.getD k Yo) (l.getD ((k+1)%l.length) Yo) (l.getD ((i+1)%l.length) Yo) (Zf c a) (Zf c (Ya a)) (Zf c (Ya b))) λ_ _=>go 12<|Ym J (λa0=>?_) (λa0=>?_)
            .have e:=a0;refine go 15 ?_;exact Yw f () results53 (vB (Qa b (Qf k O a (by rw [Pg O O5,g,Xv e];rfl)))) aA Za
            .have e:=a0;refine go 8 ⟨O,?_⟩;exact Yi (k+1) ⟨⟨O,O⟩,λm o p=>by rcases aC.1 p with d|d;exact n m o d;subst d;exact(by rw [Pg O O5,g,Qj e];rfl)⟩ O1 K1 aA
           .have g:=b1;refine go 32 ?_;exact Yw f () results53 (vB (Qa b (Qf k O a (by rw [Pg O O5,g];rfl)))) aA Za
          .refine go 5 ?_;refine cl 19 [] (Ln (l.getD i Yo) (l.getD ((i+1)%l.length) Yo) (l.getD k Yo) (l.getD ((k+1)%l.length) Yo) (Zf c b) (Zf c (Ya b)) (Zf c a) (Zf c (Ya a))) λ_ _=>go 11<|Ym J (λa1=>?_) (λa1=>?_)
           .have e:=a1;refine go 15 ?_;exact Yw f () results53 (vB (Qa b (Qf k O a (by rw [My O O5];exact Xv e)))) aA Za
           .have e:=a1;refine go 8 ⟨O,?_⟩;exact Yi (k+1) ⟨⟨O,O⟩,λm o p=>by rcases aC.1 p with d|d;exact n m o d;subst d;exact(by rw [My O O5];exact Qj e)⟩ O1 K1 aA
        .refine Iw (Nu 20) λj4 m3=>?_;refine Zv 0 [(11,1),(13,1),(14,3)]<|Ql (Nu 21) λj5 m4=>go 3 ?_;refine Yq<|go 15 ⟨O,?_⟩;refine Zl 79 J (λi2=>?_) (λi2=>?_)
         .refine go 6<|Zb J (λf7=>?_) (λf7=>?_)
          .refine go 4 ?_;refine cl 21 [] (Qd (l.getD i Yo) (l.getD ((i+1)%l.length) Yo) (l.getD ((k+1)%l.length) Yo) (Zf c b) (Zf c (Ya b)) (Zf c (Ya a))) λ_ _=>go 2<|Xw 88 J (λd0=>?_) (λd0=>?_)
           .have g:=d0;refine go 3 ?_;refine Lk 21 [] (Qd (l.getD k Yo) (l.getD ((k+1)%l.length) Yo) (l.getD i Yo) (Zf c a) (Zf c (Ya a)) (Zf c b)) λ_ _=>go 12<|Ym J (λa2=>?_) (λa2=>?_)
            .have e:=a2;refine go 15 ?_;exact Yw f () results53 (vB (Qa b (Qf k O a (by rw [He ⟨O,O⟩,g,Xv e];rfl)))) aA Za
            .have e:=a2;refine go 8 ⟨O,?_⟩;exact Yi (k+1) ⟨⟨O,O⟩,λm o p=>by rcases aC.1 p with d|d;exact n m o d;subst d;exact(by rw [He ⟨O,O⟩,g,Qj e];rfl)⟩ O1 K1 aA
           .have g:=d0;refine go 32 ?_;exact Yw f () results53 (vB (Qa b (Qf k O a (by rw [He ⟨O,O⟩,g];rfl)))) aA Za
          .refine go 5 ⟨O,?_⟩;refine dt (Ys ( .int .i64 (((k+1)%l.length:Nat):Int)) (Kb J J J O O) (aE (Value.int .i64) (Nd k l.length)))<|go 5 ?_;refine Zb J (λe4=>?_) (λe4=>?_)
           .refine go 4 ?_;refine cl 21 [] (Qd (l.getD i Yo) (l.getD ((i+1)%l.length) Yo) (l.getD k Yo) (Zf c b) (Zf c (Ya b)) (Zf c a)) λ_ _=>go 2<|Xw 107 J (λb2=>?_) (λb2=>?_)
            .have g:=b2;refine go 3 ?_;refine Lk 21 [] (Qd (l.getD k Yo) (l.getD ((k+1)%l.length) Yo) (l.getD ((i+1)%l.length) Yo) (Zf c a) (Zf c (Ya a)) (Zf c (Ya b))) λ_ _=>go 12<|Ym J (λa3=>?_) (λa3=>?_)
             .have e:=a3;refine go 15 ?_;exact Yw f () results53 (vB (Qa b (Qf k O a (by rw [Pg O O5,g,Xv e];rfl)))) aA Za
             .have e:=a3;refine go 8 ⟨O,?_⟩;exact Yi (k+1) ⟨⟨O,O⟩,λm o p=>by rcases aC.1 p with d|d;exact n m o d;subst d;exact(by rw [Pg O O5,g,Qj e];rfl)⟩ O1 K1 aA
            .have g:=b2;refine go 32 ?_;exact Yw f () results53 (vB (Qa b (Qf k O a (by rw [Pg O O5,g];rfl)))) aA Za
           .refine go 5 ?_;refine cl 21 [] (Ln (l.getD i Yo) (l.getD ((i+1)%l.length) Yo) (l.getD k Yo) (l.getD ((k+1)%l.length) Yo) (Zf c b) (Zf c (Ya b)) (Zf c a) (Zf c (Ya a))) λ_ _=>go 11<|Ym J (λa4=>?_) (λa4=>?_)
            .have e:=a4;refine go 15 ?_;exact Yw f () results53 (vB (Qa b (Qf k O a (by rw [My O O5];exact Xv e)))) aA Za
            .have e:=a4;refine go 8 ⟨O,?_⟩;exact Yi (k+1) ⟨⟨O,O⟩,λm o p=>by rcases aC.1 p with d|d;exact n m o d;subst d;exact(by rw [My O O5];exact Qj e)⟩ O1 K1 aA
         .refine go 12 ⟨O,?_⟩;refine dt (Ys ( .int .i64 (((k+1)%l.length:Nat):Int)) (Kb J J J O O) (aE (Value.int .i64) (Nd k l.length)))<|go 5 ?_;refine Zb J (λe5=>?_) (λe5=>?_)
          .refine go 4 ?_;refine cl 21 [] (Qd (l.getD i Yo) (l.getD ((i+1)%l.length) Yo) (l.getD k Yo) (Zf c b) (Zf c (Ya b)) (Zf c a)) λ_ _=>go 2<|Xw 107 J (λb3=>?_) (λb3=>?_)
           .have g:=b3;refine go 3 ?_;refine Lk 21 [] (Qd (l.getD k Yo) (l.getD ((k+1)%l.length) Yo) (l.getD ((i+1)%l.length) Yo) (Zf c a) (Zf c (Ya a)) (Zf c (Ya b))) λ_ _=>go 12<|Ym J (λa5=>?_) (λa5=>?_)
            .have e:=a5;refine go 15 ?_;exact Yw f () results53 (vB (Qa b (Qf k O a (by rw [Pg O O5,g,Xv e];rfl)))) aA Za
            .have e:=a5;refine go 8 ⟨O,?_⟩;exact Yi (k+1) ⟨⟨O,O⟩,λm o p=>by rcases aC.1 p with d|d;exact n m o d;subst d;exact(by rw [Pg O O5,g,Qj e];rfl)⟩ O1 K1 aA
           .have g:=b3;refine go 32 ?_;exact Yw f () results53 (vB (Qa b (Qf k O a (by rw [Pg O O5,g];rfl)))) aA Za
          .refine go 5 ?_;refine cl 21 [] (Ln (l.getD i Yo) (l.getD ((i+1)%l.length) Yo) (l.getD k Yo) (l.getD ((k+1)%l.length) Yo) (Zf c b) (Zf c (Ya b)) (Zf c a) (Zf c (Ya a))) λ_ _=>go 11<|Ym J (λa6=>?_) (λa6=>?_)
           .have e:=a6;refine go 15 ?_;exact Yw f () results53 (vB (Qa b (Qf k O a (by rw [My O O5];exact Xv e)))) aA Za
           .have e:=a6;refine go 8 ⟨O,?_⟩;exact Yi (k+1) ⟨⟨O,O⟩,λm o p=>by rcases aC.1 p with d|d;exact n m o d;subst d;exact(by rw [My O O5];exact Qj e)⟩ O1 K1 aA
       .have a:l.length<=k:=O;refine go 10 ⟨O,?_⟩;exact Yi (i+1) ⟨O1,λj hj=>by rcases aC.1 hj with d|d;exact hr j d;subst d;exact Zxi a c3 n⟩ O1 K1 aA
    .have b:l.length<=i:=O;refine go 11 ?_;exact Yw f () results53 (vB (smp_t b k0 c hr)) aA Za
end Go.Sky

