/- Rules, arithmetic and contracts: part 19. No conditions but those that each theorem names. -/
import Derived.Test.YtlnoheikolgejaaGreatLc17
import Derived.Laws.Pointers
set_option linter.all false
set_option maxHeartbeats 4000000
namespace Go.Sky
open Go.Proofs.Tryz
open Go.Proofs
set_option synthInstance.maxHeartbeats 0
set_option synthInstance.maxSize 100000
set_option maxRecDepth 20000
set_option linter.unusedSimpArgs false
variable{v:Value}{w W:World}{Hn:Hp}
theorem Yft(n:Int)(d:Nat)(c fl wv:Int):Xp prog 60 #[.int .i64 n,.pointer (some ⟨d,0,none⟩)] [Hm d 24 #[.int .i64 c,.int .i64 fl,.int .i64 wv]] (.bool (nbB wv n)):=by
 refine Zg func60 ntmps60 λg f e a=>go 10 ?_;refine Zy 6 J (λb=>?_) (λb=>?_)
 .refine go 9 ?_;exact Yp a () results60 (by unfold nbB;first|(simp_all;done)|(simp_all;omega)) aA Za
 .refine go 9 ?_;exact Yp a () results60 (by unfold nbB;first|(simp_all;done)|(simp_all;omega)) aA Za
theorem ix_nb(l:List Int)(f:Nat)(c fl wv:Int):Cal prog 123 #[v,.func (.func 60) #[] #[.pointer (some ⟨f,0,none⟩)]] [Yl 1 Zz v l,Hm f 24 #[.int .i64 c,.int .i64 fl,.int .i64 wv]] false (G:=Int) (λr=>decide (r>=0)=l.any (nbB wv)) (λr=> .int .i64 r) (λr=>[]):=by
 refine Zg func123 ntmps123 λq p o e=>?_;refine Xz (Oa (i:=1) J Zl) λk=>go 14 ?_;refine lp (G:=Nat) [0,1,7] [0,1,2] (λi=>[(8,.int .i64 (i:Int))]) (λi=>[]) (λi=>(i<=l.length)/\(∀j,j<i->nbB wv (l.getD j 0)=false)) (λi=>l.length-i) 0 ⟨O1,λj h=>absurd h (aR j)⟩ K1 aA ?_;rintro i ⟨hi,m⟩;refine go 6<|Ze J (λd=>?_) (λd=>?_)
 .refine go 15 ?_;refine dt (Zs 1 i J J J J Zl Qi Lm J)<|go 1 ⟨O,?_⟩;refine tt (Zae 2 [] [_] [_] (Yft (l.getD i 0) f c fl wv) J J J J K1 call60 (Zp 2 J J J Zq) J o.h) J λ_ _=>go 2 ?_;refine Pe J (λa=>?_) (λa=>?_)
  .have b:=a;refine go 12 ?_;exact Yp e (i:Int) results123 J (by rw [an_t O b];exact aH (gE i)) Za
  .have b:=kA.1 a;refine go 7 ⟨O,?_⟩;exact Ye (i+1) ⟨O1,λj n=>by rcases aN.1 n with g|g;exact m j g;subst g;exact eq_false_of_ne_true b⟩ O1 K1 aA
 .obtain rfl:i=l.length:=O;refine go 11 ?_;exact Yp e (-1) results123 J (by rw [an_f m];rfl) Za
theorem cf_nb(l:List Int){b:Nat}(a fl wv:Int):Xp prog 59 #[v,.func (.func 60) #[] #[.pointer (some ⟨b,0,none⟩)]] [Yl 1 Zz v l,Hm b 24 #[.int .i64 a,.int .i64 fl,.int .i64 wv]] (.bool (l.any (nbB wv))):=by refine Zg func59 ntmps59 λh g e d=>go 9 ?_;refine cl 2 [1,2] (ix_nb l b a fl wv) λf c=>go 5 ?_;exact Yp d () results59 (by rw [c]) aA Za
theorem Yrm(p d:Dh)(b fl wv t n:Int)(N:ptT p=true)(I:ptT d=true)(o:wvB (b,fl,wv)=true)(ht:0<=t)(M:lnd (b,fl,wv) t<=3600000)(S:0<=n/\n<wv):Cal prog 62 #[Zbm p,Zbm d,.agg #[.int .i64 b,.int .i64 fl,.int .i64 wv],.int .i64 t,.int .i64 n] [] true (G:=SL×List Zv) (λr=>r.2.map Ia=lpP p d (b,fl,wv) t n) (λr=>Xd r.1) (λr=>[Xv 6 Qv qG (Xd r.1) r.2]):=by
 refine Zg func62 ntmps62 λw0 sc c l=>?_;have e:=wv_t o;unfold lnd at M;dsimp only at e M;have P:=mg_b e.1 e.2.1 (n:=n) S.1 O;have Q:=mg_b e.1 e.2.1 (n:=wv-1) O O;have R:=mg_le e.1 (show n<=wv-1 by omega);refine go 2<|Yj (Yg 1) λbx _=>Yj (Yg 2) λx _=>Yj (Yg 3) λy _=>go 4<|Qa (λ_=>False) [(0,0),(1,0),(2,0),(3,0),(4,0),(5,0),(6,0),(7,0),(8,0),(9,0),(10,0),(11,0),(12,0),(13,0),(14,0),(15,0),(16,0),(17,0),(18,3)]<|go 33 ⟨O,O,O,O,O,O,?_⟩;refine dt (Qe [(0,_),(1,_),(2,_),(3,_),(4,_)] J K10 (λa w hs=>Zf4 ((Zk J) a w hs) ((Zk J) a w hs) ((Zk J) a w hs)))<|go 7 ⟨O,?_⟩;refine dt (Qe [(0,_),(1,_),(2,_),(3,_),(4,_)] J K10 (λa w hs=>Zf4 ((Zk J) a w hs) ((Zk J) a w hs) ((Zk J) a w hs)))<|go 7 ⟨O,?_⟩;refine dt (Qe [(0,_),(1,_),(2,_),(3,_),(4,_)] J K10 (λa w hs=>Zf4 ((Zk J) a w hs) ((Zk J) a w hs) ((Zk J) a w hs)))<|dt (Qe [(0,_),(1,_),(2,_)] J K6 (λa w hs=>Yoe))<|go 4 ?_;refine Zf (Qp 70 6 116 Qv)<|Zf (Yh qG 71)<|lp (G:=Nat×Value×List Zv) [56] [0,1,2,3] (λq=>[(57,.int .i64 (q.1:Int)),(13,q.2.1)]) (λq=>[(70,Oe 6 116 Qv q.2.1 q.2.2),(71,Nw qG q.2.2)]) (λq=>(q.1<=3)/\(q.2.2.map Ia=lpT p d (b,fl,wv) t n q.1)/\(q.2.2.length<=q.1)) (λq=>3-q.1) (0,_,[]) ⟨O1,rfl,aF _⟩ K2 K2 ?_;rintro⟨i,vp,h⟩ ⟨hi,g,k⟩;dsimp only at hi g k;dsimp only;refine go 6<|Ze J (λj=>?_) (λj=>?_)
 .refine go 5 ?_;rcases lp5 (show i<3 by omega) (t<t+n*b) (t+n*b+fl<t+(wv-1)*b+fl)with⟨rfl,f⟩|⟨rfl,f⟩|rfl|⟨rfl,f⟩|⟨rfl,f⟩
  .refine go 1 ?_;refine dt (Xf ( .agg #[.func (.func 125) #[] #[],.int .i64 p.1,.int .i64 p.2.1,.int .i64 p.2.2,.int .i64 p.1,.int .i64 p.2.1,.int .i64 p.2.2,.int .i64 t,.int .i64 (t+n*b)]) (Zw0 J J J underlying197 sizeOf196 isAgg196 J O3) J)<|Yj (Yd 4) λz _=>?_;refine tt (Zo1 4 J J J J J J sizeOf196 J J ⟨Zk J,Zk J,Zk J,Zk J,Zk J,Zk J,Zk J,Zk J,Zk J,aA⟩ J c.h aA) J λ_ _=>go 14 ?_;refine tt (Zae 5 [] [_,_,_,_] [] (Yb8 p.1 p.2.1 p.2.2 p.1 p.2.1 p.2.2 t (t+n*b) (glv_h N O f O)) J J J J K4 call125 Zq J c.h) J λ⟨v,q⟩ _=>go 10 ?_;refine tt (Pk 70 5 96 J J J J J J O3 J Zc Ny ti116 J pG J J J O13 O3 J c.h) J (λY _=>?_);refine Yk (Iv 5 73 J J)<|Yk (Iu 71 73 71 J J J J)<|go 8 ⟨O,?_⟩;exact Ye (1,_,h ++ [glG p.1 p.2.1 p.2.2 p.1 p.2.1 p.2.2 t (t+n*b) 1 q]) ⟨O1,lpT_0 g f,(by rw [aO];simp only [bX,cK];omega)⟩ O1 K2 K2
  .refine go 1 ?_;refine dt (Xf ( .agg #[.func (.func 125) #[] #[],.int .i64 p.1,.int .i64 p.2.1,.int .i64 p.2.2,.int .i64 p.1,.int .i64 p.2.1,.int .i64 p.2.2,.int .i64 t,.int .i64 (t+n*b)]) (Zw0 J J J underlying197 sizeOf196 isAgg196 J O3) J)<|Yj (Yd 6) λB _=>?_;refine tt (Zo1 6 J J J J J J sizeOf196 J J ⟨Zk J,Zk J,Zk J,Zk J,Zk J,Zk J,Zk J,Zk J,Zk J,aA⟩ J c.h aA) J λ_ _=>go 14 ?_;refine tt (Zae 6 [] [_,_,_,_] [] (Zjv p.1 p.2.1 p.2.2 p.1 p.2.1 p.2.2 t (t+n*b) (Znd O)) J J J J K4 call125 Zq J c.h) J (λ_ _=>?_);refine Yk (Kv 75 6 Qv qG)<|go 10 ?_;refine tt (Pk 70 75 96 J J J J J J O3 J Zc Ny ti116 J pG J J J O13 O3 J c.h) J (λZ _=>?_);refine Yk (Iv 75 73 J J)<|Yk (Iu 71 73 71 J J J J)<|go 8 ⟨O,?_⟩;exact Ye (1,_,h ++ []) ⟨O1,lpT_1 g f,(by rw [aO];simp only [bX,cK];omega)⟩ O1 K2 K2
  .refine go 1 ?_;refine dt (Xf ( .agg #[.func (.func 126) #[] #[],.int .i64 p.1,.int .i64 p.2.1,.int .i64 p.2.2,.int .i64 d.1,.int .i64 d.2.1,.int .i64 d.2.2,.int .i64 (t+n*b),.int .i64 (t+n*b+fl)]) (Zw0 J J J underlying197 sizeOf196 isAgg196 J O3) J)<|Yj (Yd 7) λD _=>?_;refine tt (Zo1 7 J J J J J J sizeOf196 J J ⟨Zk J,Zk J,Zk J,Zk J,Zk J,Zk J,Zk J,Zk J,Zk J,aA⟩ J c.h aA) J λ_ _=>go 14 ?_;refine tt (Zae 8 [] [_,_,_,_] [] (Yl4 p.1 p.2.1 p.2.2 d.1 d.2.1 d.2.2 (t+n*b) (t+n*b+fl) (glv_g N I O O O)) J J J J K4 call126 Zq J c.h) J λ⟨a0,s⟩ _=>go 10 ?_;refine tt (Pk 70 8 96 J J J J J J O3 J Zc Ny ti116 J pG J J J O13 O3 J c.h) J (λa1 _=>?_);refine Yk (Iv 8 73 J J)<|Yk (Iu 71 73 71 J J J J)<|go 8 ⟨O,?_⟩;exact Ye (2,_,h ++ [glG p.1 p.2.1 p.2.2 d.1 d.2.1 d.2.2 (t+n*b) (t+n*b+fl) 2 s]) ⟨O1,lpT_2 g,(by rw [aO];simp only [bX,cK];omega)⟩ O1 K2 K2
  .refine go 1 ?_;refine dt (Xf ( .agg #[.func (.func 125) #[] #[],.int .i64 d.1,.int .i64 d.2.1,.int .i64 d.2.2,.int .i64 d.1,.int .i64 d.2.1,.int .i64 d.2.2,.int .i64 (t+n*b+fl),.int .i64 (t+(wv-1)*b+fl)]) (Zw0 J J J underlying197 sizeOf196 isAgg196 J O3) J)<|Yj (Yd 9) λF _=>?_;refine tt (Zo1 9 J J J J J J sizeOf196 J J ⟨Zk J,Zk J,Zk J,Zk J,Zk J,Zk J,Zk J,Zk J,Zk J,aA⟩ J c.h aA) J λ_ _=>go 14 ?_;refine tt (Zae 10 [] [_,_,_,_] [] (Yb8 d.1 d.2.1 d.2.2 d.1 d.2.1 d.2.2 (t+n*b+fl) (t+(wv-1)*b+fl) (glv_h I O f O)) J J J J K4 call125 Zq J c.h) J λ⟨a2,u⟩ _=>go 10 ?_;refine tt (Pk 70 10 96 J J J J J J O3 J Zc Ny ti116 J pG J J J O13 O3 J c.h) J (λa3 _=>?_);refine Yk (Iv 10 73 J J)<|Yk (Iu 71 73 71 J J J J)<|go 8 ⟨O,?_⟩;exact Ye (3,_,h ++ [glG d.1 d.2.1 d.2.2 d.1 d.2.1 d.2.2 (t+n*b+fl) (t+(wv-1)*b+fl) 1 u]) ⟨O1,lpT_3 g f,(by rw [aO];simp only [bX,cK];omega)⟩ O1 K2 K2
  .refine go 1 ?_;refine dt (Xf ( .agg #[.func (.func 125) #[] #[],.int .i64 d.1,.int .i64 d.2.1,.int .i64 d.2.2,.int .i64 d.1,.int .i64 d.2.1,.int .i64 d.2.2,.int .i64 (t+n*b+fl),.int .i64 (t+(wv-1)*b+fl)]) (Zw0 J J J underlying197 sizeOf196 isAgg196 J O3) J)<|Yj (Yd 11) λH _=>?_;refine tt (Zo1 11 J J J J J J sizeOf196 J J ⟨Zk J,Zk J,Zk J,Zk J,Zk J,Zk J,Zk J,Zk J,Zk J,aA⟩ J c.h aA) J λ_ _=>go 14 ?_;refine tt (Zae 11 [] [_,_,_,_] [] (Zjv d.1 d.2.1 d.2.2 d.1 d.2.1 d.2.2 (t+n*b+fl) (t+(wv-1)*b+fl) (Znd O)) J J J J K4 call125 Zq J c.h) J (λ_ _=>?_);refine Yk (Kv 75 6 Qv qG)<|go 10 ?_;refine tt (Pk 70 75 96 J J J J J J O3 J Zc Ny ti116 J pG J J J O13 O3 J c.h) J (λa4 _=>?_);refine Yk (Iv 75 73 J J)<|Yk (Iu 71 73 71 J J J J)<|go 8 ⟨O,?_⟩;exact Ye (3,_,h ++ []) ⟨O1,lpT_4 g f,(by rw [aO];simp only [bX,cK];omega)⟩ O1 K2 K2
 .refine go 12 ?_;obtain rfl:i=3:=O;refine Zfd (Xj 70 J (Yb pG)) (λV m=>?_);subst m;exact Zn (Xa 70 J J pG)<|Zn (Xe 70 71 72 J J J J)<|Yp l (V,h) results62 J g (Pb 72 Za)
theorem Ylk{u q:Value}(a b:List Dh)(k:List Int)(d fl wv t:Int):Cal prog 12 #[v,u,.agg #[.int .i64 d,.int .i64 fl,.int .i64 wv],.int .i64 t,q] [Yl 3 Zbm v a,Yl 3 Zbm u b,Yl 1 Zz q k] true (G:=Value×List PT) (λr=>Ztw r.2=lPr a b (d,fl,wv) t k) (λr=> .tuple #[r.1,.int .i64 (lkE a b (d,fl,wv) t (pbB a k wv))]) (λr=>[Xv 1 Zdi qP r.1 r.2]):=by
 refine Zg func12 ntmps12 λw0 sc I j=>?_;refine Xz (Oa (i:=1) J Zl) (λS=>?_);refine Xz (Oa (i:=2) J Zl) (λV=>?_);refine Xz (Oa (i:=3) J Zl) λZ=>go 2 ?_;refine Yj (Yg 4) λbx _=>go 12<|Zy 22 J (λf=>?_) (λf=>?_)
 .have c:=pb_1 (wv:=wv) f;refine go 15 ?_;refine cl 4 [1,2] (Zvr _ _ a b d fl wv t _) λ_ _=>go 6<|kt (aH (by rw [Ze8 (Ylm rfl)];decide))<|go 12<|Zn (Kv 75 1 Zdi qP) ?_;exact Nd j (.slice none 0 0,[]) results12 (by rw [c]) (lPr_f (by rw [c,Ze8 (Ylm rfl)];decide)).symm (Pb 75 Za)
 .have c:=pb_2 (wv:=wv) f;refine go 1 ?_;refine Di (Yc2 [] [_] J aA K1) J J<|Gi 4 [3,4] (cf_nb k d fl wv) λ_ _=>go 12 ?_;refine cl 4 [1,2] (Zvr _ _ a b d fl wv t _) λ_ _=>go 9<|Ze J (λe=>?_) (λe=>?_)
  .have R:=e;refine go 9<|Zn (Kv 75 1 Zdi qP) ?_;exact Nd j (.slice none 0 0,[]) results12 (by rw [c]) (lPr_f (by rw [c];exact R)).symm (Pb 75 Za)
  .have g:=dN.1 e;rw [<-c]at g;obtain⟨N,H,n⟩:=lkE_0 g;obtain⟨m,F,P,Q,D,y,B⟩:=lkB_t N;obtain⟨a0,x⟩:=pb_f m;refine go 16<|Zf (Qp 70 1 36 Zdi)<|Zf (Yh qP 71) ?_;refine lp (G:=Nat×Value×List PT) [0,1,3,7,36,37] [0,1,2,3,4] (λq=>[(38,.int .i64 (q.1:Int)),(14,q.2.1)]) (λq=>[(70,Oe 1 36 Zdi q.2.1 q.2.2),(71,Nw qP q.2.2)]) (λq=>(q.1<=a.length)/\(Ztw q.2.2=lPs a b (d,fl,wv) t k q.1)) (λq=>a.length-q.1) (0,_,[]) ⟨O1,rfl⟩ K2 K2 ?_;rintro⟨i,vl,M⟩ ⟨hi,o⟩;dsimp only at hi o;dsimp only;have Y:=Yrw o;refine go 6<|Ze J (λl=>?_) (λl=>?_)
   .refine go 7 ?_;refine dt (Zs 3 i J J J J Zl Qi Lm J)<|go 5 ⟨O,?_⟩;refine Qw [1,2,4] [15]<|Zi 1 [(0,0),(1,0),(2,0),(3,0),(4,0),(5,0),(6,0),(7,0),(8,0),(9,0),(10,0),(11,0),(12,1),(13,1),(14,1)]<|go 3 ?_;refine Yz J J (Ko (Zs 1 i J J J J Zl Yg4 zT61 J) K3)<|Yz J J (Ko (Yr 1 Pt0 J J J Zl pPt) K3)<|go 2 ?_;refine Yz J J (Ko (Zs 2 i J J J J Zl Yg4 zT61 J) K3)<|Yz J J (Ko (Yr 2 Pt0 J J J Zl pPt) K3)<|go 3 ?_;refine Yq (Zo 5 [] (Yrm (a.getD i Pt0) (b.getD i Pt0) d fl wv t (k.getD i 0) (pt_at y O) (pt_at B O) F D.1 n (nb_at x O))) λp s=>?_;refine Kd J (Xc [(0,_)] 6 (enc:=Zdi) [p] J J K2 Zgc ti36 J J J J J pPq.cells J J I.h) (λv _=>?_);refine Kd J (Be 70 J J J K3 (λh=>(Fl 70 6 24 J J J J J J O3 J (Yb pPq) Zgc ti36 J pPq J J J O13 O3 J I.h h))) λa1 _=>go 1 ?_;refine Kb (Zm (q:=qP) (z:=p) 71 5 71 J J J J J)<|Zi 0 [(15,3)]<|go 2 ?_;refine Zu<|go 6 ⟨O,?_⟩;exact Ye (i+1,_,M ++ [p]) ⟨O1,by rw [Yek,o,lPs_s,s]⟩ O1 K2 K2
   .refine go 13 ?_;obtain rfl:i=a.length:=O;exact Zn (Xa 70 J J pPq)<|Zn (Xe 70 71 72 J J J J)<|Nd j (_,M) results12 (by rw [g]) (o.trans (lPr_t g).symm) (Pb 72 Za)
open Go.RowKit Below
variable {P:Program} {N:Nat} {sc:Nat->Prop} {env env':Px} {H H':Hp} {Q Q':Exit->Act->World->Prop} {ds:List Nat}
structure Kpt (sc:Nat->Prop) (w:World) (H:Hp) (T:Nat->Prop) (Hn:Hp) (W:World):Prop where
 hold:∀i it,lk Hn i=some it->it.holds W
 sep:∀i j it jt,i≠j->lk Hn i=some it->lk Hn j=some jt->it.own=true->∀b,it.fp b->jt.fp b->False
 scope:∀i it,i≠0->lk Hn i=some it->∀b,it.fp b->sc b
 off:∀i it,lk Hn i=some it->∀b,it.fp b->b<w.heap.size\/T b
 mf:∀i it,lk Hn i=some it->it.own=true->∀b,it.fp b->(∃i q,lk H i=some q/\q.own=true/\q.fp b)\/T b
theorem Kpt.chg{T:Nat->Prop}{d:World}(h:Kpt sc w H T Hn W)(a:Chg (λb=>w.heap.size<=b/\¬T b) W d):Kpt sc w H T Hn d:=
 ⟨λi c hi=>c.stable _ _ (h.hold i c hi) ⟨a.os,a.tape,a.output,a.size,λk f g=>a.block k f (λe=>by
  rcases h.off i c hi k (eT.1 g)with h|h
  .omega
  .exact e.2 h)⟩,h.sep,h.scope,h.off,h.mf⟩
def Kpt.sat{T:Nat->Prop}{a:Act}(h:Kpt sc w H T Hn W)(b:a.tmps.size=N)(c:a.defers=[])(d:∀t v,lk env t=some v->a.tmps.getD t undef=v):Sat N sc env Hn a W:=⟨b,c,d,h.hold,h.sep,h.scope⟩
end Go.Sky
namespace Go.Sky
abbrev PgT:=SL×List Dh
section
variable {o:List Dh} {hs:List PgT} {lo hi:Int} {so:SL} {i k:Nat} {e:Dh×Dh}
end
section
variable {po:List Dh} {ph:List PgT} {fl fu:Int} {q:Dh}
end
end Go.Sky
namespace Go.Sky
def dst(a p:Dh):Int:=(p.1-a.1)*(p.1-a.1)+(p.2.1-a.2.1)*(p.2.1-a.2.1)
section
variable {a b p:Dh}
end
end Go.Sky
namespace Go.Sky
section
variable {P:Program} {N:Nat} {sc:Nat->Prop} {env:Px} {H:Hp}
instance hwT {a:World} : Hw a (λ_=>True):=⟨λ_ _=>trivial⟩
end
end Go.Sky
namespace Go.Sky
open Go.RowKit Below
variable {P:Program} {N:Nat} {sc:Nat->Prop} {env env':Px} {H H':Hp} {Q Q':Exit->Act->World->Prop} {M:Nat->Prop}
def pj(p q:Pc):Pc:=
 {own:=true,fp:=λc=>p.fp c\/q.fp c,holds:=λw=>p.holds w/\q.holds w/\∀c,p.fp c->q.fp c->False
  lt:=λw c h a=>a.elim (p.lt w c h.1) (q.lt w c h.2.1)
  stable:=λw g h a=>⟨p.stable w g h.1 ⟨a.os,a.tape,a.output,a.size,λk d e=>a.block k d (λb=>e (λf=>b (.inl f)))⟩,
   q.stable w g h.2.1 ⟨a.os,a.tape,a.output,a.size,λk d e=>a.block k d (λb=>e (λf=>b (.inr f)))⟩,h.2.2⟩ }
theorem Zbe{p q:Pc}(i j:Nat)(hi:lk H i=some (pj p q))(F:Nat.beq i 0=false)(G:Nat.beq i j=false) :
  ∀a w,Sat N sc env H a w->Sat N sc env ((i,p)::(j,q)::drp i H) a w:=λa w hs=>by
 have z:i≠0:=λe=>O10;obtain⟨I,S,R⟩:=hs.hold i _ hi;have g:∀m r,lk ((i,p)::(j,q)::drp i H) m=some r->(m=i/\r=p)\/(m=j/\r=q)\/(m≠i/\lk H m=some r):=λm r k=>by grind [Yv,Yc,Fu]
 refine⟨hs.size,hs.defers,hs.env,λm r k=>?_,λm l r n x k f y c d b=>?_,λm r v k c d=>?_⟩
 .rcases g m r k with⟨_,rfl⟩|⟨_,rfl⟩|⟨_,h⟩
  .omega
  .omega
  .exact hs.hold m r h
 .rcases g m r k with⟨D,rfl⟩|⟨D,rfl⟩|⟨B,u⟩
  .rcases g l n f with⟨o,rfl⟩|⟨o,rfl⟩|⟨t,s⟩
   .omega
   .grind
   .exact hs.sep i l _ n (fB t) hi s rfl c (.inl d) b
  .rcases g l n f with⟨o,rfl⟩|⟨o,rfl⟩|⟨t,s⟩
   .grind
   .omega
   .exact hs.sep i l _ n (fB t) hi s rfl c (.inr d) b
  .rcases g l n f with⟨o,rfl⟩|⟨o,rfl⟩|⟨t,s⟩
   .exact hs.sep m i r _ B u hi y c d (.inl b)
   .exact hs.sep m i r _ B u hi y c d (.inr b)
   .exact hs.sep m l r n x u s y c d b
 .rcases g m r k with⟨_,rfl⟩|⟨_,rfl⟩|⟨_,h⟩
  .exact hs.scope i _ z hi c (.inl d)
  .exact hs.scope i _ z hi c (.inr d)
  .exact hs.scope m r v h c d
theorem Ku{p q:Pc}(i j:Nat)(hi:lk H i=some p)(k:lk H j=some q)(n:p.own=true)(F:q.own=true)(V:Nat.beq i 0=false)(W:Nat.beq i j=false)(Y:Nat.beq j 0=false) :
  ∀a w,Sat N sc env H a w->Sat N sc env ((i,pj p q)::drp j (drp i H)) a w:=λa w hs=>by
 have z:i≠j:=λe=>O10;have S:i≠0:=λe=>O10;have v:j≠0:=λe=>O10;have g:∀m r,lk ((i,pj p q)::drp j (drp i H)) m=some r->(m=i/\r=pj p q)\/(m≠i/\m≠j/\lk H m=some r):=λm r f=>by grind [Yv,Yc,Fu]
 refine⟨hs.size,hs.defers,hs.env,λm r f=>?_,λm o r t B f l D c d b=>?_,λm r y f c d=>?_⟩
 .rcases g m r f with⟨_,rfl⟩|⟨_,_,h⟩
  .exact⟨hs.hold i _ hi,hs.hold j _ k,λc d b=>hs.sep i j _ _ z hi k n c d b⟩
  .exact hs.hold m r h
 .rcases g m r f with⟨e1,rfl⟩|⟨Z,G,x⟩
  .rcases g o t l with⟨R,rfl⟩|⟨I,s,u⟩
   .omega
   .rcases d with d|d
    .exact hs.sep i o _ t (fB I) hi u n c d b
    .exact hs.sep j o _ t (fB s) k u F c d b
  .rcases g o t l with⟨R,rfl⟩|⟨I,s,u⟩
   .rcases b with b|b
    .exact hs.sep m i r _ Z x hi D c d b
    .exact hs.sep m j r _ G x k D c d b
   .exact hs.sep m o r t B x u D c d b
 .rcases g m r f with⟨_,rfl⟩|⟨_,_,h⟩
  .rcases d with d|d
   .exact hs.scope i _ S hi c d
   .exact hs.scope j _ v k c d
  .exact hs.scope m r y h c d
end Go.Sky

