/- Rules, arithmetic and contracts: part 19. No conditions but those that each theorem names. -/
import Derived.Test.YtlnoheikolgejaaGreatLb17
import Derived.Laws.Pointers
set_option linter.all false
set_option maxHeartbeats 4000000
namespace Go.Sky
open Go.Proofs.Tryz
open Go.Proofs
set_option synthInstance.maxHeartbeats 0
set_option synthInstance.maxSize 100000
set_option maxRecDepth 20000
set_option linter.unusedSimpArgs false
variable{v u:Value}{w W:World}{Hn:Hp}
theorem Ygl(n:Int)(d:Nat)(c fl wv:Int):Xq prog 60 #[.int .i64 n,.pointer (some ⟨d,0,none⟩)] [Hr d 24 #[.int .i64 c,.int .i64 fl,.int .i64 wv]] (.bool (nbB wv n)):=by
 refine Zg func60 ntmps60 λg f e a=>go 10 ?_;refine Yc 6 J (λb=>?_) (λb=>?_)
 .refine go 9 ?_;exact Yq a () results60 (by unfold nbB;first|(simp_all;done)|(simp_all;omega)) aA Za
 .refine go 9 ?_;exact Yq a () results60 (by unfold nbB;first|(simp_all;done)|(simp_all;omega)) aA Za
theorem ix_nb(l:List Int)(f:Nat)(c fl wv:Int):Cal prog 123 #[v,.func (.func 60) #[] #[.pointer (some ⟨f,0,none⟩)]] [Ym 1 Yd v l,Hr f 24 #[.int .i64 c,.int .i64 fl,.int .i64 wv]] false (G:=Int) (λr=>decide (r>=0)=l.any (nbB wv)) (λr=> .int .i64 r) (λr=>[]):=by
 refine Zg func123 ntmps123 λq p o e=>?_;refine Xr (Ps (i:=1) J Zm) λk=>go 14 ?_;refine lp (G:=Nat) [0,1,7] [0,1,2] (λi=>[(8,.int .i64 (i:Int))]) (λi=>[]) (λi=>(i<=l.length)/\(∀j,j<i->nbB wv (l.getD j 0)=false)) (λi=>l.length-i) 0 ⟨O1,λj h=>absurd h (bG j)⟩ K1 aA ?_;rintro i ⟨hi,m⟩;refine go 6<|Zc J (λd=>?_) (λd=>?_)
 .refine go 15 ?_;refine dt (Zv 1 i J J J J Zm Ql Mv J)<|go 1 ⟨O,?_⟩;refine tt (Zan 2 [] [_] [_] (Ygl (l.getD i 0) f c fl wv) J J J J K1 call60 (Zs 2 J J J Zr) J o.h) λ_ _=>go 2 ?_;refine Pw J (λa=>?_) (λa=>?_)
  .have b:=a;refine go 12 ?_;exact Yq e (i:Int) results123 J (by rw [an_t O b];exact aF (gL i)) Za
  .have b:=kD.1 a;refine go 7 ⟨O,?_⟩;exact Yi (i+1) ⟨O1,λj n=>by rcases bA.1 n with g|g;exact m j g;subst g;exact eq_false_of_ne_true b⟩ O1 K1 aA
 .obtain rfl:i=l.length:=O;refine go 11 ?_;exact Yq e (-1) results123 J (by rw [an_f m];rfl) Za
theorem cf_nb(l:List Int){b:Nat}(a fl wv:Int):Xq prog 59 #[v,.func (.func 60) #[] #[.pointer (some ⟨b,0,none⟩)]] [Ym 1 Yd v l,Hr b 24 #[.int .i64 a,.int .i64 fl,.int .i64 wv]] (.bool (l.any (nbB wv))):=by refine Zg func59 ntmps59 λh g e d=>go 9 ?_;refine cl 2 [1,2] (ix_nb l b a fl wv) λf c=>go 5 ?_;exact Yq d () results59 (by rw [c]) aA Za
theorem Ycz(p d:Hj)(b fl wv t n:Int)(P:ptT p=true)(M:ptT d=true)(o:wvB (b,fl,wv)=true)(ht:0<=t)(N:lnd (b,fl,wv) t<=3600000)(V:0<=n/\n<wv):Cal prog 62 #[Ic p,Ic d,.agg #[.int .i64 b,.int .i64 fl,.int .i64 wv],.int .i64 t,.int .i64 n] [] true (G:=SL×List Zt) (λr=>r.2.map Nw=lpP p d (b,fl,wv) t n) (λr=>Xi r.1) (λr=>[Qb 6 Qt qG (Xi r.1) r.2]):=by
 refine Zg func62 ntmps62 λw0 sc c l=>?_;have e:=Zt2 o;unfold lnd at N;dsimp only at e N;have Q:=Zzc e.1 e.2.1 (n:=n) V.1 O;have R:=Zzc e.1 e.2.1 (n:=wv-1) O O;have S:=Yln e.1 (show n<=wv-1 by omega);refine go 2<|Yk (Yf 1) λbx _=>Yk (Yf 2) λy _=>Yk (Yf 3) λz _=>go 4<|Qe (λ_=>False) [(0,0),(1,0),(2,0),(3,0),(4,0),(5,0),(6,0),(7,0),(8,0),(9,0),(10,0),(11,0),(12,0),(13,0),(14,0),(15,0),(16,0),(17,0),(18,3)]<|go 33 ⟨O,O,O,O,O,O,?_⟩;refine dt (Qf [(0,_),(1,_),(2,_),(3,_),(4,_)] J K10 (λa w hs=>Zgf ((Zl J) a w hs) ((Zl J) a w hs) ((Zl J) a w hs)))<|go 7 ⟨O,?_⟩;refine dt (Qf [(0,_),(1,_),(2,_),(3,_),(4,_)] J K10 (λa w hs=>Zgf ((Zl J) a w hs) ((Zl J) a w hs) ((Zl J) a w hs)))<|go 7 ⟨O,?_⟩;refine dt (Qf [(0,_),(1,_),(2,_),(3,_),(4,_)] J K10 (λa w hs=>Zgf ((Zl J) a w hs) ((Zl J) a w hs) ((Zl J) a w hs)))<|dt (Qf [(0,_),(1,_),(2,_)] J K6 (λa w hs=>Yot))<|go 4 ?_;refine Zf (Qi 70 6 116 Qt)<|Zf (Ya qG 71)<|lp (G:=Nat×Value×List Zt) [56] [0,1,2,3] (λq=>[(57,.int .i64 (q.1:Int)),(13,q.2.1)]) (λq=>[(70,Oc 6 116 Qt q.2.1 q.2.2),(71,Nt qG q.2.2)]) (λq=>(q.1<=3)/\(q.2.2.map Nw=lpT p d (b,fl,wv) t n q.1)/\(q.2.2.length<=q.1)) (λq=>3-q.1) (0,_,[]) ⟨O1,rfl,aH _⟩ K2 K2 ?_;rintro⟨i,vp,h⟩ ⟨hi,g,k⟩;dsimp only at hi g k;dsimp only;refine go 6<|Zc J (λj=>?_) (λj=>?_)
 .refine go 5 ?_;rcases lp5 (show i<3 by omega) (t<t+n*b) (t+n*b+fl<t+(wv-1)*b+fl)with⟨rfl,f⟩|⟨rfl,f⟩|rfl|⟨rfl,f⟩|⟨rfl,f⟩
  .refine go 1 ?_;refine dt (Xk ( .agg #[.func (.func 125) #[] #[],.int .i64 p.1,.int .i64 p.2.1,.int .i64 p.2.2,.int .i64 p.1,.int .i64 p.2.1,.int .i64 p.2.2,.int .i64 t,.int .i64 (t+n*b)]) (Zxi J J J underlying197 sizeOf196 isAgg196 J O3) J)<|Yk (Yh 4) λB _=>?_;refine tt (Zpc 4 J J J J J J sizeOf196 J J ⟨Zl J,Zl J,Zl J,Zl J,Zl J,Zl J,Zl J,Zl J,Zl J,aA⟩ J c.h aA) λ_ _=>go 14 ?_;refine tt (Zan 5 [] [_,_,_,_] [] (Yc9 p.1 p.2.1 p.2.2 p.1 p.2.1 p.2.2 t (t+n*b) (glv_h P O f O)) J J J J K4 call125 Zr J c.h) λ⟨v,q⟩ _=>go 10 ?_;refine tt (Qr 70 5 96 J J J J J J O3 J Ze Mm ti116 J pG J J J O10 O3 J c.h) (λZ _=>?_);refine Ye (Ir 5 73 J J)<|Ye (Iq 71 73 71 J J J J)<|go 8 ⟨O,?_⟩;exact Yi (1,_,h ++ [glG p.1 p.2.1 p.2.2 p.1 p.2.1 p.2.2 t (t+n*b) 1 q]) ⟨O1,lpT_0 g f,(by rw [aP];simp only [bI,bQ];omega)⟩ O1 K2 K2
  .refine go 1 ?_;refine dt (Xk ( .agg #[.func (.func 125) #[] #[],.int .i64 p.1,.int .i64 p.2.1,.int .i64 p.2.2,.int .i64 p.1,.int .i64 p.2.1,.int .i64 p.2.2,.int .i64 t,.int .i64 (t+n*b)]) (Zxi J J J underlying197 sizeOf196 isAgg196 J O3) J)<|Yk (Yh 6) λD _=>?_;refine tt (Zpc 6 J J J J J J sizeOf196 J J ⟨Zl J,Zl J,Zl J,Zl J,Zl J,Zl J,Zl J,Zl J,Zl J,aA⟩ J c.h aA) λ_ _=>go 14 ?_;refine tt (Zan 6 [] [_,_,_,_] [] (Zj3 p.1 p.2.1 p.2.2 p.1 p.2.1 p.2.2 t (t+n*b) (Znp O)) J J J J K4 call125 Zr J c.h) (λ_ _=>?_);refine Ye (Kt 75 6 Qt qG)<|go 10 ?_;refine tt (Qr 70 75 96 J J J J J J O3 J Ze Mm ti116 J pG J J J O10 O3 J c.h) (λa0 _=>?_);refine Ye (Ir 75 73 J J)<|Ye (Iq 71 73 71 J J J J)<|go 8 ⟨O,?_⟩;exact Yi (1,_,h ++ []) ⟨O1,lpT_1 g f,(by rw [aP];simp only [bI,bQ];omega)⟩ O1 K2 K2
  .refine go 1 ?_;refine dt (Xk ( .agg #[.func (.func 126) #[] #[],.int .i64 p.1,.int .i64 p.2.1,.int .i64 p.2.2,.int .i64 d.1,.int .i64 d.2.1,.int .i64 d.2.2,.int .i64 (t+n*b),.int .i64 (t+n*b+fl)]) (Zxi J J J underlying197 sizeOf196 isAgg196 J O3) J)<|Yk (Yh 7) λF _=>?_;refine tt (Zpc 7 J J J J J J sizeOf196 J J ⟨Zl J,Zl J,Zl J,Zl J,Zl J,Zl J,Zl J,Zl J,Zl J,aA⟩ J c.h aA) λ_ _=>go 14 ?_;refine tt (Zan 8 [] [_,_,_,_] [] (Ymh p.1 p.2.1 p.2.2 d.1 d.2.1 d.2.2 (t+n*b) (t+n*b+fl) (glv_g P M O O O)) J J J J K4 call126 Zr J c.h) λ⟨a1,s⟩ _=>go 10 ?_;refine tt (Qr 70 8 96 J J J J J J O3 J Ze Mm ti116 J pG J J J O10 O3 J c.h) (λa2 _=>?_);refine Ye (Ir 8 73 J J)<|Ye (Iq 71 73 71 J J J J)<|go 8 ⟨O,?_⟩;exact Yi (2,_,h ++ [glG p.1 p.2.1 p.2.2 d.1 d.2.1 d.2.2 (t+n*b) (t+n*b+fl) 2 s]) ⟨O1,lpT_2 g,(by rw [aP];simp only [bI,bQ];omega)⟩ O1 K2 K2
  .refine go 1 ?_;refine dt (Xk ( .agg #[.func (.func 125) #[] #[],.int .i64 d.1,.int .i64 d.2.1,.int .i64 d.2.2,.int .i64 d.1,.int .i64 d.2.1,.int .i64 d.2.2,.int .i64 (t+n*b+fl),.int .i64 (t+(wv-1)*b+fl)]) (Zxi J J J underlying197 sizeOf196 isAgg196 J O3) J)<|Yk (Yh 9) λH _=>?_;refine tt (Zpc 9 J J J J J J sizeOf196 J J ⟨Zl J,Zl J,Zl J,Zl J,Zl J,Zl J,Zl J,Zl J,Zl J,aA⟩ J c.h aA) λ_ _=>go 14 ?_;refine tt (Zan 10 [] [_,_,_,_] [] (Yc9 d.1 d.2.1 d.2.2 d.1 d.2.1 d.2.2 (t+n*b+fl) (t+(wv-1)*b+fl) (glv_h M O f O)) J J J J K4 call125 Zr J c.h) λ⟨a3,x⟩ _=>go 10 ?_;refine tt (Qr 70 10 96 J J J J J J O3 J Ze Mm ti116 J pG J J J O10 O3 J c.h) (λa4 _=>?_);refine Ye (Ir 10 73 J J)<|Ye (Iq 71 73 71 J J J J)<|go 8 ⟨O,?_⟩;exact Yi (3,_,h ++ [glG d.1 d.2.1 d.2.2 d.1 d.2.1 d.2.2 (t+n*b+fl) (t+(wv-1)*b+fl) 1 x]) ⟨O1,lpT_3 g f,(by rw [aP];simp only [bI,bQ];omega)⟩ O1 K2 K2
  .refine go 1 ?_;refine dt (Xk ( .agg #[.func (.func 125) #[] #[],.int .i64 d.1,.int .i64 d.2.1,.int .i64 d.2.2,.int .i64 d.1,.int .i64 d.2.1,.int .i64 d.2.2,.int .i64 (t+n*b+fl),.int .i64 (t+(wv-1)*b+fl)]) (Zxi J J J underlying197 sizeOf196 isAgg196 J O3) J)<|Yk (Yh 11) λI _=>?_;refine tt (Zpc 11 J J J J J J sizeOf196 J J ⟨Zl J,Zl J,Zl J,Zl J,Zl J,Zl J,Zl J,Zl J,Zl J,aA⟩ J c.h aA) λ_ _=>go 14 ?_;refine tt (Zan 11 [] [_,_,_,_] [] (Zj3 d.1 d.2.1 d.2.2 d.1 d.2.1 d.2.2 (t+n*b+fl) (t+(wv-1)*b+fl) (Znp O)) J J J J K4 call125 Zr J c.h) (λ_ _=>?_);refine Ye (Kt 75 6 Qt qG)<|go 10 ?_;refine tt (Qr 70 75 96 J J J J J J O3 J Ze Mm ti116 J pG J J J O10 O3 J c.h) (λa5 _=>?_);refine Ye (Ir 75 73 J J)<|Ye (Iq 71 73 71 J J J J)<|go 8 ⟨O,?_⟩;exact Yi (3,_,h ++ []) ⟨O1,lpT_4 g f,(by rw [aP];simp only [bI,bQ];omega)⟩ O1 K2 K2
 .refine go 12 ?_;obtain rfl:i=3:=O;refine Zb4 (Xe 70 J (Zo pG)) (λY m=>?_);subst m;exact Zn (Yz 70 J J pG)<|Zn (Yy 70 71 72 J J J J)<|Yq l (Y,h) results62 J g (Qy 72 Za)
theorem Yly{q:Value}(a b:List Hj)(k:List Int)(d fl wv t:Int):Cal prog 12 #[v,u,.agg #[.int .i64 d,.int .i64 fl,.int .i64 wv],.int .i64 t,q] [Ym 3 Ic v a,Ym 3 Ic u b,Ym 1 Yd q k] true (G:=Value×List PT) (λr=>Zgo r.2=lPr a b (d,fl,wv) t k) (λr=> .tuple #[r.1,.int .i64 (lkE a b (d,fl,wv) t (pbB a k wv))]) (λr=>[Qb 1 Zbu qP r.1 r.2]):=by
 refine Zg func12 ntmps12 λw0 sc I j=>?_;refine Xr (Ps (i:=1) J Zm) (λS=>?_);refine Xr (Ps (i:=2) J Zm) (λV=>?_);refine Xr (Ps (i:=3) J Zm) λZ=>go 2 ?_;refine Yk (Yf 4) λbx _=>go 12<|Yc 22 J (λf=>?_) (λf=>?_)
 .have c:=pb_1 (wv:=wv) f;refine go 15 ?_;refine cl 4 [1,2] (Znf _ _ a b d fl wv t _) λ_ _=>go 6<|kt (aF (by rw [Be (Ylz rfl)];decide))<|go 12<|Zn (Kt 75 1 Zbu qP) ?_;exact Nb j (.slice none 0 0,[]) results12 (by rw [c]) (lPr_f (by rw [c,Be (Ylz rfl)];decide)).symm (Qy 75 Za)
 .have c:=pb_2 (wv:=wv) f;refine go 1 ?_;refine Bt (Yd2 [] [_] J aA K1) J J<|Hx 4 [3,4] (cf_nb k d fl wv) λ_ _=>go 12 ?_;refine cl 4 [1,2] (Znf _ _ a b d fl wv t _) λ_ _=>go 9<|Zc J (λe=>?_) (λe=>?_)
  .have R:=e;refine go 9<|Zn (Kt 75 1 Zbu qP) ?_;exact Nb j (.slice none 0 0,[]) results12 (by rw [c]) (lPr_f (by rw [c];exact R)).symm (Qy 75 Za)
  .have g:=dM.1 e;rw [<-c]at g;obtain⟨N,H,n⟩:=Yc2 g;obtain⟨m,F,P,Q,D,y,B⟩:=Zwc N;obtain⟨a0,x⟩:=pb_f m;refine go 16<|Zf (Qi 70 1 36 Zbu)<|Zf (Ya qP 71) ?_;refine lp (G:=Nat×Value×List PT) [0,1,3,7,36,37] [0,1,2,3,4] (λq=>[(38,.int .i64 (q.1:Int)),(14,q.2.1)]) (λq=>[(70,Oc 1 36 Zbu q.2.1 q.2.2),(71,Nt qP q.2.2)]) (λq=>(q.1<=a.length)/\(Zgo q.2.2=lPs a b (d,fl,wv) t k q.1)) (λq=>a.length-q.1) (0,_,[]) ⟨O1,rfl⟩ K2 K2 ?_;rintro⟨i,vl,M⟩ ⟨hi,o⟩;dsimp only at hi o;dsimp only;have Y:=Yr7 o;refine go 6<|Zc J (λl=>?_) (λl=>?_)
   .refine go 7 ?_;refine dt (Zv 3 i J J J J Zm Ql Mv J)<|go 5 ⟨O,?_⟩;refine Qn [1,2,4] [15]<|Zk 1 [(0,0),(1,0),(2,0),(3,0),(4,0),(5,0),(6,0),(7,0),(8,0),(9,0),(10,0),(11,0),(12,1),(13,1),(14,1)]<|go 3 ?_;refine Xb J J (Ll (Zv 1 i J J J J Zm Zlw Zqp J) K3)<|Xb J J (Ll (Xd 1 Pt0 J J J Zm pPt) K3)<|go 2 ?_;refine Xb J J (Ll (Zv 2 i J J J J Zm Zlw Zqp J) K3)<|Xb J J (Ll (Xd 2 Pt0 J J J Zm pPt) K3)<|go 3 ?_;refine Ys (Zp 5 [] (Ycz (a.getD i Pt0) (b.getD i Pt0) d fl wv t (k.getD i 0) (Zfg y O) (Zfg B O) F D.1 n (nb_at x O))) λp s=>?_;refine Lm J (Yx [(0,_)] 6 (enc:=Zbu) [p] J J K2 Ze4 ti36 J J J J J pPq.cells J J I.h) (λv _=>?_);refine Lm J (Ip 70 J J J K3 (λh=>(Ke 70 6 24 J J J J J J O3 J (Zo pPq) Ze4 ti36 J pPq J J J O10 O3 J I.h h))) λa1 _=>go 1 ?_;refine Oz (Zh (q:=qP) (z:=p) 71 5 71 J J J J J)<|Zk 0 [(15,3)]<|go 2 ?_;refine Zu<|go 6 ⟨O,?_⟩;exact Yi (i+1,_,M ++ [p]) ⟨O1,by rw [Zil,o,lPs_s,s]⟩ O1 K2 K2
   .refine go 13 ?_;obtain rfl:i=a.length:=O;exact Zn (Yz 70 J J pPq)<|Zn (Yy 70 71 72 J J J J)<|Nb j (_,M) results12 (by rw [g]) (o.trans (lPr_t g).symm) (Qy 72 Za)
theorem Zg8(a fl wv t:Int)(d:wvB (a,fl,wv)=true)(g:0<=t/\t<=3600000):Xq prog 127 #[.agg #[.int .i64 a,.int .i64 fl,.int .i64 wv],.int .i64 t] [] (.int .i64 (lnd (a,fl,wv) t)):=by refine Zg func127 ntmps127 λj i h c=>?_;have b:=Zt2 d;dsimp only at b;have e:=Zzc b.1 b.2.1 (n:=wv-1) O O;refine go 2<|Yk (Yf 1) λf _=>?_;refine go 20 ⟨O,O,O,O,?_⟩;exact Yq c () results127 J aA Za
theorem Yfw(a b:List Hj)(c fl wv t:Int){m:Bool}:Xq prog 63 #[v,u,.agg #[.int .i64 c,.int .i64 fl,.int .i64 wv],.int .i64 t,.bool m] [Ym 3 Ic v a,Ym 3 Ic u b] (.int .i64 (lkE a b (c,fl,wv) t m)):=by
 refine Zg func63 ntmps63 λw0 Z Y d=>?_;refine Xr (Ps (i:=1) J Zm) (λR=>?_);refine Xr (Ps (i:=2) J Zm) λS=>go 2 ?_;refine Yk (Yf 3) λV _=>go 5 ?_;rcases Ygm a b (c,fl,wv) t m with e|⟨e,k⟩|⟨e,k,l⟩|⟨e,k,l,n⟩|⟨e,k,l,n,F⟩|⟨e,k,l,n,F⟩
 .refine go 2 ?_;refine cl 3 [] (Ao c fl wv) λ_ _=>?_;refine dt (dT (Qc J J) (aD (λb=>Value.bool (!b)) e))<|go 30 ?_;exact Yq d () results63 (by rw [Be (Zf6 λh=>by obtain⟨x,y,z,B,D,-,-⟩:=h;first|(simp_all;done)|omega)]) aA Za
 .refine go 2 ?_;refine cl 3 [] (Ao c fl wv) λ_ _=>?_;refine dt (dF (Qc J J) (aD (λb=>Value.bool (!b)) e))<|go 3 ?_;refine ktg (aF k)<|go 26 ?_;exact Yq d () results63 (by rw [Be (Zf6 λh=>by obtain⟨x,y,z,B,D,-,-⟩:=h;first|(simp_all;done)|omega)]) aA Za
 .refine go 2 ?_;refine cl 3 [] (Ao c fl wv) λ_ _=>?_;refine dt (dF (Qc J J) (aD (λb=>Value.bool (!b)) e))<|go 3 ?_;refine kfg (aE k)<|go 6<|ktg (aF l)<|go 19 ?_;exact Yq d () results63 (by rw [Be (Zf6 λh=>by obtain⟨x,y,z,B,D,-,-⟩:=h;first|(simp_all;done)|omega)]) aA Za
 .refine go 2 ?_;refine cl 3 [] (Ao c fl wv) λ_ _=>?_;refine dt (dF (Qc J J) (aD (λb=>Value.bool (!b)) e))<|go 3 ?_;refine kfg (aE k)<|go 6<|kfg (aE l)<|go 3 ?_;refine Hx 3 [] (Zdf t) λ_ _=>?_;refine Bt (dT (Qc J J) (aD (λb=>Value.bool (!b)) (aE n))) J J<|go 14 ?_;exact Yq d () results63 (by rw [Be (Zf6 λh=>by obtain⟨x,y,z,B,D,-,-⟩:=h;first|(simp_all;done)|omega)]) aA Za
 .refine go 2 ?_;refine cl 3 [] (Ao c fl wv) λ_ _=>?_;refine dt (dF (Qc J J) (aD (λb=>Value.bool (!b)) e))<|go 3 ?_;refine kfg (aE k)<|go 6<|kfg (aE l)<|go 3 ?_;refine Hx 3 [] (Zdf t) λ_ _=>?_;refine Bt (dF (Qc J J) (aD (λb=>Value.bool (!b)) (aF n))) J J<|go 2 ?_;refine ktg F<|go 11 ?_;exact Yq d () results63 (by rw [Be (Zf6 λh=>by obtain⟨x,y,z,B,D,-,-⟩:=h;first|(simp_all;done)|omega)]) aA Za
 .refine go 2 ?_;refine cl 3 [] (Ao c fl wv) λ_ _=>?_;refine dt (dF (Qc J J) (aD (λb=>Value.bool (!b)) e))<|go 3 ?_;refine kfg (aE k)<|go 6<|kfg (aE l)<|go 3 ?_;refine Hx 3 [] (Zdf t) λ_ _=>?_;refine Bt (dF (Qc J J) (aD (λb=>Value.bool (!b)) (aF n))) J J<|go 2 ?_;refine kfg F<|go 13 ?_;refine lp (G:=Nat) [0,1,3,7] [0,1,2,3] (λi=>[(11,.int .i64 (i:Int))]) (λi=>[]) (λi=>(i<=a.length)/\(∀j,j<i->ptT (a.getD j Pt0)=true/\ptT (b.getD j Pt0)=true)) (λi=>a.length-i) 0 ⟨O1,λj h=>absurd h (bG j)⟩ K1 aA ?_;rintro i ⟨hi,P⟩;refine go 9<|Zc J (λq=>?_) (λq=>?_)
  .refine go 8 ?_;refine dt (Zv 1 i J J J J Zm Zlw Zqp J)<|dt (Xd 1 Pt0 J J J Zm pPt)<|cl 3 [] Zpr λ_ _=>go 2 ?_;refine Mb 47 J (λg=>?_) (λg=>?_)
   .have o:=g;refine go 21 ?_;exact Yq d () results63 (by rw [Be (Zf6 λh=>by obtain⟨-,-,-,-,-,M,N⟩:=h;exact absurd ((Ce o).symm.trans (Zfg M (show i<a.length by omega))) O3)]) aA Za
   .have o:=g;refine go 2 ?_;refine Bt (Zv 2 i J J J J Zm Zlw Zqp J) J J<|Bt (Xd 2 Pt0 J J J Zm pPt) J J<|Hx 3 [] Zpr λ_ _=>go 4 ?_;refine Pw J (λf=>?_) (λf=>?_)
    .have p:=f;refine go 11 ?_;exact Yq d () results63 (by rw [Be (Zf6 λh=>by obtain⟨-,-,-,-,-,M,N⟩:=h;exact absurd ((Ce p).symm.trans (Zfg N (show i<b.length by omega))) O3)]) aA Za
    .have p:=f;refine go 8 ⟨O,?_⟩;exact Yi (i+1) ⟨O1,λj Q=>by rcases bA.1 Q with H|H;exact P j H;subst H;exact⟨Dg o,Dg p⟩⟩ O1 K1 aA
  .obtain rfl:i=a.length:=O;have I:=lkr_t e k l n F P;refine go 13<|Zc J (λr=>?_) (λr=>?_)
   .refine go 7 ?_;exact Yq d () results63 (by rw [lkE_7 I O]) aA Za
   .refine go 7 ?_;refine cl 3 [] (Zg8 c fl wv t e n) λ_ _=>go 3<|Zc J (λs=>?_) (λs=>?_)
    .refine go 7 ?_;exact Yq d () results63 (by rw [lkE_3 I O O]) aA Za
    .refine go 8 ?_;exact Yq d () results63 (by rw [Yl1 I O O]) aA Za
theorem Yj2(p d:Hj)(a fl wv t n:Int)(hp:ptT p=true)(hd:ptT d=true)(N:wvB (a,fl,wv)=true)(V:0<=t)(hl:lnd (a,fl,wv) t<=3600000)(hn:0<=n/\n<wv):Cal prog 64 #[Ic p,Ic d,.agg #[.int .i64 a,.int .i64 fl,.int .i64 wv],.int .i64 t,.int .i64 n] [] true (G:=SL×List Zt) (λr=>r.2.map Nw=lpP p d (a,fl,wv) t n) (λr=>Xi r.1) (λr=>[Qb 6 Qt qG (Xi r.1) r.2]):=by
 refine Zg func64 ntmps64 λw0 sc P Q=>?_;have F:=Zt2 N;unfold lnd at hl;dsimp only at F hl;have a4:=Zzc F.1 F.2.1 (n:=n) hn.1 O;have a5:=Zzc F.1 F.2.1 (n:=wv-1) O O;have a6:=Yln F.1 (show n<=wv-1 by omega);obtain⟨a7,a8,a9⟩:=Zrm hp;obtain⟨a1,a2,a3⟩:=Zrm hd;refine Zf (Ya qG 71)<|go 2<|Yk (Yf 1) λbx _=>Yk (Yf 2) λY _=>Yk (Yf 3) λZ _=>?_;refine go 27 ⟨O,O,?_⟩;refine Zc J (λI=>?_) (λI=>?_)
 .have S:t<(t+n*a):=I;refine go 6 ?_;refine cl 4 [] (Ac p.1 p.2.1 p.2.2 p.1 p.2.1 p.2.2 t (t+n*a) 2 ⟨O,O⟩ ⟨O,O⟩ ⟨O,O⟩ ⟨O,O⟩ ⟨O,O⟩ ⟨O,O⟩) λ⟨H,j,k⟩ _=>?_;refine tt (Yx [(0,_)] 7 (enc:=Qt) [Di p p t (t+n*a) 2 (H,j,k)] J J K2 Mm ti116 J J Zbd J J pG.cells J J P.h) (λv _=>?_);refine Ye (Qi 8 6 116 Qt)<|tt (Qr 8 7 96 J J J J J J O3 J (Zo pG) Mm ti116 J pG J J J (by first|(simp;done)|(simp;omega)) O3 J P.h) (λb0 _=>?_);refine Ye (Ya qC 74)<|Ye (Zh (q:=qC) (z:=(Di p p t (t+n*a) 2 (H,j,k)).2.1) 74 4 74 J J J J J)<|Ye (Zh (q:=qC) (z:=(Di p p t (t+n*a) 2 (H,j,k)).2.2.1) 74 5 74 J J J J J)<|Ye (Zh (q:=qC) (z:=(Di p p t (t+n*a) 2 (H,j,k)).2.2.2) 74 6 74 J J J J J)<|Ye (Zh (q:=qG) (z:=Di p p t (t+n*a) 2 (H,j,k)) 71 74 71 J J J J J)<|go 13 ⟨O,?_⟩;refine cl 9 [] (Ac p.1 p.2.1 p.2.2 d.1 d.2.1 d.2.2 (t+n*a) (t+n*a+fl) 0 ⟨O,O⟩ ⟨O,O⟩ ⟨O,O⟩ ⟨O,O⟩ ⟨O,O⟩ ⟨O,O⟩) λ⟨l,m,o⟩ _=>?_;refine tt (Yx [(0,_)] 12 (enc:=Qt) [Di p d (t+n*a) (t+n*a+fl) 0 (l,m,o)] J J K2 Mm ti116 J J Zbd J J pG.cells J J P.h) (λb1 _=>?_);refine tt (Qr 8 12 96 J J J J J J O3 J (Zo pG) Mm ti116 J pG J J J (by first|(simp;done)|(simp;omega)) O3 J P.h) (λb2 _=>?_);refine Ye (Ya qC 74)<|Ye (Zh (q:=qC) (z:=(Di p d (t+n*a) (t+n*a+fl) 0 (l,m,o)).2.1) 74 9 74 J J J J J)<|Ye (Zh (q:=qC) (z:=(Di p d (t+n*a) (t+n*a+fl) 0 (l,m,o)).2.2.1) 74 10 74 J J J J J)<|Ye (Zh (q:=qC) (z:=(Di p d (t+n*a) (t+n*a+fl) 0 (l,m,o)).2.2.2) 74 11 74 J J J J J)<|Ye (Zh (q:=qG) (z:=Di p d (t+n*a) (t+n*a+fl) 0 (l,m,o)) 71 74 71 J J J J J)<|go 5<|Qe (λ_=>False) [(0,0),(1,0),(2,0),(3,0),(4,0),(5,0),(6,1),(7,0)]<|go 6 ⟨O,?_⟩;refine Ys (Zp 12 [] (Zg8 a fl wv t N ⟨V,O⟩)) λ_ _=>go 3<|Zc J (λM=>?_) (λM=>?_)
  .have R:(t+n*a+fl)<lnd (a,fl,wv) t:=M;refine Qn [2,3] [13]<|Zk 1 [(0,0),(1,0),(2,0),(3,0),(4,0),(5,0),(6,0),(7,0),(8,0),(9,1),(10,1),(11,1),(12,1)]<|go 9 ⟨O,?_⟩;refine Ys (Zp 12 [] (Zg8 a fl wv t N ⟨V,O⟩)) λ_ _=>Ys (Zp 13 [] (Ac d.1 d.2.1 d.2.2 d.1 d.2.1 d.2.2 (t+n*a+fl) (lnd (a,fl,wv) t) 2 ⟨O,O⟩ ⟨O,O⟩ ⟨O,O⟩ ⟨O,O⟩ ⟨O,O⟩ ⟨O,O⟩)) λ⟨s,x,y⟩ _=>?_;refine Lm J (Yx [(0,_)] 16 (enc:=Qt) [Di d d (t+n*a+fl) (lnd (a,fl,wv) t) 2 (s,x,y)] J J K2 Mm ti116 J J Zbd J J pG.cells J J P.h) (λb3 _=>?_);refine Lm J (Ip 8 J J J K2 (λB=>(Ke 8 16 96 J J J J J J O3 J (Zo pG) Mm ti116 J pG J J J (by first|(simp;done)|(simp;omega)) O3 J P.h B))) λb4 _=>go 1 ?_;refine Oz (Ya qC 74)<|Oz (Zh (q:=qC) (z:=(Di d d (t+n*a+fl) (lnd (a,fl,wv) t) 2 (s,x,y)).2.1) 74 13 74 J J J J J)<|Oz (Zh (q:=qC) (z:=(Di d d (t+n*a+fl) (lnd (a,fl,wv) t) 2 (s,x,y)).2.2.1) 74 14 74 J J J J J)<|Oz (Zh (q:=qC) (z:=(Di d d (t+n*a+fl) (lnd (a,fl,wv) t) 2 (s,x,y)).2.2.2) 74 15 74 J J J J J)<|Oz (Zh (q:=qG) (z:=Di d d (t+n*a+fl) (lnd (a,fl,wv) t) 2 (s,x,y)) 71 74 71 J J J J J)<|Zk 0 [(13,3)]<|go 2 ?_;refine Zu<|go 8 ?_;refine Zb4 (Xe 8 J (Zo pG)) (λH D=>?_);subst D;exact Zn (Yz 8 J J pG)<|Zn (Yy 8 71 72 J J J J)<|Yq Q (H,_) results64 J (lgP_11 S R) (Qy 72 Za)
  .have R:¬(t+n*a+fl)<lnd (a,fl,wv) t:=M;refine go 9 ?_;refine Zb4 (Xe 8 J (Zo pG)) (λH D=>?_);subst D;exact Zn (Yz 8 J J pG)<|Zn (Yy 8 71 72 J J J J)<|Yq Q (H,_) results64 J (lgP_10 S R) (Qy 72 Za)
 .have S:¬t<(t+n*a):=I;refine go 12 ⟨O,?_⟩;refine cl 17 [] (Ac p.1 p.2.1 p.2.2 d.1 d.2.1 d.2.2 (t+n*a) (t+n*a+fl) 0 ⟨O,O⟩ ⟨O,O⟩ ⟨O,O⟩ ⟨O,O⟩ ⟨O,O⟩ ⟨O,O⟩) λ⟨b,c,e⟩ _=>?_;refine tt (Yx [(0,_)] 20 (enc:=Qt) [Di p d (t+n*a) (t+n*a+fl) 0 (b,c,e)] J J K2 Mm ti116 J J Zbd J J pG.cells J J P.h) (λb5 _=>?_);refine Ye (Qi 21 6 116 Qt)<|tt (Qr 21 20 96 J J J J J J O3 J (Zo pG) Mm ti116 J pG J J J (by first|(simp;done)|(simp;omega)) O3 J P.h) (λb6 _=>?_);refine Ye (Ya qC 74)<|Ye (Zh (q:=qC) (z:=(Di p d (t+n*a) (t+n*a+fl) 0 (b,c,e)).2.1) 74 17 74 J J J J J)<|Ye (Zh (q:=qC) (z:=(Di p d (t+n*a) (t+n*a+fl) 0 (b,c,e)).2.2.1) 74 18 74 J J J J J)<|Ye (Zh (q:=qC) (z:=(Di p d (t+n*a) (t+n*a+fl) 0 (b,c,e)).2.2.2) 74 19 74 J J J J J)<|Ye (Zh (q:=qG) (z:=Di p d (t+n*a) (t+n*a+fl) 0 (b,c,e)) 71 74 71 J J J J J)<|go 5<|Qe (λ_=>False) [(0,0),(1,0),(2,0),(3,0),(4,0),(5,0),(6,1),(7,0)]<|go 6 ⟨O,?_⟩;refine Ys (Zp 21 [] (Zg8 a fl wv t N ⟨V,O⟩)) λ_ _=>go 3<|Zc J (λi=>?_) (λi=>?_)
  .have R:(t+n*a+fl)<lnd (a,fl,wv) t:=i;refine Qn [2,3] [13]<|Zk 1 [(0,0),(1,0),(2,0),(3,0),(4,0),(5,0),(6,0),(7,0),(8,0),(9,1),(10,1),(11,1),(12,1)]<|go 9 ⟨O,?_⟩;refine Ys (Zp 21 [] (Zg8 a fl wv t N ⟨V,O⟩)) λ_ _=>Ys (Zp 22 [] (Ac d.1 d.2.1 d.2.2 d.1 d.2.1 d.2.2 (t+n*a+fl) (lnd (a,fl,wv) t) 2 ⟨O,O⟩ ⟨O,O⟩ ⟨O,O⟩ ⟨O,O⟩ ⟨O,O⟩ ⟨O,O⟩)) λ⟨f,g,h⟩ _=>?_;refine Lm J (Yx [(0,_)] 25 (enc:=Qt) [Di d d (t+n*a+fl) (lnd (a,fl,wv) t) 2 (f,g,h)] J J K2 Mm ti116 J J Zbd J J pG.cells J J P.h) (λb7 _=>?_);refine Lm J (Ip 21 J J J K2 (λB=>(Ke 21 25 96 J J J J J J O3 J (Zo pG) Mm ti116 J pG J J J (by first|(simp;done)|(simp;omega)) O3 J P.h B))) λa0 _=>go 1 ?_;refine Oz (Ya qC 74)<|Oz (Zh (q:=qC) (z:=(Di d d (t+n*a+fl) (lnd (a,fl,wv) t) 2 (f,g,h)).2.1) 74 22 74 J J J J J)<|Oz (Zh (q:=qC) (z:=(Di d d (t+n*a+fl) (lnd (a,fl,wv) t) 2 (f,g,h)).2.2.1) 74 23 74 J J J J J)<|Oz (Zh (q:=qC) (z:=(Di d d (t+n*a+fl) (lnd (a,fl,wv) t) 2 (f,g,h)).2.2.2) 74 24 74 J J J J J)<|Oz (Zh (q:=qG) (z:=Di d d (t+n*a+fl) (lnd (a,fl,wv) t) 2 (f,g,h)) 71 74 71 J J J J J)<|Zk 0 [(13,3)]<|go 2 ?_;refine Zu<|go 8 ?_;refine Zb4 (Xe 21 J (Zo pG)) (λH D=>?_);subst D;exact Zn (Yz 21 J J pG)<|Zn (Yy 21 71 72 J J J J)<|Yq Q (H,_) results64 J (lgP_01 S R) (Qy 72 Za)
  .have R:¬(t+n*a+fl)<lnd (a,fl,wv) t:=i;refine go 9 ?_;refine Zb4 (Xe 21 J (Zo pG)) (λH D=>?_);subst D;exact Zn (Yz 21 J J pG)<|Zn (Yy 21 71 72 J J J J)<|Yq Q (H,_) results64 J (lgP_00 S R) (Qy 72 Za)
open Go.RowKit Below
variable {P:Program} {N:Nat} {sc:Nat->Prop} {env env':Pt} {H H':Hp} {Q Q':Exit->Act->World->Prop} {ds:List Nat}
structure Kpt (sc:Nat->Prop) (w:World) (H:Hp) (T:Nat->Prop) (Hn:Hp) (W:World):Prop where
 hold:∀i it,lk Hn i=some it->it.holds W
 sep:∀i j it jt,i≠j->lk Hn i=some it->lk Hn j=some jt->it.own=true->∀b,it.fp b->jt.fp b->False
 scope:∀i it,i≠0->lk Hn i=some it->∀b,it.fp b->sc b
 off:∀i it,lk Hn i=some it->∀b,it.fp b->b<w.heap.size\/T b
 mf:∀i it,lk Hn i=some it->it.own=true->∀b,it.fp b->(∃i q,lk H i=some q/\q.own=true/\q.fp b)\/T b
theorem Kpt.chg{T:Nat->Prop}{d:World}(h:Kpt sc w H T Hn W)(a:Chg (λb=>w.heap.size<=b/\¬T b) W d):Kpt sc w H T Hn d:=
 ⟨λi c hi=>c.stable _ _ (h.hold i c hi) ⟨a.os,a.tape,a.output,a.size,λk f g=>a.block k f (λe=>by
  rcases h.off i c hi k (eZ.1 g)with h|h
  .omega
  .exact e.2 h)⟩,h.sep,h.scope,h.off,h.mf⟩
def Kpt.sat{T:Nat->Prop}{a:Act}(h:Kpt sc w H T Hn W)(b:a.tmps.size=N)(c:a.defers=[])(d:∀t v,lk env t=some v->a.tmps.getD t undef=v):Sat N sc env Hn a W:=⟨b,c,d,h.hold,h.sep,h.scope⟩
end Go.Sky
namespace Go.Sky
abbrev PgT:=SL×List Hj
abbrev Pg0:PgT:=((none,0,0),[])
section
variable {o:List Hj} {hs:List PgT} {lo hi:Int} {so:SL} {i k:Nat} {e:Hj×Hj}
end
section
variable {po:List Hj} {ph:List PgT} {fl fu:Int} {q:Hj}
end
end Go.Sky
namespace Go.Sky
def dst(a p:Hj):Int:=(p.1-a.1)*(p.1-a.1)+(p.2.1-a.2.1)*(p.2.1-a.2.1)
section
variable {a b p:Hj}
end
end Go.Sky
namespace Go.Sky
section
variable {P:Program} {N:Nat} {sc:Nat->Prop} {env:Pt} {H:Hp}
instance hwT {a:World} : Hw a (λ_=>True):=⟨λ_ _=>trivial⟩
end
end Go.Sky
namespace Go.Sky
open Go.RowKit Below
variable {P:Program} {N:Nat} {sc:Nat->Prop} {env env':Pt} {H H':Hp} {Q Q':Exit->Act->World->Prop} {M:Nat->Prop}
def pj(p q:Pc):Pc:=
 {own:=true,fp:=λc=>p.fp c\/q.fp c,holds:=λw=>p.holds w/\q.holds w/\∀c,p.fp c->q.fp c->False
  lt:=λw c h a=>a.elim (p.lt w c h.1) (q.lt w c h.2.1)
  stable:=λw g h a=>⟨p.stable w g h.1 ⟨a.os,a.tape,a.output,a.size,λk d e=>a.block k d (λb=>e (λf=>b (.inl f)))⟩,
   q.stable w g h.2.1 ⟨a.os,a.tape,a.output,a.size,λk d e=>a.block k d (λb=>e (λf=>b (.inr f)))⟩,h.2.2⟩ }
theorem Zbm{p q:Pc}(i j:Nat)(hi:lk H i=some (pj p q))(F:Nat.beq i 0=false)(G:Nat.beq i j=false) :
  ∀a w,Sat N sc env H a w->Sat N sc env ((i,p)::(j,q)::drp i H) a w:=λa w hs=>by
 have z:i≠0:=λe=>O11;obtain⟨I,S,R⟩:=hs.hold i _ hi;have g:∀m r,lk ((i,p)::(j,q)::drp i H) m=some r->(m=i/\r=p)\/(m=j/\r=q)\/(m≠i/\lk H m=some r):=λm r k=>by grind [Yt,Yb,Fp]
 refine⟨hs.size,hs.defers,hs.env,λm r k=>?_,λm l r n x k f y c d b=>?_,λm r v k c d=>?_⟩
 .rcases g m r k with⟨_,rfl⟩|⟨_,rfl⟩|⟨_,h⟩
  .omega
  .omega
  .exact hs.hold m r h
 .rcases g m r k with⟨D,rfl⟩|⟨D,rfl⟩|⟨B,u⟩
  .rcases g l n f with⟨o,rfl⟩|⟨o,rfl⟩|⟨t,s⟩
   .omega
   .grind
   .exact hs.sep i l _ n (fB t) hi s rfl c (.inl d) b
  .rcases g l n f with⟨o,rfl⟩|⟨o,rfl⟩|⟨t,s⟩
   .grind
   .omega
   .exact hs.sep i l _ n (fB t) hi s rfl c (.inr d) b
  .rcases g l n f with⟨o,rfl⟩|⟨o,rfl⟩|⟨t,s⟩
   .exact hs.sep m i r _ B u hi y c d (.inl b)
   .exact hs.sep m i r _ B u hi y c d (.inr b)
   .exact hs.sep m l r n x u s y c d b
 .rcases g m r k with⟨_,rfl⟩|⟨_,rfl⟩|⟨_,h⟩
  .exact hs.scope i _ z hi c (.inl d)
  .exact hs.scope i _ z hi c (.inr d)
  .exact hs.scope m r v h c d
theorem Ks{p q:Pc}(i j:Nat)(hi:lk H i=some p)(k:lk H j=some q)(n:p.own=true)(F:q.own=true)(V:Nat.beq i 0=false)(W:Nat.beq i j=false)(Y:Nat.beq j 0=false) :
  ∀a w,Sat N sc env H a w->Sat N sc env ((i,pj p q)::drp j (drp i H)) a w:=λa w hs=>by
 have z:i≠j:=λe=>O11;have S:i≠0:=λe=>O11;have v:j≠0:=λe=>O11;have g:∀m r,lk ((i,pj p q)::drp j (drp i H)) m=some r->(m=i/\r=pj p q)\/(m≠i/\m≠j/\lk H m=some r):=λm r f=>by grind [Yt,Yb,Fp]
 refine⟨hs.size,hs.defers,hs.env,λm r f=>?_,λm o r t B f l D c d b=>?_,λm r y f c d=>?_⟩
 .rcases g m r f with⟨_,rfl⟩|⟨_,_,h⟩
  .exact⟨hs.hold i _ hi,hs.hold j _ k,λc d b=>hs.sep i j _ _ z hi k n c d b⟩
  .exact hs.hold m r h
 .rcases g m r f with⟨e1,rfl⟩|⟨Z,G,x⟩
  .rcases g o t l with⟨R,rfl⟩|⟨I,s,u⟩
   .omega
   .rcases d with d|d
    .exact hs.sep i o _ t (fB I) hi u n c d b
    .exact hs.sep j o _ t (fB s) k u F c d b
  .rcases g o t l with⟨R,rfl⟩|⟨I,s,u⟩
   .rcases b with b|b
    .exact hs.sep m i r _ Z x hi D c d b
    .exact hs.sep m j r _ G x k D c d b
   .exact hs.sep m o r t B x u D c d b
 .rcases g m r f with⟨_,rfl⟩|⟨_,_,h⟩
  .rcases d with d|d
   .exact hs.scope i _ S hi c d
   .exact hs.scope j _ v k c d
  .exact hs.scope m r y h c d
end Go.Sky

