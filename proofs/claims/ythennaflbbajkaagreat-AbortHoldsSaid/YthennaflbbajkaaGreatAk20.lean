/- Rules, arithmetic and contracts: part 21. No conditions but those that each theorem names. -/
import Derived.Test.YthennaflbbajkaaGreatAk19
set_option linter.all false
set_option maxHeartbeats 4000000
namespace Go.Sky
open Go.Proofs.Tryz
open Go.Proofs
set_option synthInstance.maxHeartbeats 0
set_option synthInstance.maxSize 100000
set_option maxRecDepth 20000
set_option linter.unusedSimpArgs false
variable{ax az bx bz y:Int}{a b q p:Zu}
theorem Zm6(fo l:SL)(h:List Zu)(f:List Ox)(fl i:Int)(g:GdT)(q:Zu)(j:Gb h f fl i=true)(I:Hy g=true)(D:Lb q=true):Xf prog 52 #[Zco g,.agg #[Xa fo,Xa l,.int .i64 fl,.int .i64 i],Yh q] [Yt 3 Yh (Xa fo) h,Xv 1 (Pf (α:=List Zu)) qPg (Xa l) f] (.bool (ouB fo h f fl i g.2.1 q)):=by
 refine Ze func52 ntmps52 λW V S c=>?_;obtain⟨M,k,N⟩:=Zg6 I;obtain⟨P,Q,R⟩:=Za6 D;obtain⟨w,x,z,B⟩:=(Cl j).2.1;have e:=Zw4 j D;obtain⟨F,G,o⟩:=Ykn (fo:=fo) j e;have H:=ee_b k;have d:=Yd5 k;refine go 2<|Zx (Zr 3) λbq _=>Zx (Zr 4) λs _=>Zx (Zr 5) λt _=>?_;refine go 16 ⟨O1,?_⟩;refine Zk 24 J (λr=>?_) (λr=>?_)
 .refine go 20 ?_;exact Yv c () results52 (by first|exact vB (Yhg ‹_›)|exact vB (Yhf ‹_›)|exact vB (Ydc ‹_› ‹_› ‹_›)|exact vB (Ydb ‹_› ‹_› ‹_›)) aA Za
 .refine go 12 ⟨O1,?_⟩;refine Zb J (λm=>?_) (λm=>?_)
  .refine go 7 ?_;exact Yv c () results52 (by first|exact vB (Yhg ‹_›)|exact vB (Yhf ‹_›)|exact vB (Ydc ‹_› ‹_› ‹_›)|exact vB (Ydb ‹_› ‹_› ‹_›)) aA Za
  .refine go 15 ?_;refine cl 5 [1,2] (Zok fo l h f fl i (qLo fl q) j e) λ_ _=>go 12<|Yq J (λn=>?_) (λn=>?_)
   .refine go 7 ?_;exact Yv c () results52 (by first|exact vB (Yhg ‹_›)|exact vB (Yhf ‹_›)|exact vB (Ydc ‹_› ‹_› ‹_›)|exact vB (Ydb ‹_› ‹_› ‹_›)) aA Za
   .refine go 6 ?_;refine cl 5 [1,2] (Yjr fo l h f fl i (qLo fl q) j e) λ_ _=>go 3<|Zx (Zv 6) λu _=>?_;refine go 13 ⟨O1,?_⟩;refine cl 6 [] (Gq (g.2.1*g.2.1) 1 ⟨O1,O1⟩ ⟨O4,O4⟩ O4) λ_ _=>go 3<|Zx (Zv 7) λv _=>go 8 ?_;refine cl 7 [] (Eo (d2A fo h f (qLo fl q)).1 (d2A fo h f (qLo fl q)).2 (Fe (g.2.1*g.2.1) 1) (Hd (g.2.1*g.2.1) 1) (by rw [d.1];exact aB (Dw ⟨O1,O1⟩) O4) (by rw [d.2];decide) o (by rw [d.2];decide)) λ_ _=>go 15 ?_;exact Yv c () results52 (by first|exact vB (Yhg ‹_›)|exact vB (Yhf ‹_›)|exact vB (Ydc ‹_› ‹_› ‹_›)|exact vB (Ydb ‹_› ‹_› ‹_›)) aA Za
theorem Zyx(fo f:SL)(e:List Zu)(d:List Ox)(fl c:Int)(g:GdT)(q:Zu)(k:Gb e d fl c=true)(l:Hy g=true)(m:Lb q=true):Xf prog 15 #[.agg #[Xa fo,Xa f,.int .i64 fl,.int .i64 c],Zco g,Yh q] [Yt 3 Yh (Xa fo) e,Xv 1 (Pf (α:=List Zu)) qPg (Xa f) d] (.tuple #[.bool (ouB fo e d fl c g.2.1 q),.int .i64 0]):=by refine Ze func15 ntmps15 λr o n h=>go 2 ?_;refine Zx (Zr 3) λbq _=>Zx (Zr 4) λi _=>Zx (Zr 5) λj _=>go 8 ?_;refine cl 5 [1,2] (De fo f e d fl c) λ_ _=>?_;refine dt (dF (Ym J J) (aH (λb=>Value.bool (!b)) k))<|go 2 ?_;refine Ln 5 [] (Zbr g) λ_ _=>?_;refine Hz (dF (Ym J J) (aH (λb=>Value.bool (!b)) l)) J J<|go 3 ?_;refine Ln 5 [] (Zet q.1 q.2.1 q.2.2) λ_ _=>?_;refine Hz (dF (Ym J J) (aH (λb=>Value.bool (!b)) m)) J J<|go 9 ?_;refine dt (Xr [(0,_)] J K2 (λa w hs=>Zyp))<|go 2 ?_;refine cl 5 [1,2] (Zm6 fo f e d fl c g q k l m) λ_ _=>go 5 ?_;exact Nn h () results15 J aA Za
theorem Zuo(a b:Zu)(m:Int)(f:Lb a=true)(g:Lb b=true)(h:-1<=m/\m<=100000):Xf prog 25 #[Yh a,Yh b,.int .i64 m] [] (.bool (nrB a b m)):=by
 refine Ze func25 ntmps25 λl k j c=>?_;have i:-10000000000<=m*m/\m*m<=10000000000:=mulM h;refine go 2<|Zx (Zr 1) λbq _=>Zx (Zr 2) λe _=>go 7 ?_;refine cl 2 [] (ve_d2 a.1 a.2.1 a.2.2 b.1 b.2.1 b.2.2 (Zss f) (Zss g)) λ_ _=>go 10<|kt (aE J)<|go 5<|Zk 21 J (λd=>?_) (λd=>?_)
 .refine go 10 ⟨O1,?_⟩;exact Yv c () results25 (by first|exact vB (nr_t ‹_›)|exact vB (nr_f ‹_›)) aA Za
 .refine go 10 ?_;exact Yv c () results25 (by first|exact vB (nr_t ‹_›)|exact vB (nr_f ‹_›)) aA Za
theorem Ypf:Cal prog 138 #[] [] true (G:=Nat×SL×SL) (λr=>True) (λr=> .map (some r.1)) (λr=>[mro r.1 [(0,.slice none 0 0),(1,Xa r.2.1),(2,Xa r.2.2)],Yt 1 Xk (Xa r.2.1) [1],Yt 1 Xk (Xa r.2.2) Yay]):=by refine Ze func138 ntmps138 λm l c f=>go 7 ?_;refine tt (t_mmi (i:=1) J J J J c.h) (λk _=>?_);refine tt (Yfc 1 J J J J J J (by simp [mfi]) O4 underlying225 underlying114 J c.h aA) (λ_ _=>?_);refine tt (Oj [(0,_)] 2 (enc:=Xk) ([1]:List Int) J J K2 Ll ti3 J J J J J pZ.cells J J c.h) (λv _=>?_);refine tt (Yfc 1 J J J J J J (by simp [mfi]) O4 underlying225 underlying114 J c.h aA) (λ_ _=>?_);refine tt (Oj [(0,_),(1,_),(2,_),(3,_),(4,_)] 3 (enc:=Xk) ([0,0,10,-15,6]:List Int) J J K10 Ll ti3 J J J J J pZ.cells J J c.h) (λj _=>?_);refine tt (Yfc 1 J J J J J J (by simp [mfi]) O4 underlying225 underlying114 J c.h aA) λ_ _=>go 5 ?_;refine Xh (s_pubm 1 J J)<|Xh (Ns 2 J J pZ)<|Zo2 (Md 2 J Zl) (λg d=>?_);subst d;refine Xh (Ns 3 J J pZ)<|Zo2 (Md 3 J Zl) (λh e=>?_);subst e;exact Yv f (_,g,h) results138 J aA (Kk 1 (Kk 2 (Kk 3 Za)))
theorem Zl9{v:Value}(a b:Int)(c:List Int)(u:-4194304<=a/\a<=4194304)(w:-4194304<=b/\b<=4194304)(h:∀f∈c,-15<=f/\f<=15)(z:c.length<=5):Cal prog 139 #[.int .i64 a,.int .i64 b,v] [Yt 1 Xk v c] true (G:=SL) (λr=>True) (λr=>Xa r) (λr=>[Yt 1 Xk (Xa r) (Bl a b c)]):=by
 refine Ze func139 ntmps139 λH D n j=>go 8 ?_;refine tt (Oj [(0,_)] 2 (enc:=Xk) ([a]:List Int) J J K2 Ll ti3 J J J J J pZ.cells J J n.h) λv _=>go 11 ?_;refine Zb J (λg=>?_) (λg=>?_)
 .refine go 8 ?_;refine lp (G:=Nat×Value) [0,1,15,16] [0,1] (λq=>[(17,.int .i64 (q.1:Int)),(7,q.2)]) (λq=>[(2,Nk 1 3 Xk q.2 (a::((c.take q.1).map λf=>f*(b-a))))]) (λq=>q.1<=c.length) (λq=>c.length-q.1) (0,_) O2 K2 K1 ?_;rintro⟨k,F⟩ o;dsimp only at o;dsimp only;refine go 6<|Zb J (λm=>?_) (λm=>?_)
  .refine go 6 ?_;refine dt (Yk 1 k J J J J Zl Ll Fm J)<|go 4 ⟨O1,?_⟩;have x:=h _ (Zg (zs:=c) (i:=k) (d:=0) O1);have B:=Zlv (c.getD k 0) (b-a) ⟨O1,O1⟩ ⟨O1,O1⟩;refine go 7 ⟨O1,O1,?_⟩;refine tt (Oj [(0,_)] 3 (enc:=Xk) ([c.getD k 0*(b-a)]:List Int) J J K2 Ll ti3 J J J J J pZ.cells J J n.h) (λs _=>?_);refine tt (Er 2 3 8 J J J J J J O4 J (Yu pZ) Ll ti3 J pZ J J J O10 O4 J n.h) (λt _=>?_);refine go 8 ⟨O1,?_⟩;exact Yj (k+1,_) O2 O2 K2 ⟨by rw [trm_s O1];rfl,aA⟩
  .refine go 12<|Xh (Ns 2 J J pZ) ?_;refine Zo2 (Md 2 J Zl) (λl e=>?_);subst e;exact Yv j l results139 J aA (Kk 2 Za (aH (Yt 1 Xk (Xa l)) (trm_n g O1).symm))
 .refine go 9<|Xh (Ns 2 J J pZ) ?_;refine Zo2 (Md 2 J Zl) (λl e=>?_);subst e;exact Yv j l results139 J aA (Kk 2 Za (aH (Yt 1 Xk (Xa l)) (trm_e c (a:=a) (b:=b) O1).symm))
theorem gl_leg{d c fr to k:Int}(u:k=0\/k=1\/k=2)(h:-4194304<=ax/\ax<=4194304)(j:-4194304<=d/\d<=4194304)(l:-4194304<=az/\az<=4194304)(m:-4194304<=bx/\bx<=4194304)(e:-4194304<=c/\c<=4194304)(n:-4194304<=bz/\bz<=4194304):Cal prog 93 #[.agg #[.int .i64 ax,.int .i64 d,.int .i64 az],.agg #[.int .i64 bx,.int .i64 c,.int .i64 bz],.int .i64 fr,.int .i64 to,.int .i64 k] [] true (G:=SL×SL×SL) (λr=>True) (λr=> .agg #[.int .i64 fr,.int .i64 to,.int .i64 1,Xa r.1,Xa r.2.1,Xa r.2.2]) (λr=>[Yt 1 Xk (Xa r.1) (Bl ax bx (rwK k)),Yt 1 Xk (Xa r.2.1) (Bl d c (rwK k)),Yt 1 Xk (Xa r.2.2) (Bl az bz (rwK k))]):=by refine Ze func93 ntmps93 λB z x o=>go 2 ?_;refine Zx (Zr 1) λbq _=>Zx (Zr 2) λs _=>Zx (Zv 3) λt _=>go 4 ?_;refine cl 4 [] Ypf λrw _=>go 1 ?_;refine dt (d_mlr (i:=4) J J J J underlying225 underlying114 (mf_row u))<|go 4 ?_;refine Zq (s_row u 5 6 60 J J J J)<|Pg (λ_=>False) [(0,0),(1,0),(2,0),(3,0),(4,0),(5,0),(6,0),(8,0),(9,0),(10,0),(11,0),(12,0),(14,0),(15,0),(16,0),(17,0),(18,0),(7,1),(13,1),(19,1),(20,0),(21,3)]<|go 17<|Qn (Zz 7 [60] (Zl9 ax bx (rwK k) h m Zzo Zwy)) λv _=>Qn (Zz 8 [60] (Zl9 d c (rwK k) j e Zzo Zwy)) λf _=>Qn (Zz 9 [60] (Zl9 az bz (rwK k) l n Zzo Zwy)) λg _=>?_;refine Qb J J (Pj (Xr [(0,_),(1,_),(2,_),(3,_),(4,_),(5,_)] J K12 (λa w hs=>Zv7 ((Zj J) a w hs) ((Zj J) a w hs) ((Zj J) a w hs) ((Ow 7 J Zl) a w hs) ((Ow 8 J Zl) a w hs) ((Ow 9 J Zl) a w hs))))<|go 4 ?_;exact Yv o (v,f,g) results93 J aA (Kk 7 (Kk 8 (Kk 9 Za)))
theorem Yi3{i g fr to:Int}:Cal prog 92 #[.agg #[.int .i64 ax,.int .i64 i,.int .i64 az],.agg #[.int .i64 bx,.int .i64 g,.int .i64 bz],.int .i64 fr,.int .i64 to] [] true (G:=Unit) (λ_=>True) (λ_=> .bool (Zfn ax i az bx g bz fr to)) (λ_=>[]):=by
 refine Ze func92 ntmps92 λm l k c=>go 2 ?_;refine Zx (Zr 1) λbq _=>Zx (Zr 2) λj _=>go 6 ?_;refine cl 2 [] (Zet _ _ _) λ_ _=>go 1<|Xw 11 J (λh=>?_) (λh=>?_)
 .refine go 1 ?_;refine Ln 2 [] (Zet _ _ _) λ_ _=>go 2<|Xw 15 J (λd=>?_) (λd=>?_)
  .refine go 4<|Zk 19 J (λe=>?_) (λe=>?_)
   .refine go 5<|Zk 24 J (λf=>?_) (λf=>?_)
    .refine go 7 ?_;exact Yv c () results92 (by first|exact vB (Zuu ‹_›)|exact vB (Zut ‹_›)|exact vB (Zus O1)|exact vB (Zof ‹_› ‹_› O1 O1)) aA Za
    .refine go 7 ?_;exact Yv c () results92 (by first|exact vB (Zuu ‹_›)|exact vB (Zut ‹_›)|exact vB (Zus O1)|exact vB (Zof ‹_› ‹_› O1 O1)) aA Za
   .refine go 12 ?_;exact Yv c () results92 (by first|exact vB (Zuu ‹_›)|exact vB (Zut ‹_›)|exact vB (Zus O1)|exact vB (Zof ‹_› ‹_› O1 O1)) aA Za
  .refine go 16 ?_;exact Yv c () results92 (by first|exact vB (Zuu ‹_›)|exact vB (Zut ‹_›)|exact vB (Zus O1)|exact vB (Zof ‹_› ‹_› O1 O1)) aA Za
 .refine go 20 ?_;exact Yv c () results92 (by first|exact vB (Zuu ‹_›)|exact vB (Zut ‹_›)|exact vB (Zus O1)|exact vB (Zof ‹_› ‹_› O1 O1)) aA Za
theorem Yi5{f e fr to k:Int}(x:k=0\/k=1\/k=2)(m:Zfn ax f az bx e bz fr to=true):Cal prog 48 #[.agg #[.int .i64 ax,.int .i64 f,.int .i64 az],.agg #[.int .i64 bx,.int .i64 e,.int .i64 bz],.int .i64 fr,.int .i64 to,.int .i64 k] [] true (G:=Value×(SL×SL×SL)) (λr=>True) (λr=> .tuple #[r.1,.int .i64 0]) (λr=>[Xv 6 Pt qG r.1 [glG ax f az bx e bz fr to k r.2]]):=by refine Ze func48 ntmps48 λF D B j=>?_;obtain⟨h,i,-,-,-⟩:=Ype m;obtain⟨n,o,s⟩:=Za6 h;obtain⟨t,u,w⟩:=Za6 i;refine go 2<|Zx (Zr 1) λbq _=>Zx (Zr 2) λl _=>go 11 ?_;refine cl 2 [] Yi3 λ_ _=>?_;refine dt (dF (Ym J J) (aH (λb=>Value.bool (!b)) m))<|go 12 ?_;refine cl 3 [] (gl_leg x ⟨O1,O1⟩ ⟨O1,O1⟩ ⟨O1,O1⟩ ⟨O1,O1⟩ ⟨O1,O1⟩ ⟨O1,O1⟩) λ⟨g,c,d⟩ _=>?_;refine tt (Oj [(0,_)] 6 (enc:=Pt) [glG ax f az bx e bz fr to k (g,c,d)] J J K2 Zcv ti101 J J Yjm J J pG.cells J J B.h) λv _=>go 5 ?_;exact Xh (Ns 6 J J pG)<|Xh (Oy qC 71)<|Xh (Qv (q:=qC) (z:=(glG ax f az bx e bz fr to k (g,c,d)).2.1) 71 3 71 J J J J J)<|Xh (Qv (q:=qC) (z:=(glG ax f az bx e bz fr to k (g,c,d)).2.2.1) 71 4 71 J J J J J)<|Xh (Qv (q:=qC) (z:=(glG ax f az bx e bz fr to k (g,c,d)).2.2.2) 71 5 71 J J J J J)<|Xh (Oy qG 73)<|Xh (Qv (q:=qG) (z:=(glG ax f az bx e bz fr to k (g,c,d))) 73 71 73 J J J J J)<|Xh (Cu 6 73 72 J J J J)<|Nn j (_,g,c,d) results48 J aA (Kk 72 Za)
theorem Ypg(ax d az bx c bz fr to:Int)(g:Zfn ax d az bx c bz fr to=true):Cal prog 94 #[.agg #[.int .i64 ax,.int .i64 d,.int .i64 az],.agg #[.int .i64 bx,.int .i64 c,.int .i64 bz],.int .i64 fr,.int .i64 to] [] true (G:=Value×(SL×SL×SL)) (λr=>True) (λr=> .tuple #[r.1,.int .i64 0]) (λr=>[Xv 6 Pt qG r.1 [glG ax d az bx c bz fr to 1 r.2]]):=by refine Ze func94 ntmps94 λj i h e=>go 2 ?_;refine Zx (Zr 1) λbq _=>Zx (Zr 2) λf _=>go 10 ?_;refine cl 3 [] (Yi5 (.inr (.inl J)) g) λ⟨v,q⟩ _=>go 7 ?_;exact Nn e (v,q) results94 J aA (Kk 3 Za)
theorem Yi4(ax c az fr to:Int)(e:Zfn ax c az ax c az fr to=true):Cal prog 116 #[.agg #[.int .i64 ax,.int .i64 c,.int .i64 az],.int .i64 fr,.int .i64 to] [] true (G:=Value×(SL×SL×SL)) (λr=>True) (λr=> .tuple #[r.1,.int .i64 0]) (λr=>[Xv 6 Pt qG r.1 [glG ax c az ax c az fr to 0 r.2]]):=by refine Ze func116 ntmps116 λh g f d=>go 2 ?_;refine Zx (Zr 1) λbq _=>go 10 ?_;refine cl 2 [] (Yi5 (.inl J) e) λ⟨v,q⟩ _=>go 7 ?_;exact Nn d (v,q) results116 J aA (Kk 2 Za)
theorem Yl4{v:Value}(ps:List Zd)(g:GdT)(s:Ly)(h:∀g∈ps,Gin g)(k:Yg ps=true)(r:ps.length<=5)(n:Hy g=true)(x:Zbo s.1.1 s.1.2=true)(o:Lb s.2=true):Xf prog 62 #[Zco g,v,Zdk s] [Xv 6 Pt qG v ps] (.tuple #[.bool (Br ps g s),.int .i64 (Fy ps s)]):=by
 refine Ze func62 ntmps62 λI H G j=>?_;have d:=offH (s:=s) h k x;obtain⟨B,D,F⟩:=Zg6 n;refine go 2<|Zx (Zr 2) λbq _=>Zx (Zr 3) λw _=>go 9 ?_;refine cl 3 [1] (Zo0 ps s.1.1 s.1.2 h k x) λ_ _=>go 14 ?_;refine cl 4 [1] (sm_Cut ps (Xi ps s).1 (Xi ps s).2 h k d.r (λg n=>Oo (h g n) ((Ez h k).2.1 g n)) (lh_M h k)) λz m=>go 14<|Zb J (λc=>?_) (λc=>?_)
 .refine go 8 ?_;exact Nn j () results62 (by rw [(Yaa (g:=g) c).1,(Yaa (g:=g) c).2]) aA Za
 .have f:Zci (Xi ps s).1 (Xi ps s).2 ps=0:=fM.1 c;have i:=Zp6 h k d f m;have t:=Yoj r i;refine go 8 ?_;refine cl 5 [] (Yi4 s.2.1 s.2.2.1 s.2.2.2 (Xi ps s).1 (Xi ps s).2 (hv_glv o d)) λ⟨v,q⟩ _=>go 8 ?_;have u:=off_un (g:=g) m q;refine go 11 ⟨O1,O1,?_⟩;refine cl 5 [4,5] (Yge z.2 [glG s.2.1 s.2.2.1 s.2.2.2 s.2.1 s.2.2.1 s.2.2.2 (Xi ps s).1 (Xi ps s).2 0 q] (g.1+g.2.1+1) i.gin (Zqv o o d.b.1 d.r.2.1 d.b.2 _) i.pb (Zqt o d.b.1 d.r.2.1 d.b.2 _) t O8 (ds_in O1 O1)) λ_ _=>go 14<|Zb J (λe=>?_) (λe=>?_)
  .refine go 8 ?_;exact Nn j () results62 (by have l:=Yht (g:=g) f (by rw [<-u.1];exact e);rw [l.1,l.2]) aA Za
  .refine go 10 ?_;exact Nn j () results62 (by have l:=Yhr (g:=g) f (by rw [<-u.1];exact fM.1 e);rw [l.1,l.2,u.2]) aA Za
theorem Yl6{v:Value}(ps:List Zd)(g:GdT)(s:Ly)(j:∀g∈ps,Gin g)(f:Yg ps=true)(c:ps.length<=5)(i:Hy g=true)(h:Zbo s.1.1 s.1.2=true)(k:Lb s.2=true):Xf prog 29 #[v,Zco g,Zdk s] [Xv 6 Pt qG v ps] (.tuple #[.bool (Br ps g s),.int .i64 (Fy ps s)]):=by refine Ze func29 ntmps29 λn m l d=>go 2 ?_;refine Zx (Zr 2) λbq _=>Zx (Zr 3) λe _=>go 8 ?_;refine cl 3 [1] (Ok j) λ_ _=>?_;refine dt (dF (Ym J J) (aH (λb=>Value.bool (!b)) f))<|go 2 ?_;refine Ln 3 [] (Zbr g) λ_ _=>?_;refine Hz (dF (Ym J J) (aH (λb=>Value.bool (!b)) i)) J J<|go 4 ?_;refine Ln 3 [] (Zbq s.1.1 s.1.2) λ_ _=>?_;refine Hz (dF (Ym J J) (aH (λb=>Value.bool (!b)) h)) J J<|go 4 ?_;refine Ln 3 [] (Zet s.2.1 s.2.2.1 s.2.2.2) λ_ _=>?_;refine Hz (dF (Ym J J) (aH (λb=>Value.bool (!b)) k)) J J<|go 9 ?_;refine dt (Xr [(0,_)] J K2 (λa w hs=>Zyp))<|go 2 ?_;refine cl 3 [1] (Yl4 ps g s j f c i h k) λ_ _=>go 7 ?_;exact Nn d () results29 J aA Za
theorem Zed{v:Value}(ps:List Zd)(fo D:SL)(H:List Zu)(r:List Ox)(fl I:Int):Xf prog 13 #[v,.agg #[Xa fo,Xa D,.int .i64 fl,.int .i64 I]] [Xv 6 Pt qG v ps,Yt 3 Yh (Xa fo) H,Xv 1 (Pf (α:=List Zu)) qPg (Xa D) r] (.bool (sfB ps H r)):=by
 refine Ze func13 ntmps13 λQ P N d=>?_;refine Mm (Fj (i:=1) J Zt) (λF=>?_);refine Mm (Fj (i:=3) J Zt) λw=>go 2 ?_;refine Zx (Zr 4) λbq _=>go 10 ?_;refine lp (G:=Nat) [0,3] [0,1,2,3,4] (λi=>[(5,.int .i64 (i:Int))]) (λi=>[]) (λi=>(i<=ps.length/\i<=5)/\(∀k,k<i->s7 (ps.getD k G0)=true)) (λi=>ps.length-i) 0 ⟨O2,λk c=>absurd c (bJ k)⟩ K1 aA ?_;rintro i ⟨hi,c⟩;refine go 8<|Zk 10 J (λx=>?_) (λx=>?_)
 .refine go 5<|Zb J (λs=>?_) (λs=>?_)
  .refine go 5<|Zq (Hr (ps.getD i G0) ((ps.getD i G0).2.1) 1 51 J J (Zg O1) O8)<|Zq (Hr (ps.getD i G0) ((ps.getD i G0).2.2.1) 1 52 J J (Zg O1) O8)<|Zq (Hr (ps.getD i G0) ((ps.getD i G0).2.2.2) 1 53 J J (Zg O1) O8)<|go 3 ?_;refine dt (Yk 1 i J J J J Zt Zcv Ah J)<|dt (Ze5 1 J J J Zt Zev J Zsj J)<|dt (Ze4 1 G0 J J J Zt isAgg99 J)<|go 3 ?_;refine Zk 23 J (λz=>?_) (λz=>?_)
   .refine go 31 ?_;exact Yv d () results13 (by rw [sf_f ps i O1 O1 (s7_f O1)]) aA Za
   .refine go 2 ?_;refine Hz (Yk 1 i J J J J Zt Zcv Ah J) J J<|Hz (Ze5 1 J J J Zt Zev J Zsj J) J J<|Hz (Ze4 1 G0 J J J Zt isAgg99 J) J J<|go 4 ?_;refine Zk 32 J (λe=>?_) (λe=>?_)
    .refine go 22 ?_;exact Yv d () results13 (by rw [sf_f ps i O1 O1 (s7_f O1)]) aA Za
    .refine go 2 ?_;refine Hz (Yk 1 i J J J J Zt Zcv Ah J) J J<|Hz (Ze5 1 J J J Zt Zev J Zsj J) J J<|Hz (Ze4 1 G0 J J J Zt isAgg99 J) J J<|go 5 ?_;refine Zb J (λt=>?_) (λt=>?_)
     .refine go 11 ?_;exact Yv d () results13 (by rw [sf_f ps i O1 O1 (s7_f O1)]) aA Za
     .refine go 8 ⟨O1,?_⟩;exact Yj (i+1) ⟨O2,λk M=>by rcases aC.1 M with u|u;exact c k u;subst u;exact s7_t O1 O1 O1⟩ O2 K1 aA
  .refine go 11<|Zk 44 J (λB=>?_) (λB=>?_)
   .refine go 6<|Zk 50 J (λf=>?_) (λf=>?_)
    .refine go 6<|Zk 56 J (λg=>?_) (λg=>?_)
     .refine go 5<|Zk 61 J (λh=>?_) (λh=>?_)
      .refine go 12 ?_;exact Yv d () results13 (by first|exact vB (Zew (n:=i) O1 c O1)|exact vB (Zne (n:=i) O1 c O1 O1)|exact vB ((Znd (n:=i) O1 c O1 O1).trans (bW.2 O1))) aA Za
      .refine Ng (Zb1 3 55 (r.getD 0 Kc) J J (Zg O1) J)<|go 3 ⟨O1,?_⟩;refine Hz (Pr 3 Kc J J J Zt pPg) J J<|go 8 ?_;exact Yv d () results13 (by first|exact vB (Zew (n:=i) O1 c O1)|exact vB (Zne (n:=i) O1 c O1 O1)|exact vB ((Znd (n:=i) O1 c O1 O1).trans (bW.2 O1))) aA Za
     .refine go 17 ?_;exact Yv d () results13 (by first|exact vB (Zew (n:=i) O1 c O1)|exact vB (Zne (n:=i) O1 c O1 O1)|exact vB ((Znd (n:=i) O1 c O1 O1).trans (bW.2 O1))) aA Za
    .refine go 23 ?_;exact Yv d () results13 (by first|exact vB (Zew (n:=i) O1 c O1)|exact vB (Zne (n:=i) O1 c O1 O1)|exact vB ((Znd (n:=i) O1 c O1 O1).trans (bW.2 O1))) aA Za
   .refine go 29 ?_;exact Yv d () results13 (by first|exact vB (Zew (n:=i) O1 c O1)|exact vB (Zne (n:=i) O1 c O1 O1)|exact vB ((Znd (n:=i) O1 c O1 O1).trans (bW.2 O1))) aA Za
 .refine go 17<|Zk 44 J (λj=>?_) (λj=>?_)
  .refine go 6<|Zk 50 J (λl=>?_) (λl=>?_)
   .refine go 6<|Zk 56 J (λm=>?_) (λm=>?_)
    .refine go 5<|Zk 61 J (λo=>?_) (λo=>?_)
     .refine go 12 ?_;exact Yv d () results13 (by first|exact vB (Zew (n:=i) O1 c O1)|exact vB (Zne (n:=i) O1 c O1 O1)|exact vB ((Znd (n:=i) O1 c O1 O1).trans (bW.2 O1))) aA Za
     .refine Ng (Zb1 3 55 (r.getD 0 Kc) J J (Zg O1) J)<|go 3 ⟨O1,?_⟩;refine Hz (Pr 3 Kc J J J Zt pPg) J J<|go 8 ?_;exact Yv d () results13 (by first|exact vB (Zew (n:=i) O1 c O1)|exact vB (Zne (n:=i) O1 c O1 O1)|exact vB ((Znd (n:=i) O1 c O1 O1).trans (bW.2 O1))) aA Za
    .refine go 17 ?_;exact Yv d () results13 (by first|exact vB (Zew (n:=i) O1 c O1)|exact vB (Zne (n:=i) O1 c O1 O1)|exact vB ((Znd (n:=i) O1 c O1 O1).trans (bW.2 O1))) aA Za
   .refine go 23 ?_;exact Yv d () results13 (by first|exact vB (Zew (n:=i) O1 c O1)|exact vB (Zne (n:=i) O1 c O1 O1)|exact vB ((Znd (n:=i) O1 c O1 O1).trans (bW.2 O1))) aA Za
  .refine go 29 ?_;exact Yv d () results13 (by first|exact vB (Zew (n:=i) O1 c O1)|exact vB (Zne (n:=i) O1 c O1 O1)|exact vB ((Znd (n:=i) O1 c O1 O1).trans (bW.2 O1))) aA Za
theorem Zbs{v:Value}(ps:List Zd)(fo l:SL)(k:List Zu)(j:List Ox)(fl d:Int)(g:GdT)(s:Ly)(D:∀g∈ps,Gin g)(z:Yg ps=true)(o:ps.length<=5)(B:Gb k j fl d=true)(n:Hy g=true)(m:Zbo s.1.1 s.1.2=true)(r:Lb s.2=true):Xf prog 20 #[v,.agg #[Xa fo,Xa l,.int .i64 fl,.int .i64 d],Zco g,Zdk s] [Xv 6 Pt qG v ps,Yt 3 Yh (Xa fo) k,Xv 1 (Pf (α:=List Zu)) qPg (Xa l) j] (dcR ps fo k j fl d g s):=by
 refine Ze func20 ntmps20 λN M I c=>?_;obtain⟨F,G,H⟩:=Ycc m;refine go 2<|Zx (Zr 4) λbq _=>Zx (Zr 5) λt _=>Zx (Zr 6) λu _=>go 8 ?_;refine cl 6 [1] (Ok D) λ_ _=>?_;refine dt (dF (Ym J J) (aH (λb=>Value.bool (!b)) z))<|go 2 ?_;refine Ln 6 [2,3] (De fo l k j fl d) λ_ _=>?_;refine Hz (dF (Ym J J) (aH (λb=>Value.bool (!b)) B)) J J<|go 3 ?_;refine Ln 6 [] (Zbr g) λ_ _=>?_;refine Hz (dF (Ym J J) (aH (λb=>Value.bool (!b)) n)) J J<|go 4 ?_;refine Ln 6 [] (Zbq s.1.1 s.1.2) λ_ _=>?_;refine Hz (dF (Ym J J) (aH (λb=>Value.bool (!b)) m)) J J<|go 4 ?_;refine Ln 6 [] (Zet s.2.1 s.2.2.1 s.2.2.2) λ_ _=>?_;refine Hz (dF (Ym J J) (aH (λb=>Value.bool (!b)) r)) J J<|go 9 ?_;refine dt (Xr [(0,_)] J K2 (λa w hs=>Zyp))<|Zx (Zv 7) λx _=>go 10 ?_;refine cl 7 [2,3] (Zm6 fo l k j fl d g s.2 B n r) λ_ _=>go 2<|Yq J (λe=>?_) (λe=>?_)
 .refine go 8 ?_;exact Nn c () results20 (by first|exact(Zvl ‹_›).symm|exact(Zvk ‹_› ‹_›).symm|exact(Zvj ‹_› ‹_› ‹_›).symm|exact(Zvi ‹_› ‹_› ‹_› ‹_›).symm|exact(Zvh ‹_› ‹_› ‹_› ‹_›).symm) aA Za
 .refine go 7 ?_;refine cl 7 [1] (Yl4 ps g s D z o n m r) λ_ _=>go 16<|Zb J (λf=>?_) (λf=>?_)
  .refine go 10 ?_;exact Nn c () results20 (by first|exact(Zvl ‹_›).symm|exact(Zvk ‹_› ‹_›).symm|exact(Zvj ‹_› ‹_› ‹_›).symm|exact(Zvi ‹_› ‹_› ‹_› ‹_›).symm|exact(Zvh ‹_› ‹_› ‹_› ‹_›).symm) aA Za
  .refine go 6<|Yq J (λh=>?_) (λh=>?_)
   .refine go 9 ?_;exact Nn c () results20 (by first|exact(Zvl ‹_›).symm|exact(Zvk ‹_› ‹_›).symm|exact(Zvj ‹_› ‹_› ‹_›).symm|exact(Zvi ‹_› ‹_› ‹_› ‹_›).symm|exact(Zvh ‹_› ‹_› ‹_› ‹_›).symm) aA Za
   .refine go 16 ⟨O1,?_⟩;refine Zb J (λi=>?_) (λi=>?_)
    .refine go 9 ?_;exact Nn c () results20 (by first|exact(Zvl ‹_›).symm|exact(Zvk ‹_› ‹_›).symm|exact(Zvj ‹_› ‹_› ‹_›).symm|exact(Zvi ‹_› ‹_› ‹_› ‹_›).symm|exact(Zvh ‹_› ‹_› ‹_› ‹_›).symm) aA Za
    .refine go 10 ?_;exact Nn c () results20 (by first|exact(Zvl ‹_›).symm|exact(Zvk ‹_› ‹_›).symm|exact(Zvj ‹_› ‹_› ‹_›).symm|exact(Zvi ‹_› ‹_› ‹_› ‹_›).symm|exact(Zvh ‹_› ‹_› ‹_› ‹_›).symm) aA Za
theorem Ze6(v:Value)(ps:List Zd)(fo i:SL)(l:List Zu)(k:List Ox)(fl j:Int)(g:GdT)(s:Ly)(m:∀g∈ps,Gin g)(t:(Yg ps && (Gb l k fl j && (Hy g && Zfe s)))=false):Xf prog 20 #[v,.agg #[Xa fo,Xa i,.int .i64 fl,.int .i64 j],Zco g,Zdk s] [Xv 6 Pt qG v ps,Yt 3 Yh (Xa fo) l,Xv 1 (Pf (α:=List Zu)) qPg (Xa i) k] (.tuple #[.int .i64 0,.int .i64 2]):=by
 refine Ze func20 ntmps20 λx w u f=>go 2 ?_;refine Zx (Zr 4) λbq _=>Zx (Zr 5) λo _=>Zx (Zr 6) λr _=>go 6 ?_;rcases Yed t with c|⟨c,d⟩|⟨c,d,e⟩|⟨c,d,e,h⟩|⟨c,d,e,h,n⟩
 .refine go 2 ?_;refine cl 6 [1] (Ok m) λ_ _=>?_;refine dt (dT (Ym J J) (aH (λb=>Value.bool (!b)) c))<|go 33 ?_;exact Nn f () results20 J aA Za
 .refine go 2 ?_;refine cl 6 [1] (Ok m) λ_ _=>?_;refine dt (dF (Ym J J) (aH (λb=>Value.bool (!b)) c))<|go 2 ?_;refine Ln 6 [2,3] (De fo i l k fl j) λ_ _=>?_;refine Hz (dT (Ym J J) (aH (λb=>Value.bool (!b)) d)) J J<|go 29 ?_;exact Nn f () results20 J aA Za
 .refine go 2 ?_;refine cl 6 [1] (Ok m) λ_ _=>?_;refine dt (dF (Ym J J) (aH (λb=>Value.bool (!b)) c))<|go 2 ?_;refine Ln 6 [2,3] (De fo i l k fl j) λ_ _=>?_;refine Hz (dF (Ym J J) (aH (λb=>Value.bool (!b)) d)) J J<|go 3 ?_;refine Ln 6 [] (Zbr g) λ_ _=>?_;refine Hz (dT (Ym J J) (aH (λb=>Value.bool (!b)) e)) J J<|go 24 ?_;exact Nn f () results20 J aA Za
 .refine go 2 ?_;refine cl 6 [1] (Ok m) λ_ _=>?_;refine dt (dF (Ym J J) (aH (λb=>Value.bool (!b)) c))<|go 2 ?_;refine Ln 6 [2,3] (De fo i l k fl j) λ_ _=>?_;refine Hz (dF (Ym J J) (aH (λb=>Value.bool (!b)) d)) J J<|go 3 ?_;refine Ln 6 [] (Zbr g) λ_ _=>?_;refine Hz (dF (Ym J J) (aH (λb=>Value.bool (!b)) e)) J J<|go 4 ?_;refine Ln 6 [] (Zbq s.1.1 s.1.2) λ_ _=>?_;refine Hz (dT (Ym J J) (aH (λb=>Value.bool (!b)) h)) J J<|go 18 ?_;exact Nn f () results20 J aA Za
 .refine go 2 ?_;refine cl 6 [1] (Ok m) λ_ _=>?_;refine dt (dF (Ym J J) (aH (λb=>Value.bool (!b)) c))<|go 2 ?_;refine Ln 6 [2,3] (De fo i l k fl j) λ_ _=>?_;refine Hz (dF (Ym J J) (aH (λb=>Value.bool (!b)) d)) J J<|go 3 ?_;refine Ln 6 [] (Zbr g) λ_ _=>?_;refine Hz (dF (Ym J J) (aH (λb=>Value.bool (!b)) e)) J J<|go 4 ?_;refine Ln 6 [] (Zbq s.1.1 s.1.2) λ_ _=>?_;refine Hz (dF (Ym J J) (aH (λb=>Value.bool (!b)) h)) J J<|go 4 ?_;refine Ln 6 [] (Zet s.2.1 s.2.2.1 s.2.2.2) λ_ _=>?_;refine Hz (dT (Ym J J) (aH (λb=>Value.bool (!b)) n)) J J<|go 12 ?_;exact Nn f () results20 J aA Za
def pBd:Enc Tryz.prog 50 2 Yj4:=Enc.agg O4 Tryz.sizeOf50 Tryz.isAgg50 (λx=>⟨[.int .i64 x.1,.int .i64 x.2],rfl,rfl,O13⟩)
@[reducible,instance] def encBdI:EncT Tryz.prog 50 2 Yj4:=⟨pBd⟩
theorem l44_ex:Cal prog 49 #[] [] true (G:=Value×SL×(SL×SL×SL)) (λr=>True) (λr=> .tuple #[r.1,.agg #[Xa r.2.1,.slice none 0 0,.int .i64 0,.int .i64 200],.agg #[.int .i64 20,.int .i64 5,.int .i64 500]]) (λr=>[Xv 6 Pt qG r.1 [exG r.2.2],Yt 3 Yh (Xa r.2.1) Zmi]):=by refine Ze func49 ntmps49 λk j g c=>go 3 ?_;refine Zx (Zv 1) λbq _=>Zx (Zv 2) λe _=>go 4 ?_;refine dt (Xr [(2,_)] J K2 (λa w hs=>b23_2 ((Zj J) a w hs)))<|dt (Xr [(0,_),(2,_)] J K4 (λa w hs=>Zf0 ((Zj J) a w hs) ((Zj J) a w hs)))<|cl 3 [] (Ypg 0 0 100 1000 0 100 0 10000 O4) λ⟨v,q⟩ _=>go 9 ?_;refine dt (Xr [(0,_),(1,_)] J K4 (λa w hs=>Zin ((Zj J) a w hs) ((Zj J) a w hs)))<|dt (Xr [(0,_),(1,_)] J K4 (λa w hs=>Zin ((Zj J) a w hs) ((Zj J) a w hs)))<|dt (Xr [(0,_),(1,_)] J K4 (λa w hs=>Zin ((Zj J) a w hs) ((Zj J) a w hs)))<|dt (Xr [(0,_),(1,_)] J K4 (λa w hs=>Zin ((Zj J) a w hs) ((Zj J) a w hs)))<|tt (Oj [(0,_),(1,_),(2,_),(3,_)] 4 (enc:=Yh) Zmi J J K8 Ep ti23 J J J J J pPt.cells J J g.h) (λi _=>?_);refine dt (Xr [(0,_),(3,_)] J K4 (λa w hs=>b40_03 ((Ow 4 J (Yu pPt)) a w hs) ((Zj J) a w hs)))<|Zx (Zv 5) λf _=>go 4 ?_;refine Nh [5] [5]<|Zw 0 [(0,0),(1,0),(2,0),(3,0),(4,1),(5,3)]<|go 2 ?_;refine Qb J J (Ej (Xr [(0,_),(1,_),(2,_)] J K6 (λa w hs=>Ycd ((Zj J) a w hs) ((Zj J) a w hs) ((Zj J) a w hs))) K1)<|go 4 ?_;refine Yr<|go 2<|Xh (Ns 4 J J pPt) ?_;refine Zo2 (Md 4 J Zl) (λh d=>?_);subst d;exact xe3 c (_,h,q) results49 J aA (Kk 3 (Kk 4 Za))
theorem Ic:Xf prog 14 #[] [] (.bool true):=by
 refine Ze func14 ntmps14 λD B e k=>go 7 ?_;refine cl 1 [] l44_ex λ⟨v,d,q⟩ _=>?_;refine Ng (s_dnil 1 (Pf (α:=List Zu)) qPg 75)<|go 4<|Zx (Zv 3) λbq _=>Zx (Zv 4) λl _=>go 8 ?_;refine dt (Xr [(0,_),(1,_)] J K4 (λa w hs=>Zim ((Zj J) a w hs) ((Zj J) a w hs)))<|dt (Xr [(0,_),(1,_)] J K4 (λa w hs=>Zim ((Zj J) a w hs) ((Zj J) a w hs)))<|dt (Xr [(0,_),(1,_)] J K4 (λa w hs=>Zim ((Zj J) a w hs) ((Zj J) a w hs)))<|tt (Oj [(0,_),(1,_),(2,_)] 5 (enc:=Yj4) xB J J K6 underlying117 ti50 J J Yjl J J pBd.cells J J e.h) λs _=>go 5 ?_;refine lp (G:=Nat) [1,2,3,29,30] [0,1,2,75,3,4,5] (λi=>[(31,.int .i64 (i:Int))]) (λi=>[]) (λi=>i<=3) (λi=>3-i) 0 O2 K1 aA ?_;rintro i hi;refine go 6<|Zb J (λf=>?_) (λf=>?_)
 .have c:i<3:=by have r:((xB.length:Nat):Int)=3:=rfl;omega
  refine go 7 ?_;refine dt (Yk 5 i J J J J (Yu pBd) underlying117 sizeOf50 J c)<|dt (Pr 5 (0,0) J J J (Yu pBd) pBd c)<|Zx (Zv 6) λm _=>go 8 ?_;refine cl 6 [1] (Zo0 [exG q] (xB.getD i (0,0)).1 (xB.getD i (0,0)).2 (Yo7 _) (Yo6 _) (kx_b c)) λ_ _=>go 12<|kf (aG (λh=>h J))<|go 2 ?_;refine gtt (Oj [(0,_),(1,_),(2,_)] 7 (enc:=Xk) ([100,300,9999]:List Int) J J K6 Ll ti3 J J J J J pZ.cells J J e.h) J J J J λt _=>go 1 ?_;refine Hz (Yk 7 i J J J J (Yu pZ) Ll Fm J c) J J<|go 1 ⟨c,?_⟩;refine kfg (aG (λh=>h (kx_w q c).1))<|go 3 ?_;refine gtt (Oj [(0,_),(1,_),(2,_)] 8 (enc:=Xk) ([200,301,10000]:List Int) J J K6 Ll ti3 J J J J J pZ.cells J J e.h) J J J J λu _=>go 1 ?_;refine Hz (Yk 8 i J J J J (Yu pZ) Ll Fm J c) J J<|go 1 ⟨c,?_⟩;refine kfg (aG (λh=>h (kx_w q c).2))<|go 11 ⟨O1,?_⟩;exact Yj (i+1) O2 O2 K1 aA
 .refine go 8 ?_;refine dt (Xr [(0,_),(2,_)] J K4 (λa w hs=>Zf0 ((Zj J) a w hs) ((Zj J) a w hs)))<|dt (Xr [(0,_),(2,_)] J K4 (λa w hs=>Zf0 ((Zj J) a w hs) ((Zj J) a w hs)))<|dt (Xr [(0,_),(2,_)] J K4 (λa w hs=>Zf0 ((Zj J) a w hs) ((Zj J) a w hs)))<|tt (Oj [(0,_),(1,_),(2,_)] 9 (enc:=Yh) xV J J K6 Ep ti23 J J J J J pPt.cells J J e.h) λx _=>go 5 ?_;refine lp (G:=Nat) [1,2,3,65,66] [0,1,2,75,3,4,5,9] (λi=>[(67,.int .i64 (i:Int))]) (λi=>[]) (λi=>i<=3) (λi=>3-i) 0 O2 K1 aA ?_;rintro i hi;refine go 6<|Zb J (λg=>?_) (λg=>?_)
  .have c:i<3:=by have r:((xV.length:Nat):Int)=3:=rfl;omega
   refine go 7 ?_;refine dt (Yk 9 i J J J J (Yu pPt) Ep Zaa J c)<|dt (Pr 9 Ys J J J (Yu pPt) pPt c)<|Zx (Zv 10) λn _=>go 8 ?_;refine dt (Xr [(0,_),(1,_)] J K4 (λa w hs=>Zim ((Zj J) a w hs) ((Zj J) a w hs)))<|go 1 ?_;refine dt (Xr [(0,_),(1,_)] J K4 (λa w hs=>Zyo))<|cl 10 [1] (Yl6 [exG q] gd5 ((1000,1100),xV.getD i Ys) (Yo7 _) (Yo6 _) O8 Yav (show Zbo 1000 1100=true by decide) (kx_v c)) λ_ _=>go 10 ?_;refine kf (aG (λh=>h (kx_oe q c)))<|go 4<|kfg (by rw [kx_ov q c];exact nF _)<|go 11 ⟨O1,?_⟩;exact Yj (i+1) O2 O2 K1 aA
  .refine go 8 ?_;refine dt (Xr [(0,_),(1,_),(2,_)] J K6 (λa w hs=>Zka ((Zj J) a w hs) ((Zj J) a w hs) ((Zj J) a w hs)))<|dt (Xr [(0,_),(1,_),(2,_)] J K6 (λa w hs=>Zka ((Zj J) a w hs) ((Zj J) a w hs) ((Zj J) a w hs)))<|dt (Xr [(0,_),(2,_)] J K4 (λa w hs=>Zf0 ((Zj J) a w hs) ((Zj J) a w hs)))<|tt (Oj [(0,_),(1,_),(2,_)] 11 (enc:=Yh) xW J J K6 Ep ti23 J J J J J pPt.cells J J e.h) λz _=>go 5 ?_;refine lp (G:=Nat) [1,2,3,93,94] [0,1,2,75,3,4,5,9,11] (λi=>[(95,.int .i64 (i:Int))]) (λi=>[]) (λi=>i<=3) (λi=>3-i) 0 O2 K1 aA ?_;rintro i hi;refine go 6<|Zb J (λj=>?_) (λj=>?_)
   .have c:i<3:=by have r:((xW.length:Nat):Int)=3:=rfl;omega
    refine go 7 ?_;refine dt (Yk 11 i J J J J (Yu pPt) Ep Zaa J c)<|dt (Pr 11 Ys J J J (Yu pPt) pPt c)<|Zx (Zv 12) λo _=>go 9 ?_;refine cl 12 [2,75] (Zyx d (none,0,0) Zmi [] 0 200 gd5 (xW.getD i Ys) kx_f Yav (kx_u c)) λ_ _=>go 10<|kf (aG (λh=>h J))<|go 4<|kfg (by rw [kx_ou c];exact nF _)<|go 11 ⟨O1,?_⟩;exact Yj (i+1) O2 O2 K1 aA
   .refine go 10 ?_;refine dt (Xr [(0,_),(1,_)] J K4 (λa w hs=>Zim ((Zj J) a w hs) ((Zj J) a w hs)))<|dt (Xr [(0,_),(2,_)] J K4 (λa w hs=>Zf0 ((Zj J) a w hs) ((Zj J) a w hs)))<|dt (Xr [(0,_),(1,_)] J K4 (λa w hs=>Zyo))<|cl 12 [1,2,75] (Zbs [exG q] d (none,0,0) Zmi [] 0 200 gd5 ((1000,1600),(100,0,100)) (Yo7 _) (Yo6 _) O8 kx_f Yav O4 O4) λ_ _=>go 12 ?_;refine dt (Xr [(0,_),(1,_)] J K4 (λa w hs=>Zim ((Zj J) a w hs) ((Zj J) a w hs)))<|dt (Xr [(0,_),(2,_)] J K4 (λa w hs=>Zf0 ((Zj J) a w hs) ((Zj J) a w hs)))<|dt (Xr [(0,_),(1,_)] J K4 (λa w hs=>Zyo))<|cl 12 [1,2,75] (Zbs [exG q] d (none,0,0) Zmi [] 0 200 gd5 ((1000,1400),(100,0,100)) (Yo7 _) (Yo6 _) O8 kx_f Yav O4 O4) λ_ _=>go 10 ?_;refine kt (aE (kx_d1 q d).2)<|go 2<|ktg (aE (kx_d2 q d).2)<|go 3<|ktg (aE (kx_d1 q d).1)<|go 3<|ktg (aE (kx_d2 q d).1)<|go 5 ?_;exact Yv k () results14 J aA Za
def Eg(a b:Int):a<b\/b<=a:=O1
def pq2(a b q:Zu)(m d:Int):Int:=(d*(q.1-a.1)-m*(b.1-a.1))*(d*(q.1-a.1)-m*(b.1-a.1))+(d*(q.2.1-a.2.1)-m*(b.2.1-a.2.1))*(d*(q.2.1-a.2.1)-m*(b.2.1-a.2.1))
theorem Ea(x:Int):0<=x*x:=by
 rcases lD 0 x with h|h
 .exact aS h h
 .exact jA h h
theorem Zwo(a b:Zu):0<=Kq a b:=by have c:=Ea (b.1-a.1);have d:=Ea (b.2.1-a.2.1);unfold Kq;omega
theorem dqr_le{m d:Int}(o:0<d)(f:0<=m)(l:m<=d):(dqr a b q).1*(d*d)<=(dqr a b q).2*pq2 a b q m d:=by
 have c:=Zwo a b;unfold dqr;split
 .have h:=Ea (d*Iz a b q-m*Kq a b);have e:Kq a b*pq2 a b q m d-crd a b q*crd a b q*(d*d)=(d*Iz a b q-m*Kq a b)*(d*Iz a b q-m*Kq a b):=by unfold Kq pq2 crd Iz;grind
  show crd a b q*crd a b q*(d*d)<=Kq a b*pq2 a b q m d;omega
 .rename_i r;split
  .rename_i j;have e:pq2 a b q m d-dst b q*(d*d)=(d-m)*(2*d*Iz a b q-Kq a b*(d+m)):=by unfold Kq pq2 dst Iz;grind
   have k:2*d*Iz a b q-Kq a b*(d+m)=2*(d*(Iz a b q-Kq a b))+Kq a b*(d-m):=O5;have g:0<=d*(Iz a b q-Kq a b):=aS O1 O1;have i:0<=Kq a b*(d-m):=aS c O1;have n:0<=(d-m)*(2*d*Iz a b q-Kq a b*(d+m)):=aS O1 O1;show dst b q*(d*d)<=1*pq2 a b q m d;omega
  .rename_i j;have e:pq2 a b q m d-dst a q*(d*d)=2*(d*m * -Iz a b q)+m*m*Kq a b:=by unfold Kq pq2 dst Iz;grind
   have g:0<=d*m * -Iz a b q:=aS (aS O1 f) O1;have i:0<=m*m*Kq a b:=aS (Ea m) c;show dst a q*(d*d)<=1*pq2 a b q m d;omega
def Fl(p q a b:Zu):Prop:=∃m d n:Int,0<d/\0<=m/\m<=d/\0<=n/\n<=d/\d*(q.1-a.1)-m*(b.1-a.1)=(d-n)*(q.1-p.1)/\d*(q.2.1-a.2.1)-m*(b.2.1-a.2.1)=(d-n)*(q.2.1-p.2.1)
theorem Yos(h:Fl p q a b):(dqr a b q).1<=(dqr a b q).2*dst p q:=by
 obtain⟨m,d,n,c,j,k,u,v,f,g⟩:=h;have l:=dqr_le (a:=a) (b:=b) (q:=q) c j k;have i:pq2 a b q m d=(d-n)*(d-n)*dst p q:=by unfold pq2 dst;rw [f,g];grind
 rw [i]at l;have s:0<=dst p q:=by unfold dst;have:=Ea (q.1-p.1);have:=Ea (q.2.1-p.2.1);omega
 have t:0<=(dqr a b q).2:=by
  unfold dqr;split
  .exact Zwo a b
  .split<;>exact(by decide:(0:Int)<=1)
 have o:(d-n)*(d-n)<=d*d:=by have:=aS (show 0<=n by omega) (show 0<=d+(d-n) by omega);have e:d*d-(d-n)*(d-n)=n*(d+(d-n)):=O5;omega
 have w:(dqr a b q).2*((d-n)*(d-n)*dst p q)<=(dqr a b q).2*(d*d*dst p q):=fK (cC o s) t;have r:(dqr a b q).1*(d*d)<=((dqr a b q).2*dst p q)*(d*d):=by have e:(dqr a b q).2*(d*d*dst p q)=((dqr a b q).2*dst p q)*(d*d):=O5;omega
 exact dL r (dU c c)
def fW(p q v:Zu):Int:=if p.2.1<v.2.1/\v.2.1<=q.2.1/\Oa p q v<0 then 1 else 0
theorem crs_id(p q a b:Zu):Oa p q b-Oa p q a=Oa a b p-Oa a b q:=by unfold Oa;grind
theorem mt_of{X:Int}(c:X=Oa a b p-Oa a b q)(d:0<X)(e:0<=Oa a b p)(f:Oa a b p<=X)(g:0<=-Oa p q a)(h:-Oa p q a<=X):Fl p q a b:=
 ⟨-Oa p q a,X,Oa a b p,d,g,h,e,f,by subst c;unfold Oa;grind,by subst c;unfold Oa;grind⟩
theorem mt_of'{X:Int}(c:X=Oa a b q-Oa a b p)(d:0<X)(e:0<=-Oa a b p)(f:-Oa a b p<=X)(g:0<=Oa p q a)(h:Oa p q a<=X):Fl p q a b:=
 ⟨Oa p q a,X,-Oa a b p,d,g,h,e,f,by subst c;unfold Oa;grind,by subst c;unfold Oa;grind⟩
theorem Of (x:Int)(d:0<y)(h:0<=x*y):0<=x:=by
 rcases Eg x 0 with c|c
 .have:=Int.mul_neg_of_neg_of_pos c d;omega
 .exact c
theorem Zam (x:Int)(d:0<=y)(h:0<x*y):0<x:=by
 rcases Eg 0 x with c|c
 .exact c
 .have:=aS (show 0<=-x by omega) d;rw [iG]at this;omega
structure Cr (ay by_ py qy u v s t:Int):Prop where
 x:t-s=u-v
 i:-s*(by_-ay)=(u-v)*(py-ay)+u*(qy-py)
section
variable {ay by_ py qy u v s t:Int}
theorem Cr.neg(h:Cr ay by_ py qy u v s t):Cr ay by_ py qy (-u) (-v) (-s) (-t):=⟨by have:=h.x;omega,by have:=h.i;grind⟩
theorem Cr.j(h:Cr ay by_ py qy u v s t):t*(by_-ay)=(u-v)*(by_-py)-u*(qy-py):=by have:=h.i;have:=h.x;grind
theorem Cr.l(h:Cr ay by_ py qy u v s t):-v*(qy-py)=(u-v)*(qy-ay)+s*(by_-ay):=by have:=h.i;grind
theorem Cr.m(h:Cr ay by_ py qy u v s t):-v*(qy-py)=(u-v)*(qy-by_)+t*(by_-ay):=by have:=h.i;have:=h.x;grind
theorem Cr.n(h:Cr ay by_ py qy u v s t):t*(by_-ay)=(u-v)*(by_-qy) + -v*(qy-py):=by have:=h.m;grind
theorem Cr.o(h:Cr ay by_ py qy u v s t):u*(qy-py)=(u-v)*(ay-py) + -s*(by_-ay):=by have:=h.i;grind
def Met(u v s t:Int):Prop:=0<u-v/\0<=u/\v<=0/\s<=0/\0<=t
theorem cr_pq(h:Cr ay by_ py qy u v s t)(j:ay<=py)(k:py<=qy)(l:qy<by_)(m:0<u)(n:v<=0):Met u v s t:=by have c:=aS (show 0<=u-v by omega) (show 0<=py-ay by omega);have d:=aS (show 0<=u by omega) (show 0<=qy-py by omega);have e:=aS (show 0<=u-v by omega) (show 0<=by_-qy by omega);have f:=aS (show 0<=-v by omega) (show 0<=qy-py by omega);have g:=Of (-s) (show 0<by_-ay by omega) (by rw [h.i];omega);have i:=Of t (show 0<by_-ay by omega) (by rw [h.n];omega);exact⟨O1,O1,O1,O1,O1⟩
theorem cr_pb(h:Cr ay by_ py qy u v s t)(m:ay<=py)(n:py<by_)(o:by_<=qy)(d:0<u)(c:0<=t):Met u v s t:=by have e:=dU d (show 0<qy-py by omega);have f:=aS c (show 0<=by_-ay by omega);have j:=Zam (u-v) (show 0<=by_-py by omega) (by have:=h.j;omega);have g:=aS (show 0<=u-v by omega) (show 0<=py-ay by omega);have i:=aS (show 0<=u-v by omega) (show 0<=qy-by_ by omega);have k:=Of (-s) (show 0<by_-ay by omega) (by rw [h.i];omega);have l:=Of (-v) (show 0<qy-py by omega) (by rw [h.m];omega);exact⟨O1,O1,O1,O1,O1⟩
theorem cr_aq(h:Cr ay by_ py qy u v s t)(l:py<ay)(m:ay<=qy)(n:qy<by_)(hs:s<0)(o:v<=0):Met u v s t:=by have c:=dU (show 0 < -s by omega) (show 0<by_-ay by omega);have d:=aS (show 0<=-v by omega) (show 0<=qy-py by omega);have i:=Zam (u-v) (show 0<=qy-ay by omega) (by have:=h.l;have e:-s*(by_-ay)=-(s*(by_-ay)):=iG ..;omega);have f:=aS (show 0<=u-v by omega) (show 0<=ay-py by omega);have g:=aS (show 0<=u-v by omega) (show 0<=by_-qy by omega);have j:=Of u (show 0<qy-py by omega) (by rw [h.o];omega);have k:=Of t (show 0<by_-ay by omega) (by rw [h.n];omega);exact⟨O1,O1,O1,O1,O1⟩
theorem cr_ab(h:Cr ay by_ py qy u v s t)(k:py<ay)(l:ay<=by_)(m:by_<=qy)(hs:s<0)(c:0<=t):Met u v s t:=by have n:=h.x;have d:=aS (show 0<=-s by omega) (show 0<=by_-ay by omega);have e:=aS c (show 0<=by_-ay by omega);have f:=aS (show 0<=u-v by omega) (show 0<=ay-py by omega);have g:=aS (show 0<=u-v by omega) (show 0<=qy-by_ by omega);have i:=Of u (show 0<qy-py by omega) (by rw [h.o];omega);have j:=Of (-v) (show 0<qy-py by omega) (by rw [h.m];omega);exact⟨O1,O1,O1,O1,O1⟩
end
theorem cr_all{ay by_ py qy u v s t:Int}(h:Cr ay by_ py qy u v s t)(l:¬Met u v s t)(c:¬Met (-u) (-v) (-s) (-t))(z:py<=qy)(D:ay<=by_) :
  (ay<=py->qy<by_->(0<u↔0<v))/\(ay<=py->py<by_->by_<=qy->(0<u↔t<0))/\(py<ay->ay<=qy->qy<by_->(s<0↔0<v))/\(py<ay->by_<=qy->(s<0↔t<0)):=by
 refine⟨λd f=>⟨λk=>?_,λk=>?_⟩,λd f j=>⟨λk=>?_,λk=>?_⟩,λd f j=>⟨λk=>?_,λk=>?_⟩,λd f=>⟨λk=>?_,λk=>?_⟩⟩
 .exact aR λj=>l (cr_pq h d z f k O1)
 .refine aR λj=>?_;rcases Eg u 0 with i|i
  .exact c (cr_pq h.neg d z f O1 O1)
  .refine c ?_;have F:u=0:=O1;subst F;have G:=aS (show 0<=v by omega) (show 0<=py-ay by omega);have m:=aS (show 0<=v by omega) (show 0<=by_-py by omega);have N:=h.i;have P:=h.j;have H:(0-v)*(py-ay)=-(v*(py-ay)):=O5;have I:(0-v)*(by_-py)=-(v*(by_-py)):=O5;have n:=Of s (show 0<by_-ay by omega) (by have e:-s*(by_-ay)=-(s*(by_-ay)):=iG ..;omega);have o:=Of (-t) (show 0<by_-ay by omega) (by have e:-t*(by_-ay)=-(t*(by_-ay)):=iG ..;omega);exact⟨O1,O1,O1,O1,O1⟩
 .exact aR λi=>l (cr_pb h d f j k O1)
 .refine aR λi=>?_;refine c ?_;have g:=h.neg;have m:=aS (show 0<=-u by omega) (show 0<=qy-py by omega);have r:=dU (show 0 < -t by omega) (show 0<by_-ay by omega);have B:=Zam (-u - -v) (show 0<=by_-py by omega) (by have:=g.j;omega);have w:=aS (show 0<=-u - -v by omega) (show 0<=py-ay by omega);have x:=aS (show 0<=-u - -v by omega) (show 0<=qy-by_ by omega);have n:=Of (- -s) (show 0<by_-ay by omega) (by rw [g.i];omega);have o:=Of (- -v) (show 0<qy-py by omega) (by rw [g.m];omega);exact⟨O1,O1,O1,O1,O1⟩
 .exact aR λi=>l (cr_aq h d f j k O1)
 .refine aR λi=>?_;refine c ?_;have g:=h.neg;have m:=aS (show 0<=- -s by omega) (show 0<=by_-ay by omega);have r:=dU (show 0 < - -v by omega) (show 0<qy-py by omega);have B:=Zam (-u - -v) (show 0<=qy-ay by omega) (by have:=g.l;have e:- -s*(by_-ay)=-(-s*(by_-ay)):=iG ..;omega);have w:=aS (show 0<=-u - -v by omega) (show 0<=ay-py by omega);have x:=aS (show 0<=-u - -v by omega) (show 0<=by_-qy by omega);have n:=Of (-u) (show 0<qy-py by omega) (by rw [g.o];omega);have o:=Of (-t) (show 0<by_-ay by omega) (by rw [g.n];omega);exact⟨O1,O1,O1,O1,O1⟩
 .exact aR λi=>l (cr_ab h d D f k O1)
 .refine aR λi=>?_;refine c ?_;have g:=h.neg;have M:=g.x;have m:=aS (show 0<=- -s by omega) (show 0<=by_-ay by omega);have r:=aS (show 0<=-t by omega) (show 0<=by_-ay by omega);have w:=aS (show 0<=-u - -v by omega) (show 0<=ay-py by omega);have x:=aS (show 0<=-u - -v by omega) (show 0<=qy-by_ by omega);have n:=Of (-u) (show 0<qy-py by omega) (by rw [g.o];omega);have o:=Of (- -v) (show 0<qy-py by omega) (by rw [g.m];omega);exact⟨O1,O1,O1,O1,O1⟩
theorem Ykv(p q a b:Zu):Cr a.2.1 b.2.1 p.2.1 q.2.1 (Oa a b p) (Oa a b q) (Oa p q a) (Oa p q b):=⟨crs_id p q a b,by unfold Oa;grind⟩
theorem met_1(h:Met (Oa a b p) (Oa a b q) (Oa p q a) (Oa p q b)):Fl p q a b:=by obtain⟨c,d,e,f,g⟩:=h;have i:=(Ykv p q a b).x;exact mt_of rfl c d O1 O1 O1
theorem met_2(h:Met (-Oa a b p) (-Oa a b q) (-Oa p q a) (-Oa p q b)):Fl p q a b:=by obtain⟨d,c,e,f,g⟩:=h;have i:=(Ykv p q a b).x;exact mt_of' rfl O1 c O1 O1 O1
theorem Zoc(h:Fl p q a b):Fl p q b a:=by obtain⟨m,d,n,i,j,k,f,g,c,e⟩:=h;exact⟨d-m,d,n,i,O1,O1,f,g,by rw [<-c];grind,by rw [<-e];grind⟩
theorem sgI_le{n:Int} : Bn n<=0↔n<=0:=by unfold Bn;split;(omega);split<;>omega
theorem sgI_gt{n:Int} : Bn n>0↔n>0:=by unfold Bn;split;(omega);split<;>omega
theorem sgI_lt{n:Int} : Bn n<0↔n<0:=by unfold Bn;split;(omega);split<;>omega
theorem sgI_z{n:Int} : Bn n=0↔n=0:=by unfold Bn;split;(omega);split<;>omega
theorem Zqr(p a b:Zu):lcD p (a,b)=if a.2.1<=p.2.1/\p.2.1<b.2.1/\0<Oa a b p then 1 else if p.2.1<a.2.1/\b.2.1<=p.2.1/\Oa a b p<0 then -1 else 0:=by
 unfold lcD trn;simp only [sgI_le,sgI_gt,sgI_lt];by_cases h:a.2.1<=p.2.1/\p.2.1<b.2.1/\0<Oa a b p
 .rw [aO h,aO O1]
 .rw [aF h,aF (show ¬(a.2.1-p.2.1<=0/\b.2.1-p.2.1>0/\Oa a b p>0) by omega)];by_cases c:p.2.1<a.2.1/\b.2.1<=p.2.1/\Oa a b p<0
  .rw [aO c,aO O1]
  .rw [aF c,aF O1]
theorem Yqc(a b p:Zu):Oa b a p=-Oa a b p:=by unfold Oa;grind
theorem Yil(p a b:Zu):lcD p (b,a)=-lcD p (a,b):=by
 rw [Zqr,Zqr,Yqc a b p];by_cases c:a.2.1<=p.2.1/\p.2.1<b.2.1/\0<Oa a b p
 .rw [aO c,aF O1,aO O1]
 .rw [aF c];by_cases d:p.2.1<a.2.1/\b.2.1<=p.2.1/\Oa a b p<0
  .rw [aO O1,aO d];rfl
  .rw [aF O1,aF O1,aF d];rfl
theorem Ybd(g:¬Fl p q a b)(i:p.2.1<=q.2.1)(j:a.2.1<=b.2.1):lcD p (a,b)+fW p q a=lcD q (a,b)+fW p q b:=by
 obtain⟨k,l,m,n⟩:=cr_all (Ykv p q a b) (λh=>g (met_1 h)) (λh=>g (met_2 h)) i j;rw [Zqr,Zqr];unfold fW;rcases Eg p.2.1 a.2.1 with e|e
 .rw [aF (show ¬(a.2.1<=p.2.1/\p.2.1<b.2.1/\0<Oa a b p) by omega),aF (show ¬(p.2.1<a.2.1/\b.2.1<=p.2.1/\Oa a b p<0) by omega),aF (show ¬(q.2.1<a.2.1/\b.2.1<=q.2.1/\Oa a b q<0) by omega)];rcases Eg q.2.1 b.2.1 with d|d
  .rw [aF (show ¬(p.2.1<b.2.1/\b.2.1<=q.2.1/\Oa p q b<0) by omega)];rcases Eg q.2.1 a.2.1 with f|f
   .rw [aF O1,aF O1]
   .have:=m e f d;by_cases c:Oa p q a<0
    .rw [aO ⟨e,f,c⟩,aO ⟨f,d,this.1 c⟩];rfl
    .rw [aF (λh=>c h.2.2),aF (λh=>c (this.2 h.2.2))]
  .have:=n e d;rw [aF (show ¬(a.2.1<=q.2.1/\q.2.1<b.2.1/\0<Oa a b q) by omega)];by_cases c:Oa p q a<0
   .rw [aO ⟨e,O1,c⟩,aO ⟨O1,d,this.1 c⟩]
   .rw [aF (λh=>c h.2.2),aF (λh=>c (this.2 h.2.2))]
 .rw [aF (show ¬(p.2.1<a.2.1/\a.2.1<=q.2.1/\Oa p q a<0) by omega),aF (show ¬(p.2.1<a.2.1/\b.2.1<=p.2.1/\Oa a b p<0) by omega),aF (show ¬(q.2.1<a.2.1/\b.2.1<=q.2.1/\Oa a b q<0) by omega)];rcases Eg q.2.1 b.2.1 with d|d
  .rw [aF (show ¬(p.2.1<b.2.1/\b.2.1<=q.2.1/\Oa p q b<0) by omega)];have:=k e d;by_cases c:0<Oa a b p
   .rw [aO ⟨e,O1,c⟩,aO ⟨O1,d,this.1 c⟩]
   .rw [aF (λh=>c h.2.2),aF (λh=>c (this.2 h.2.2))]
  .rw [aF (show ¬(a.2.1<=q.2.1/\q.2.1<b.2.1/\0<Oa a b q) by omega)];rcases Eg p.2.1 b.2.1 with f|f
   .have:=l e f d;by_cases c:0<Oa a b p
    .rw [aO ⟨e,f,c⟩,aO ⟨f,d,this.1 c⟩];rfl
    .rw [aF (λh=>c h.2.2),aF (λh=>c (this.2 h.2.2))]
   .rw [aF O1,aF O1]
theorem Yj6(d:¬Fl p q a b)(c:p.2.1<=q.2.1):lcD p (a,b)+fW p q a=lcD q (a,b)+fW p q b:=by
 rcases lD a.2.1 b.2.1 with h|h
 .exact Ybd d c h
 .have:=Ybd (λe=>d (Zoc e)) c h;rw [Yil p a b,Yil q a b]at this;omega
theorem Yik{p q:Zu}{l:List Zu}(g:p.2.1<=q.2.1)(h:∀e∈Qh l,¬Fl p q e.1 e.2):∀k,k<=l.length->lcW p ((Qh l).take k)+fW p q (l.getD 0 Ys)=lcW q ((Qh l).take k)+fW p q (l.getD (k%l.length) Ys)
 | 0,_=>by simp [lcW]
 | k+1,m=>by
  have n:=Yik g h k O1;have f:=Zmm (show k<l.length by omega);rw [Yat f,Yat f];have d:=Yj6 (h _ (dD f)) g;have i:fW p q (edg l k).1=fW p q (l.getD (k%l.length) Ys):=by rw [bE O1];rfl
  have c:fW p q (edg l k).2=fW p q (l.getD ((k+1)%l.length) Ys):=rfl;rw [i,c]at d;rw [<-c]at d;have j:((edg l k).1,(edg l k).2)=edg l k:=rfl;rw [j,c]at d;omega
theorem Yau{l:List Zu}(c:p.2.1<=q.2.1)(d:∀e∈Qh l,¬Fl p q e.1 e.2):lcW p (Qh l)=lcW q (Qh l):=by have h:=Yik c d l.length (aI _);rw [cN (by rw [Ee];exact aI _),lH]at h;omega
theorem Ydn(h:Fl q p a b):Fl p q a b:=by obtain⟨m,d,n,f,c,e,j,k,g,i⟩:=h;exact⟨m,d,d-n,f,c,e,O1,O1,O5,O5⟩
theorem Yo2{l:List Zu}(c:∀e∈Qh l,¬Fl p q e.1 e.2):lcW p (Qh l)=lcW q (Qh l):=by
 rcases lD p.2.1 q.2.1 with h|h
 .exact Yau h c
 .exact(Yau h λe d f=>c e d (Ydn f)).symm
end Go.Sky
namespace Go.Sky
variable{p q:Zu}
theorem Yf8{x y:Int}(h:Bn x*Bn y<=0):x*y<=0:=by
 unfold Bn at h;rcases gW x 0 with a|a|a<;>rcases gW y 0 with b|b|b
 .rw [aO a,aO b]at h;omega
 .subst b;omega
 .exact eZ O1 O1
 .subst a;omega
 .subst a;omega
 .subst a;omega
 .exact eY O1 O1
 .subst b;omega
 .rw [aF O1,aO O1,aF O1,aO O1]at h;omega
theorem Yhk{a b:Zu}(q:Zu)(h:lcE p (a,b)=true):Fl p q a b:=by
 unfold lcE at h;simp only [aP,bO]at h;obtain⟨c,d,f⟩:=h;have c:Oa a b p=0:=sgI_z.1 c;have d:=Yf8 d;have f:=Yf8 f;have j:=Zwo a b;have g:0<=Iz a b p:=by
  have e:Iz a b p=((p.1-a.1)*(p.1-a.1)+(p.2.1-a.2.1)*(p.2.1-a.2.1))-((a.1-p.1)*(b.1-p.1)+(a.2.1-p.2.1)*(b.2.1-p.2.1)):=by unfold Iz;grind
  have:=Ea (p.1-a.1);have:=Ea (p.2.1-a.2.1);omega
 have i:Iz a b p<=Kq a b:=by
  have e:Kq a b-Iz a b p=((p.1-b.1)*(p.1-b.1)+(p.2.1-b.2.1)*(p.2.1-b.2.1))-((a.1-p.1)*(b.1-p.1)+(a.2.1-p.2.1)*(b.2.1-p.2.1)):=by unfold Iz Kq;grind
  have:=Ea (p.1-b.1);have:=Ea (p.2.1-b.2.1);omega
 by_cases k:Kq a b=0
 .have l:a=p\/True:= .inr aA;have e:(p.1-a.1)*(p.1-a.1)+(p.2.1-a.2.1)*(p.2.1-a.2.1)=Iz a b p+((a.1-p.1)*(b.1-p.1)+(a.2.1-p.2.1)*(b.2.1-p.2.1)):=by unfold Iz;grind
  have m:=Ea (p.1-a.1);have n:=Ea (p.2.1-a.2.1);have o:p.1-a.1=0:=by rcases jW.1 (show(p.1-a.1)*(p.1-a.1)=0 by omega)with h|h<;>exact h
  have r:p.2.1-a.2.1=0:=by rcases jW.1 (show(p.2.1-a.2.1)*(p.2.1-a.2.1)=0 by omega)with h|h<;>exact h
  exact⟨0,1,0,O4,O4,O4,O4,O4,O1,O1⟩
 .refine⟨Iz a b p,Kq a b,0,O1,g,i,O4,O1,?_,?_⟩
  .have e:Kq a b*(p.1-a.1)-Iz a b p*(b.1-a.1)=-((b.2.1-a.2.1)*Oa a b p):=by unfold Kq Iz Oa;grind
   rw [c]at e;grind
  .have e:Kq a b*(p.2.1-a.2.1)-Iz a b p*(b.2.1-a.2.1)=(b.1-a.1)*Oa a b p:=by unfold Kq Iz Oa;grind
   rw [c]at e;grind
theorem Ycf{l:List Zu}(b:∀e∈Qh l,¬Fl p q e.1 e.2):atL l p≠0/\(atL l q=0\/atL l q=atL l p):=by
 have c:¬(Qh l).any (lcE p)=true:=λh=>by obtain⟨e,d,h⟩:=gJ.1 h;exact b e d (Yhk q h)
 have f:=Yo2 b;unfold atL;rw [aF c,f];constructor
 .split<;>decide
 .by_cases a:(Qh l).any (lcE q)=true
  .rw [aO a];exact .inl rfl
  .rw [aF a];exact .inr rfl
theorem Ypa{b:List Zu}{a:List Ox}(g:∀e∈Qh b,¬Fl p q e.1 e.2)(f:∀z∈a,∀e∈Qh z.2,¬Fl p q e.1 e.2)(h:inB b a p=true):inB b a q=true:=by
 unfold inB at h ⊢;simp only [aP,bO,fL,kV]at h ⊢;obtain⟨i,d⟩:=h;refine⟨?_,λz c=>?_⟩
 .rcases(Ycf g).2 with h|h<;>omega
 .have j:=d z c;rcases(Ycf (f z c)).2 with h|h<;>omega
theorem Ygr{l:List Zu}{i:Nat}(hi:i<l.length):edg (Zc2 l) (l.length-1-i)=((edg l i).2,(edg l i).1):=by
 have a:∀p,p<l.length->(Zc2 l).getD p Ys=l.getD ((l.length-p)%l.length) Ys:=λp f=>by rw [aJ,aL (by rw [Zgi];exact f)];simp [Zc2]
 have b:edg (Zc2 l) (l.length-1-i)=(flt ((Zc2 l).getD (l.length-1-i) Ys),flt ((Zc2 l).getD ((l.length-1-i+1)%(Zc2 l).length) Ys)):=rfl;rw [b,Zgi,a _ O1,a _ (bK _ O1)];have c:l.length-(l.length-1-i)=i+1:=O1;have d:(l.length-(l.length-1-i+1)%l.length)%l.length=i:=by
  rw [show l.length-1-i+1=l.length-i by omega];by_cases e:i=0
  .subst e;rw [gP,lH,gP,lH]
  .rw [bE (show l.length-i<l.length by omega),show l.length-(l.length-i)=i by omega,bE hi]
 rw [c,d];rfl
theorem Yoe{l:List Zu}{e:Zu×Zu}(k:Nat)(h:e∈Qh l):e∈Qh (orL k l)\/(e.2,e.1)∈Qh (orL k l):=by
 unfold orL;split
 .right;obtain⟨i,hi,rfl⟩:=Yd7 h;rw [<-Ygr hi];simp only [Qh,dP,cF];exact⟨_,by rw [Zgi];omega,rfl⟩
 .exact .inl h
theorem Zfo{a b c d e f:Int}(i:0<d)(n:0<b)(o:0<f)(g:a*d<=c*b)(h:c*f<=e*d):a*f<=e*b:=by
 have r:a*d*f<=c*b*f:=cC g O1;have s:c*f*b<=e*d*b:=cC h O1;have j:a*f*d<=e*b*d:=by have k:a*f*d=a*d*f:=O5;have l:e*b*d=e*d*b:=O5;have m:c*b*f=c*f*b:=O5;omega
 exact dL j i
theorem Ybq(q:Zu):∀(a:List (Zu×Zu)) (b:Int×Int),(∀e∈a,0<(Dn e.1 e.2 q).2)->0<=b.2->
  (0<b.2->0<(a.foldl (λb e=>mnq b (Dn e.1 e.2 q)) b).2/\(a.foldl (λb e=>mnq b (Dn e.1 e.2 q)) b).1*b.2<=b.1*(a.foldl (λb e=>mnq b (Dn e.1 e.2 q)) b).2)/\
  ∀e∈a,0<(a.foldl (λb e=>mnq b (Dn e.1 e.2 q)) b).2/\(a.foldl (λb e=>mnq b (Dn e.1 e.2 q)) b).1*(Dn e.1 e.2 q).2<=(Dn e.1 e.2 q).1*(a.foldl (λb e=>mnq b (Dn e.1 e.2 q)) b).2
 | [],b,_,k=>⟨λh=>⟨h,O8⟩,λe c=>by cases c⟩
 | x::a,b,hp,k=>by
  have i:=hp x bX;have l:0<(mnq b (Dn x.1 x.2 q)).2/\(mnq b (Dn x.1 x.2 q)).1*(Dn x.1 x.2 q).2<=(Dn x.1 x.2 q).1*(mnq b (Dn x.1 x.2 q)).2/\(0<b.2->(mnq b (Dn x.1 x.2 q)).1*b.2<=b.1*(mnq b (Dn x.1 x.2 q)).2):=by
   unfold mnq;split
   .rename_i h;exact⟨i,eA _,λd=>O1⟩
   .rename_i h;exact⟨O1,O1,λd=>eA _⟩
  obtain⟨g,o,r⟩:=l;obtain⟨m,n⟩:=Ybq q a (mnq b (Dn x.1 x.2 q)) (λe c=>hp e (bN _ c)) O1;obtain⟨f,j⟩:=m g;rw [fX];refine⟨λd=>⟨f,Zfo g f d j (r d)⟩,λe c=>?_⟩;rcases aW.1 c with rfl|c
  .exact⟨f,Zfo g f i j o⟩
  .exact n e c
theorem Ygo{x y:Int}(j:bl x.natAbs<=65536)(k:bl y.natAbs<=65536)(a:0<y):Fe x y*y=x*Hd x y:=by
 obtain⟨h,-⟩:=nrf j k a;obtain⟨g,i,-⟩:=Za8 h;have b:Nw x y≠0:=Zqm O1;have e:Nw x y∣x:=by rw [Zib a];exact jO ..
 have f:Nw x y∣y:=by rw [Zib a];exact gD ..
 obtain⟨u,c⟩:=e;obtain⟨v,d⟩:=f;have l:x/Nw x y=u:=by have:=dJ u b;rw [<-c]at this;exact this
 have m:y/Nw x y=v:=by have:=dJ v b;rw [<-d]at this;exact this
 rw [g,i,l,m];have:u*y=x*v:=by
  calc u*y=u*(Nw x y*v):=by rw [<-d]
   _=(Nw x y*u)*v:=O5
   _=x*v:=by rw [<-c]
 exact this
theorem Ykb{a b:Zu}(i:Lb a=true)(j:Lb b=true)(m:Lb q=true)(h:Fl p q a b):0<(Dn a b q).2/\(Dn a b q).1<=dst p q*(Dn a b q).2:=by have g:=d2b i j m;have d:=Yos h;obtain⟨n,o,c⟩:=dqr_b g;obtain⟨s,t,u,f⟩:=nrf (x:=(dqr a b q).1) (y:=(dqr a b q).2) O1 O1 c;have l:0<(Dn a b q).2:=f;refine⟨l,?_⟩;have e:(Dn a b q).1*(dqr a b q).2=(dqr a b q).1*(Dn a b q).2:=Ygo (x:=(dqr a b q).1) (y:=(dqr a b q).2) O1 O1 c;have k:(dqr a b q).1*(Dn a b q).2<=(dqr a b q).2*dst p q*(Dn a b q).2:=cC d O1;have r:(dqr a b q).2*dst p q*(Dn a b q).2=dst p q*(Dn a b q).2*(dqr a b q).2:=O5;exact dL (show(Dn a b q).1*(dqr a b q).2<=dst p q*(Dn a b q).2*(dqr a b q).2 by omega) c
theorem Yka(p q:Zu):dst p q=(p.1-q.1)*(p.1-q.1)+(p.2.1-q.2.1)*(p.2.1-q.2.1):=by unfold dst;grind
theorem Yoc {fo:SL} {b:List Zu} {a:List Ox} {fl i e:Int}  (B:Gb b a fl i=true) (f:0<=e/\e<=100000) (hp:Lb p=true) (S:Lb q=true)
  (hi:Zdd b a fl i p=true) (hn:d2V p.1 p.2.1 p.2.2 q.1 q.2.1 q.2.2<=e*e):ouB fo b a fl i e q=false:=by
 unfold Zdd at hi;simp only [aP,bO]at hi;obtain⟨z1,z2,hi⟩:=hi;have s1:=Ea (p.1-q.1);have s2:=Ea (p.2.1-q.2.1);have s3:=Ea (p.2.2-q.2.2);have Q:d2V p.1 p.2.1 p.2.2 q.1 q.2.1 q.2.2=dst p q+(p.2.2-q.2.2)*(p.2.2-q.2.2):=by rw [Yka]
 have u:(p.2.2-q.2.2)*(p.2.2-q.2.2)<=e*e:=by rw [Yka]at Q;omega
 have W:p.2.2-q.2.2<=e:=by
  refine aR λh=>?_;have:=Int.mul_lt_mul (show e<p.2.2-q.2.2 by omega) (show e<=p.2.2-q.2.2 by omega);by_cases v:e=0
  .subst v;have:=dU (show 0<p.2.2-q.2.2 by omega) (show 0<p.2.2-q.2.2 by omega);omega
  .have:=this O1 O1;omega
 have Y:q.2.2-p.2.2<=e:=by
  refine aR λh=>?_;have e3:(p.2.2-q.2.2)*(p.2.2-q.2.2)=(q.2.2-p.2.2)*(q.2.2-p.2.2):=O5;have:=Int.mul_lt_mul (show e<q.2.2-p.2.2 by omega) (show e<=q.2.2-p.2.2 by omega);by_cases v:e=0
  .subst v;have:=dU (show 0<q.2.2-p.2.2 by omega) (show 0<q.2.2-p.2.2 by omega);omega
  .have:=this O1 O1;omega
 cases hb:Zdd b a fl i (qLo fl q)with
 | true=>exact Ydc O1 O1 hb
 | false=>
  rw [Ydb O1 O1 hb];have s:=Zw4 B S;have hs:=Zuz (fo:=fo) B;have m:inB b a (qLo fl q)=false:=by unfold Zdd at hb;have k:=(Cl B).2.1;rw [aE (show(qLo fl q).2.2>=fl from eA fl),aE (show(qLo fl q).2.2<=i by show fl<=i;omega)]at hb;exact hb
  have n:∃z∈((fo,b)::a:List Ox),∃e∈Qh z.2,Fl p (qLo fl q) e.1 e.2:=by refine aZ λr=>?_;have P:inB b a (qLo fl q)=true:=Ypa (p:=p) (λe f n=>r ⟨_,bX,e,f,n⟩) (λz u e f n=>r ⟨z,bN _ u,e,f,n⟩) hi;rw [P]at m;cases m
  obtain⟨z,u,x,V,o⟩:=n;obtain⟨k,I,rfl⟩:=fO u;have d:∀y,y∈rgE ((fo,b)::a) k->y∈Ho ((fo,b)::a) ((fo,b)::a:List Ox).length:=λy g=>by unfold Ho;exact gI.2 ⟨k,cF.2 I,g⟩
  have l:((fo,b)::a:List Ox).getD k Kc=((fo,b)::a:List Ox)[k]:=by rw [aJ,aL I];rfl
  have F:∃y∈Ho ((fo,b)::a) ((fo,b)::a:List Ox).length,Fl p (qLo fl q) y.1 y.2:=by
   rcases Yoe k V with h|h
   .exact⟨x,d _ (by unfold rgE;rw [l];exact h),o⟩
   .exact⟨_,d _ (by unfold rgE;rw [l];exact h),Zoc o⟩
  obtain⟨y,g,D⟩:=F;have c:∀y∈Ho ((fo,b)::a) ((fo,b)::a:List Ox).length,Lb y.1=true/\Lb y.2=true:=λy g=>by obtain⟨j,R⟩:=eH.1 g;exact Zsf hs (aI _) R
  obtain⟨M,N⟩:=Ykb (c y g).1 (c y g).2 s D;obtain⟨G,H⟩:=(Ybq (qLo fl q) (Ho ((fo,b)::a) ((fo,b)::a:List Ox).length) (0,0) (λe f=>(Ybi (d2b (c e f).1 (c e f).2 s)).2.2) (eA 0)).2 y g;have w:dst p (qLo fl q)=dst p q:=rfl;obtain⟨r1,r2⟩:=Yd5 f;unfold ouN;rw [r1,r2];have G:0<(d2A fo b a (qLo fl q)).2:=G;have H:(d2A fo b a (qLo fl q)).1*(Dn y.1 y.2 (qLo fl q)).2<=(Dn y.1 y.2 (qLo fl q)).1*(d2A fo b a (qLo fl q)).2:=H;have Z:(Dn y.1 y.2 (qLo fl q)).1*1<=(e*e)*(Dn y.1 y.2 (qLo fl q)).2:=by have k3:dst p q*(Dn y.1 y.2 (qLo fl q)).2<=(e*e)*(Dn y.1 y.2 (qLo fl q)).2:=cC O1 O1;rw [w]at N;omega
  have k2:=Zfo M G (by decide:(0:Int)<1) H Z;refine aG λh=>?_;rcases gW ((d2A fo b a (qLo fl q)).1*1-e*e*(d2A fo b a (qLo fl q)).2) 0 with t|t|t
  .rw [iE t]at h;exact absurd h O4
  .rw [t]at h;exact absurd h O4
  .have e9:(d2A fo b a (qLo fl q)).1*1=(d2A fo b a (qLo fl q)).1:=iF _;omega
abbrev Si0:Ly:=((0,0),Ys)
def fsR(b a:Ly->Int):Nat->List Ly->Int×Int×Int
 | k,[]=>((k:Int),0,0)
 | k,s::t=>if a s≠0 then(0,0,a s)else if b s≠0 then((k:Int),b s,0)else fsR b a (k+1) t
def OkU(b a:Ly->Int)(l:List Ly)(i:Nat):Prop:=∀j,j<i->a (l.getD j Si0)=0/\b (l.getD j Si0)=0
section
variable {dv de:Ly->Int} {l:List Ly} {i:Nat}
end
section
variable (ps:List Zd) (fo:SL) (po:List Zu) (ph:List Ox) (fl fu:Int) (g:GdT)
def dvS(s:Ly):Int:=if Zfe s=true then dcV (ouB fo po ph fl fu g.2.1 s.2) (Fy ps s) (Br ps g s) (wiS g s)else 0
def deS(s:Ly):Int:=if Zfe s=true then dcE (ouB fo po ph fl fu g.2.1 s.2) (Fy ps s)else 2
abbrev dcS (s:Ly):Value:= .tuple #[.int .i64 (dvS ps fo po ph fl fu g s),.int .i64 (deS ps fo po ph fl fu g s)]
abbrev fsV (l:List Ly):Int×Int×Int:=fsR (dvS ps fo po ph fl fu g) (deS ps fo po ph fl fu g) 0 l
end
section
variable {ps:List Zd} {fo:SL} {po:List Zu} {ph:List Ox} {fl fu:Int} {g:GdT} {s:Ly}
theorem Zbb(h:Zfe s=true):Zbo s.1.1 s.1.2=true/\Lb s.2=true:=by simpa only [Zfe,aP]using h
end
end Go.Sky

