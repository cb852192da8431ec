/- Rules, arithmetic and contracts: part 15. No conditions but those that each theorem names. -/
import Derived.Test.YtlnoheikolgejaaGreatLc13
import Derived.MapKept
set_option linter.all false
set_option maxHeartbeats 4000000
namespace Go.Sky
open Go.Proofs.Tryz
open Go.Proofs
set_option synthInstance.maxHeartbeats 0
set_option synthInstance.maxSize 100000
set_option maxRecDepth 20000
set_option linter.unusedSimpArgs false
variable{v v1 v2:Value}{xs y x2 y2 z z2 Y Z c:List Int}{x zd zn ze ov fr2 to2 ov2 o d D:Int}{bs i m:Nat}{ls cs:List (SL×List Int)}{a b:List Zv}{zs ys:List (Int×SL)}{f:Nat->List Int}{r:SL×SL×SL}
theorem Yp0(m:Nat)(xs:List Int)(g:Vp xs)(s:m<=1000):Xp prog 358 #[v,.int .i64 (m:Int)] [Yl 2 wv v xs] (.bool (decide (Zc1 xs m))):=by
 refine Zg func358 ntmps358 λB w t e=>?_;have l:=g.len;have p:=Qu g.sz;have q:(xs.length+2)*(xs.length+2)<=27*27:=aQ O O;have u:(xs.length+2)*(xs.length+2)*(Xx xs+m+2*(xs.length-1)+32)<=27*27*70000:=aQ q O;have n:((xs.length:Int)-1+3)*((xs.length:Int)-1+3)=(((xs.length+2)*(xs.length+2):Nat):Int):=by rw [show(xs.length:Int)-1+3=((xs.length+2:Nat):Int) by omega];push_cast;rfl
 have j:xs.length≠0->((xs.length:Int)-1+3)*((xs.length:Int)-1+3)*((Xx xs:Int)+(m:Int)+2*((xs.length:Int)-1)+32)=(((xs.length+2)*(xs.length+2)*(Xx xs+m+2*(xs.length-1)+32):Nat):Int):=λh=>by rw [n,show(Xx xs:Int)+(m:Int)+2*((xs.length:Int)-1)+32=((Xx xs+m+2*(xs.length-1)+32:Nat):Int) by omega];push_cast;rfl
 refine go 8 ?_;refine cl 1 [1] (Zjr g) λ_ _=>go 10 ?_;refine cl 1 [1] (Zpn g) λ_ _=>go 13<|Zy 22 J (λk=>?_) (λk=>?_)
 .refine go 19 ?_;exact Yp e () results358 (by first|exact sgf_t O|exact sgf_i O (j O)) aA Za
 .refine go 19 ⟨O,O,by rw [n];exact⟨O,O⟩,O,O,O,O,by rw [j O];exact⟨O,O⟩,?_⟩;exact Yp e () results358 (by first|exact sgf_t O|exact sgf_i O (j O)) aA Za
theorem Yig(g:Vp xs):Xp prog 306 #[v] [Yl 2 wv v xs] (.bool (decide (Zc1 xs 0))):=by refine Zg func306 ntmps306 λk j h e=>go 8 ?_;refine cl 1 [1] (Xt ‹_›) λ_ _=>go 2 ?_;refine Gi 1 [1] (Yp0 0 xs g O) λ_ _=>go 5 ?_;exact Yp e () results306 J aA Za
theorem Zly{y:Int}(g:bl x.natAbs<=65536)(h:bl y.natAbs<=65536):Xp prog 307 #[rX x y] [] (.bool (efit (x,y))):=by refine Zg func307 ntmps307 λn l k e=>go 2 ?_;refine Yj (Yg 1) λj _=>go 4<|Qa (λ_=>False) [(0,0),(1,0),(3,0),(4,0),(2,1),(5,1),(6,0),(7,0),(8,3)]<|go 4<|Yq (Zo 1 [] (Zle g)) λ_ _=>Yq (Zo 1 [] (Zle h)) λ_ _=>?_;refine Yz J J (Xn (Zcr J J J))<|go 5 ?_;exact Yp e () results307 (by unfold efit;exact vB (bB.2 O9)) aA Za
theorem Zlz{y x2 y2:Int}(n:bl x.natAbs<=65536)(p:bl y.natAbs<=65536)(h:bl x2.natAbs<=65536)(j:bl y2.natAbs<=65536)(l:0<y)(e:0<y2):Xp prog 308 #[rX x y,rX x2 y2] [] (.int .i64 (cmp (x,y) (x2,y2))):=by refine Zg func308 ntmps308 λu t s g=>go 2 ?_;refine Yj (Yg 1) λq _=>Yj (Yg 2) λk _=>go 7 ?_;refine cl 2 [] (Zf8 n p h j l e) λ_ _=>go 14 ?_;exact Yp g () results308 J aA Za
theorem Yao(v:Value)(xs:List Int){y:Int}(k:bl x.natAbs<=65536)(l:bl y.natAbs<=65536)(h:0<y)(j:Vp xs)(g:¬Ha xs x y):Xp prog 315 #[.pointer (some ⟨bs,0,none⟩),v,rX x y] [Hm bs 340 #[.int .i64 0],Yl 2 wv v xs] (.int .i64 (Bb x y xs)):=by refine Zg func315 ntmps315 λs q p e=>go 2 ?_;refine Yj (Yg 3) λn _=>go 7 ?_;refine cl 3 [2] (Zvb j k l h) λ_ _=>go 2 ?_;refine dt (Xf ( .int .i64 0) (Zze J J J) (aD (Value.int .i64) (aJ g)))<|go 11 ?_;refine kt O3<|go 8 ?_;refine tt (Zo2 1 J J J J J J sizeOf28 J J O11 J) J λ_ _=>go 9 ?_;exact Yp e () results315 (by unfold Bb;rw [show evv xs x y=pev xs x y from aJ g]<;>rfl) aA Za
theorem Zlx(x y:Int)(q:bl x.natAbs<=65536)(s:bl y.natAbs<=65536)(n:0<y)(h:∀z∈ls,Vp z.2)(g:∀z∈ls,¬Ha z.2 x y):Xp prog 253 #[.agg #[v1,v2],.pointer (some ⟨bs,0,none⟩),rX x y] [Xv 1 Nm qZ v1 ls,Xv 1 Nm qZ v2 cs,Hm bs 340 #[.int .i64 0]] (.int .i64 (vlu (ls.map Prod.snd) (x,y))):=by
 refine Zg func253 ntmps253 λw u p j=>?_;refine Xz (Oa (i:=1) J Zc) λl=>go 2 ?_;refine Yj (Yg 4) λt _=>Yj (Yg 5) λk _=>go 12<|Ze J (λe=>?_) (λe=>?_)
 .refine go 7 ?_;exact Yp j () results253 (by unfold vlu;rw [aW,aP O]<;>rfl) aA Za
 .refine go 3<|Qa (λ_=>False) [(0,0),(1,0),(2,0),(3,0),(4,0),(5,0),(6,1),(7,3)]<|go 4 ⟨O,?_⟩;refine Yz J J (Xn (Yr 1 Z0 J J J Zc pS))<|go 1 ?_;refine Kd J (Xb 5 (Yao (Xd (ls.getD 0 Z0).1) (ls.getD 0 Z0).2 q s n (h (ls.getD 0 Z0) (Zd O)) (g (ls.getD 0 Z0) (Zd O))) J J J K3 call315 (Zp 3 J J J (Yj3 1 J J (Zd (i:=0) (zs:=ls) (d:=Z0) O) Zq)) J p.h) λ_ _=>go 4 ?_;exact Yp j () results253 (by unfold vlu;rw [aW,aJ O,Zih O]<;>rfl) aA Za
theorem Yih{y:Int}(I:bl x.natAbs<=65536)(M:bl y.natAbs<=65536)(H:0<y)(n:∀z∈ls,Vp z.2)(l:∀z∈ls,¬Ha z.2 x y):Xp prog 313 #[.agg #[v1,v2],.pointer (some ⟨bs,0,none⟩),rX x y] [Xv 1 Nm qZ v1 ls,Xv 1 Nm qZ v2 cs,Hm bs 340 #[.int .i64 0]] (.int .i64 (aft (ls.map Prod.snd) (x,y))):=by
 refine Zg func313 ntmps313 λR Q P p=>?_;refine Xz (Oa (i:=1) J Zc) (λB=>?_);have F:=Zm5 ls (Bb x y);have j:=λi (h:i<ls.length)=>Zud ls (Bb x y) h;refine go 2<|Yj (Yg 4) λN _=>Yj (Yg 5) λu _=>go 13 ?_;refine lp (G:=Nat) [1,5,11,12] [0,1,2,3,4,5] (λi=>[(13,.int .i64 (i:Int))]) (λi=>[]) (λi=>(i<=ls.length)/\(∀k,k<i->(sgx ls (Bb x y)).getD k 0=0)) (λi=>ls.length-i) 0 ⟨O1,λk w=>absurd w (aR k)⟩ K1 aA ?_;rintro i ⟨hi,t⟩;refine go 6<|Ze J (λe=>?_) (λe=>?_)
 .refine go 7 ⟨O2,?_⟩;refine dt (Yr 1 Z0 J J J Zc pS O2)<|go 4 ?_;refine Zf (Po 1 91 (ls.getD i Z0) J J (Zd O) J)<|go 4 ?_;refine cl 5 [3,91] (Yao (Xd (ls.getD i Z0).1) (ls.getD i Z0).2 I M H (n (ls.getD i Z0) (Zd O)) (l (ls.getD i Z0) (Zd O))) λ_ _=>go 9<|Ze J (λg=>?_) (λg=>?_)
  .refine go 12 ?_;exact Yp p () results313 (by rw [Yec,Zwe ‹_› O t (j i O)]<;>rfl) aA Za
  .refine go 7 ⟨O,?_⟩;exact Ye (i+1) ⟨O1,λk s=>by rcases aN.1 s with q|q;exact t k q;subst q;rw [j _ O];exact bM ‹_›⟩ O1 K1 aA
 .refine go 11 ?_;exact Yp p () results313 (by rw [Yec,Zpx (λk w=>t k O)]<;>rfl) aA Za
theorem Zl0{y:Int}(R:bl x.natAbs<=65536)(S:bl y.natAbs<=65536)(Q:0<y)(F:∀z∈cs,Vp z.2)(B:∀z∈cs,¬Ha z.2 x y):Xp prog 366 #[.agg #[v1,v2],.pointer (some ⟨bs,0,none⟩),rX x y] [Xv 1 Nm qZ v1 ls,Xv 1 Nm qZ v2 cs,Hm bs 340 #[.int .i64 0]] (.int .i64 (chv (cs.map Prod.snd) (x,y))):=by
 refine Zg func366 ntmps366 λw0 sc W I=>?_;refine Xz (Oa (i:=2) J Zc) (λN=>?_);have P:=Zm5 cs (Bb x y);have g:=λi (h:i<cs.length)=>Zud cs (Bb x y) h;refine go 2<|Yj (Yg 4) λV _=>Yj (Yg 5) λM _=>go 19 ?_;refine lp (G:=Nat×Int×Int) [1,5,13,14] [0,1,2,3,4,5] (λq=>[(15,.int .i64 (q.1:Int)),(7,.int .i64 q.2.1),(8,.int .i64 q.2.2)]) (λq=>[]) (λq=>(q.1<=cs.length)/\((q.2.1,q.2.2)=((sgx cs (Bb x y)).take q.1).foldl Nk (0,0))/\(0<=q.2.1)/\(q.2.1<=(q.1:Int))/\(-1<=q.2.2/\q.2.2<=1)) (λq=>cs.length-q.1) (0,0,0) ⟨O1,O5,O1,O1,O1⟩ K3 aA ?_;rintro⟨i,n,l⟩ ⟨hi,j,k,H,s⟩;dsimp only at hi j k H s;dsimp only;have e:=fat_r x y (cs.getD i Z0).2;refine go 6<|Ze J (λt=>?_) (λt=>?_)
 .refine go 7 ⟨O2,?_⟩;refine dt (Yr 2 Z0 J J J Zc pS O2)<|go 4 ?_;refine Zf (Po 2 91 (cs.getD i Z0) J J (Zd O) J)<|go 4 ?_;refine cl 5 [3,91] (Yao (Xd (cs.getD i Z0).1) (cs.getD i Z0).2 R S Q (F (cs.getD i Z0) (Zd O)) (B (cs.getD i Z0) (Zd O))) λ_ _=>?_;refine go 12 ⟨sgm_i e s,?_⟩;refine Ze J (λu=>?_) (λu=>?_)
  .refine go 12 ⟨O,?_⟩;refine Ze J (λw=>?_) (λw=>?_)
   .refine go 10 ⟨O,?_⟩;exact Ye (i+1,_,_) ⟨O1,by first|exact Ydp O j (g i O) (bM ‹_›)|exact Ydo O j (g i O) ‹_› (Yam e O ‹_›)|exact Ydn O j (g i O) ‹_› (Yal e O ‹_› ‹_›)|exact absurd ‹_› (Yan (bM ‹_›)),by first|exact k|(dsimp only;omega),O9,by first|exact s|exact e⟩ O1 K3 aA
   .refine go 7 ⟨O,?_⟩;exact Ye (i+1,_,_) ⟨O1,by first|exact Ydp O j (g i O) (bM ‹_›)|exact Ydo O j (g i O) ‹_› (Yam e O ‹_›)|exact Ydn O j (g i O) ‹_› (Yal e O ‹_› ‹_›)|exact absurd ‹_› (Yan (bM ‹_›)),by first|exact k|(dsimp only;omega),O9,by first|exact s|exact e⟩ O1 K3 aA
  .refine go 8<|Ze J (λp=>?_) (λp=>?_)
   .refine go 10 ⟨O,?_⟩;exact Ye (i+1,_,_) ⟨O1,by first|exact Ydp O j (g i O) (bM ‹_›)|exact Ydo O j (g i O) ‹_› (Yam e O ‹_›)|exact Ydn O j (g i O) ‹_› (Yal e O ‹_› ‹_›)|exact absurd ‹_› (Yan (bM ‹_›)),by first|exact k|(dsimp only;omega),O9,by first|exact s|exact e⟩ O1 K3 aA
   .refine go 7 ⟨O,?_⟩;exact Ye (i+1,_,_) ⟨O1,by first|exact Ydp O j (g i O) (bM ‹_›)|exact Ydo O j (g i O) ‹_› (Yam e O ‹_›)|exact Ydn O j (g i O) ‹_› (Yal e O ‹_› ‹_›)|exact absurd ‹_› (Yan (bM ‹_›)),by first|exact k|(dsimp only;omega),O9,by first|exact s|exact e⟩ O1 K3 aA
 .refine go 12 ?_;exact Yp I () results366 (by rw [Yti,Ytm O j]<;>rfl) aA Za
theorem Zxx{y x2 y2:Int}(I:bl x.natAbs<=65536)(M:bl y.natAbs<=65536)(p:bl x2.natAbs<=65536)(q:bl y2.natAbs<=65536)(G:0<y)(n:0<y2)(e:∀z∈cs,Vp z.2)(l:∀z∈cs,¬Ha z.2 x y)(g:∀z∈cs,¬Ha z.2 x2 y2)(F:cs.length<=1000):Xp prog 314 #[.agg #[v1,v2],.pointer (some ⟨bs,0,none⟩),rX x y,rX x2 y2] [Xv 1 Nm qZ v1 ls,Xv 1 Nm qZ v2 cs,Hm bs 340 #[.int .i64 0]] (.bool (crb (cs.map Prod.snd) (x,y) (x2,y2))):=by
 refine Zg func314 ntmps314 λQ P H h=>?_;refine Xz (Oa (i:=2) J Zc) (λB=>?_);have s:=Ydm (cs.map Prod.snd) (x,y);have t:=Ydm (cs.map Prod.snd) (x2,y2);rw [aW]at s t;refine go 2<|Yj (Yg 4) λN _=>Yj (Yg 5) λu _=>Yj (Yg 6) λw _=>go 12<|Ze J (λj=>?_) (λj=>?_)
 .refine go 7 ?_;exact Yp h () results314 (by unfold crb;rw [aW,aP O]<;>rfl) aA Za
 .refine go 3<|Qa (λ_=>False) [(0,0),(1,0),(2,0),(4,0),(5,0),(6,0),(3,1),(7,1),(8,0),(9,3)]<|go 6<|Yq (Zo 6 [1,2,3] (Zl0 I M G e l)) λ_ _=>Yq (Zo 6 [1,2,3] (Zl0 p q n e g)) λ_ _=>?_;refine go 6 ⟨O,?_⟩;refine Qa (λ_=>False) [(0,0),(1,0),(2,0),(3,0),(4,0),(5,0),(6,1),(7,0)]<|go 4 ⟨O,?_⟩;refine Yz J J (Xn (Yr 2 Z0 J J J Zc pS))<|go 1 ?_;refine Kd J (Xb 6 (Yao (Xd (cs.getD 0 Z0).1) (cs.getD 0 Z0).2 p q n (e (cs.getD 0 Z0) (Zd O)) (g (cs.getD 0 Z0) (Zd O))) J J J K3 call315 (Zp 3 J J J (Yj3 2 J J (Zd (i:=0) (zs:=cs) (d:=Z0) O) Zq)) J H.h) λ_ _=>go 3 ?_;refine Ze J (λk=>?_) (λk=>?_)
  .refine go 14 ⟨O,?_⟩;exact Yp h () results314 (by first|exact crb_t O ‹_›|exact crb_f O ‹_›) aA Za
  .refine go 10 ?_;exact Yp h () results314 (by first|exact crb_t O ‹_›|exact crb_f O ‹_›) aA Za
theorem Zc2(x y x2 y2:Int)(u:0<y)(p:0<y2)(g:∀z∈ls,Vp z.2)(e:∀z∈ls,¬Ha z.2 x y)(n:∀z∈cs,Vp z.2)(k:∀z∈cs,¬Ha z.2 x y)(l:∀z∈cs,¬Ha z.2 x2 y2)(F:cs.length<=1000)(w:bl x.natAbs<=65536:=by omega)(B:bl y.natAbs<=65536:=by omega)(q:bl x2.natAbs<=65536:=by omega)(s:bl y2.natAbs<=65536:=by omega):Xp prog 252 #[.agg #[v1,v2],.pointer (some ⟨bs,0,none⟩),rX x y,rX x2 y2] [Xv 1 Nm qZ v1 ls,Xv 1 Nm qZ v2 cs,Hm bs 340 #[.int .i64 0]] (.bool (ngb (ls.map Prod.snd) (cs.map Prod.snd) (x,y) (x2,y2))):=by
 refine Zg func252 ntmps252 λP N M h=>go 2 ?_;refine Yj (Yg 4) λI _=>Yj (Yg 5) λG _=>Yj (Yg 6) λH _=>go 8 ?_;refine cl 6 [] (Zlz w B q s u p) λ_ _=>go 3<|Ze J (λj=>?_) (λj=>?_)
 .refine go 5 ?_;refine cl 6 [1,2,3] (Zlx _ _ w B u g e) λ_ _=>go 6 ?_;exact Yp h () results252 (by unfold ngb;rw [aP ‹_›]) aA Za
 .refine go 7 ?_;refine cl 6 [1,2,3] (Yih w B u g e) λ_ _=>go 2<|Zy 23 J (λt=>?_) (λt=>?_)
  .refine go 10 ?_;exact Yp h () results252 (by first|exact ngb_t ‹_› ‹_›|exact ngb_f ‹_› ‹_›) aA Za
  .refine go 4 ?_;refine Gi 6 [1,2,3] (Zxx w B q s u p n k l F) λ_ _=>go 5 ?_;exact Yp h () results252 (by first|exact ngb_t ‹_› ‹_›|exact ngb_f ‹_› ‹_›) aA Za
theorem Yev(x y x2 y2:Int)(W:bl x.natAbs<=65536)(hy:bl y.natAbs<=65536)(q:bl x2.natAbs<=65536)(s:bl y2.natAbs<=65536)(N:0<y)(l:0<y2)(M:Ze7 (x,y) (x2,y2)):Xp prog 316 #[.pointer (some ⟨bs,0,none⟩),rX x y,rX x2 y2] [Hm bs 340 #[.int .i64 0]] (.agg #[.bool (decide ((Nh (x,y) (x2,y2)).1<0)),.string (Qy (Nh (x,y) (x2,y2)).1.natAbs),.bool (decide ((Nh (x,y) (x2,y2)).2<0)),.string (Qy (Nh (x,y) (x2,y2)).2.natAbs)]):=by
 refine Zg func316 ntmps316 λw0 sc hw k=>?_;have p:¬Hh (x*y2+x2*y) (y*y2):=M.1;obtain⟨P,Q,n⟩:=Zfu p;obtain⟨e,g⟩:=nr_bl p;have h:=Zyq p (fH N l);have j:=Yfp M;refine go 2<|Yj (Yg 2) λbx _=>Yj (Yg 3) λt _=>Yj (Yd 4) λu _=>go 6 ?_;refine cl 4 [] (Zog W hy q s N l) λ_ _=>go 2 ?_;refine dt (Xf ( .int .i64 0) (Zze J J J) (aD (Value.int .i64) n))<|Yj (Yd 5) λB _=>go 11 ?_;refine kt O3<|go 8 ?_;refine tt (Zo2 1 J J J J J J sizeOf28 J J O11 J) J λ_ _=>go 3 ?_;refine Qw [5] [10]<|Zi 10 [(0,0)]<|go 2 ?_;refine Pa 9 1 8 ?_ ?_
 .refine Na (Zo 5 [] (Ya _ ⟨O3,O3⟩)) λ_ _=>?_;refine Pa 8 2 8 ?_ ?_
  .refine Na (Zo 5 [] (Ya _ ⟨O3,O3⟩)) λ_ _=>?_;refine Zi 7 [(3,0)]<|Yz J J (Ko (Qe [(0,_),(1,_)] J K4 (λa w hs=>Zh4)) K1)<|go 1 ?_;refine Pa 6 4 8 ?_ ?_
   .refine Na (Zo 5 [] (Ce 1 2 e g O7 O7 h)) λ_ _=>?_;refine Zi 0 [(5,0),(6,0),(7,0),(8,1),(9,1),(10,3)]<|go 2 ?_;refine Yz J J (Ko (Xf ( .int .i64 0) (Zze J J J) (aD (Value.int .i64) j)) K1)<|Yq (Qf 6) λF ho=>go 3 ?_;refine Zu<|go 8<|kt O3<|go 8 ?_;refine tt (Zo2 1 J J J J J J sizeOf28 J J O11 J) J λ_ _=>go 9 ?_;exact Yp k () results316 J aA Za
   .refine Na (Qf 7) λG R=>?_;refine Zi 0 [(4,1),(5,0),(6,0),(7,0),(9,1),(10,3)]<|Yq (Zo 7 [] (Ce 1 2 e g O7 O7 h)) λ_ _=>go 2 ?_;refine Yz J J (Ko (Xf ( .int .i64 0) (Zze J J J) (aD (Value.int .i64) j)) K1)<|go 3 ?_;refine Zu<|go 8<|kt O3<|go 8 ?_;refine tt (Zo2 1 J J J J J J sizeOf28 J J O11 J) J λ_ _=>go 9 ?_;exact Yp k () results316 J aA Za
  .refine Na (Qf 8) λH S=>?_;refine Zi 0 [(2,1),(3,0),(4,1),(5,0),(6,0),(7,0),(9,1),(10,3)]<|Yq (Zo 8 [] (Ya _ ⟨O3,O3⟩)) λ_ _=>?_;refine Yz J J (Ko (Qe [(0,_),(1,_)] J K4 (λa w hs=>Zh4)) K1)<|Yq (Zo 8 [] (Ce 1 2 e g O7 O7 h)) λ_ _=>go 2 ?_;refine Yz J J (Ko (Xf ( .int .i64 0) (Zze J J J) (aD (Value.int .i64) j)) K1)<|go 3 ?_;refine Zu<|go 8<|kt O3<|go 8 ?_;refine tt (Zo2 1 J J J J J J sizeOf28 J J O11 J) J λ_ _=>go 9 ?_;exact Yp k () results316 J aA Za
 .refine Na (Qf 9) λI V=>?_;refine Zi 0 [(1,1),(2,1),(3,0),(4,1),(5,0),(6,0),(7,0),(9,1),(10,3)]<|Yq (Zo 9 [] (Ya _ ⟨O3,O3⟩)) λ_ _=>Yq (Zo 9 [] (Ya _ ⟨O3,O3⟩)) λ_ _=>?_;refine Yz J J (Ko (Qe [(0,_),(1,_)] J K4 (λa w hs=>Zh4)) K1)<|Yq (Zo 9 [] (Ce 1 2 e g O7 O7 h)) λ_ _=>go 2 ?_;refine Yz J J (Ko (Xf ( .int .i64 0) (Zze J J J) (aD (Value.int .i64) j)) K1)<|go 3 ?_;refine Zu<|go 8<|kt O3<|go 8 ?_;refine tt (Zo2 1 J J J J J J sizeOf28 J J O11 J) J λ_ _=>go 9 ?_;exact Yp k () results316 J aA Za
abbrev RZ:=(Bool×ByteArray)×(Bool×ByteArray)
abbrev Q0:RZ:=((false,⟨#[]⟩),(false,⟨#[]⟩))
noncomputable def qx (z:RZ):Int:=if h:okR z.1.1 z.1.2 z.2.1 z.2.2=true then(Yko h).choose else 0
noncomputable def qy (z:RZ):Int:=if h:okR z.1.1 z.1.2 z.2.1 z.2.2=true then(Yko h).choose_spec.choose else 0
theorem Zpa(x y x2 y2:Int)(u:0<y)(p:0<y2)(q:bl x.natAbs<=65536:=by omega)(s:bl y.natAbs<=65536:=by omega)(g:bl x2.natAbs<=65536:=by omega)(h:bl y2.natAbs<=65536:=by omega):Xp prog 251 #[rX x y,rX x2 y2] [] (.agg #[.bool (decide ((slow (x,y)).1<0)),.string (Qy (slow (x,y)).1.natAbs),.bool (decide ((slow (x,y)).2<0)),.string (Qy (slow (x,y)).2.natAbs),.bool (decide ((slow (x2,y2)).1<0)),.string (Qy (slow (x2,y2)).1.natAbs),.bool (decide ((slow (x2,y2)).2<0)),.string (Qy (slow (x2,y2)).2.natAbs)]):=by refine Zg func251 ntmps251 λG F B e=>go 2 ?_;refine Yj (Yg 1) λt _=>Yj (Yg 2) λj _=>Yj (Yd 3) λk _=>go 8 ?_;refine cl 3 [] (Zfg q s) λ_ _=>go 3<|Yj (Yd 4) λl _=>go 10 ?_;refine cl 4 [] (Zfg g h) λ_ _=>go 3<|Yj (Yd 5) λn _=>go 8 ?_;refine dt (Qe [(0,_),(1,_)] J K4 (λa w hs=>Yt6))<|go 4 ?_;exact Yp e () results251 J aA Za
theorem Zue(k:Vp xs)(n:xs≠[]):Cal prog 360 #[v] [Yl 2 wv v xs] true (G:=Value) (λr=>True) (λr=> .tuple #[r,.int .i64 0]) (λr=>[Yl 2 wv r (Xg xs)]):=by
 refine Zg func360 ntmps360 λw u t g=>?_;have e:=Lu k;have q:=aI.2 n;have s:=Yi xs;have l:=k.len;refine go 9 ?_;refine cl 2 [1] (Nr k) λ_ _=>go 11<|kt O3<|go 3<|ktg (aH O)<|go 6 ⟨O,?_⟩;refine Di (Zs 2 ((Yf xs).length-1) J J J J Zl Pw Ov) J J<|go 1 ⟨O2,?_⟩;refine Gi 2 [] (Hj (e.sz _)) λ_ _=>go 4<|Ze J (λj=>?_) (λj=>?_)
 .refine go 3 ?_;refine cl 2 [] (Ya _ ⟨O3,O3⟩) λ_ _=>cl 3 [2] (Nf _ _ e O7 (λi=>Zcm e.sz i)) λ_ _=>go 8 ?_;exact Nd g _ results360 J aA (Pb 3 Za (by rw [Zkw O ((Py _).1 ‹_›)]<;>rfl))
 .refine go 11 ?_;exact Nd g _ results360 J aA (Pb 2 Za (by rw [Zkv (λh=>by have p:=(Py _).2 h;exact absurd p ‹_›)]<;>rfl))
theorem sg_odd(g:Cvd xs)(l:xs≠[]):Cal prog 310 #[v] [Yl 2 wv v xs] true (G:=Value) (λr=>True) (λr=> .tuple #[r,.int .i64 0]) (λr=>[Yl 2 wv r (Ij xs)]):=by
 refine Zg func310 ntmps310 λw0 sc hw u=>?_;refine Zf (Qp 999 2 144 wv)<|Zf (Xa 999 J J pV)<|go 9 ?_;refine cl 2 [1] (Zue g.v l) λ_ _=>go 11<|kf O3<|go 7 ?_;refine tt (Xc [(0,_)] 3 (enc:=Zz) ([1]:List Int) J J K2 Qi ti3 J J J J J pZ.cells J J hw.h) J (λv _=>?_);refine Yk (Xa 3 J J pZ)<|cl 4 [3] (Zak (λx h=>by rw [cF.1 h];exact⟨O3,O3⟩)) λ_ _=>go 18<|Zf (Xm 2 80 J J J)<|Zf (Xm 4 81 J J J)<|Zf (Xm 999 82 J J J) ?_;refine lp (G:=Value×Value×Value×List Int×List Int×List Int×Nat) [] [0,1,999,2,3,4] (λq=>[(4,q.1),(6,q.2.1),(8,q.2.2.1),(9,.int .i64 (q.2.2.2.2.2.2:Int))]) (λq=>[(80,Yl 2 wv q.1 q.2.2.2.1),(81,Yl 2 wv q.2.1 q.2.2.2.2.1),(82,Yl 2 wv q.2.2.1 q.2.2.2.2.2.1)]) (λq=>(OddI xs q.2.2.2.2.2.2 q.2.2.2.1 q.2.2.2.2.1 q.2.2.2.2.2.1)/\(1<=q.2.2.2.2.2.2)/\(q.2.2.2.2.2.2+q.2.2.2.1.length<=12)) (λq=>q.2.2.2.1.length) (_,_,_,Xg xs,[1],[],1) ⟨OddI.start g l,O1,by have:=Pt g.v.tr;have:=g.l;dsimp only;omega⟩ ⟨J,J,J,J,aA⟩ ⟨J,J,J,aA⟩ ?_;rintro⟨vr,vo,vb,e,b2,H,t⟩ ⟨n,M,N⟩;dsimp only at n M N;dsimp only;obtain⟨w,a2,a3,a4,a5,a6,a7,a8,a9,p,B,F,V,W,a0,b0,j,b1⟩:=Zeb g l (n.dp g l);obtain⟨o1,o2,o3⟩:=n.out g l;refine go 5 ?_;refine cl 5 [80] (Zal w a3) λ_ _=>go 11<|kf O3<|go 9 ?_;refine cl 6 [80,5] (Zvc w a4 13 a5 a6) λ_ _=>?_;refine Yk (Oy 6 (q:=Yl 2 wv _ (Om 13 e)) (aD (Yl 2 wv _) a7) J J)<|go 11<|kf O3<|go 9 ?_;refine cl 7 [80,6] (Zda w a8 a9) λ_ _=>?_;refine Yk (Oy 7 (q:=Yl 2 wv _ (sqf 13 e)) (aD (Yl 2 wv _) ((aP p).trans B)) J J)<|go 11<|kf (aE (λh=>h (aP p)))<|go 9 ?_;refine dt (Znr J J J O O)<|go 3 ?_;refine Ze J (λI=>?_) (λI=>?_)
 .have S:t%2=0:=O;obtain⟨e1,e2,P,e4,e5,Q,R,e8⟩:=n.even g l S;refine go 4 ?_;refine cl 8 [82,7] (Zda e1 F e2) λ_ _=>?_;refine Yk (Oy 8 (q:=Yl 2 wv _ (Lv H (sqf 13 e))) (aD (Yl 2 wv _) (aP P)) J J)<|go 11<|kf (aE (λh=>h (aP P)))<|go 9 ?_;refine cl 9 [81,8] (Zmk _ _ o1 e4 e5) λ_ _=>go 10<|kf O3<|go 13<|Ze J (λs=>?_) (λs=>?_)
  .refine go 13 ?_;exact Nd u _ results310 J aA (Pb 9 Za (by first|(rw [n.odd_end g l O O]<;>rfl)|(rw [Q O]<;>rfl)))
  .refine go 15 ⟨O,?_⟩;exact Zn (Xm 6 80 J J J)<|Zn (Xm 9 81 J J J)<|Zn (Xm 7 82 J J J)<|Ye (_,_,_,Om 13 e,_,sqf 13 e,t+1) ⟨by first|exact n.odd_next O O|exact R O,O1,by have:=j O;dsimp only;omega⟩ (j O) K4 K3
 .have S:t%2=1:=O;refine go 10<|Ze J (λk=>?_) (λk=>?_)
  .refine go 13 ?_;exact Nd u _ results310 J aA (Pb 81 Za (by first|(rw [n.odd_end g l O O]<;>rfl)|(rw [Q O]<;>rfl)))
  .refine go 15 ⟨O,?_⟩;exact Zn (Xm 6 80 J J J)<|Zn (Xm 7 82 J J J)<|Ye (_,_,_,Om 13 e,_,sqf 13 e,t+1) ⟨by first|exact n.odd_next O O|exact R O,O1,by have:=j O;dsimp only;omega⟩ (j O) K4 K3
theorem sg_of(s:Cvd xs):Cal prog 250 #[v] [Yl 2 wv v xs] true (G:=Value×List (SL×List Int)×Value×List (SL×List Int)) (λr=>r.2.1.map Prod.snd=Pr xs/\r.2.2.2.map Prod.snd=Aa xs) (λr=> .tuple #[.agg #[r.1,r.2.2.1],.int .i64 0]) (λr=>[Xv 1 Nm qZ r.1 r.2.1,Xv 1 Nm qZ r.2.2.1 r.2.2.2]):=by
 refine Zg func250 ntmps250 λw0 sc V B=>?_;refine Zcw (Xj 1 J Zl) (λsv H=>?_);subst H;have hv:=s.v;refine Zf (Qp 999 2 144 wv)<|Zf (Xa 999 J J pV)<|go 2<|Yj (Yd 2) λbx _=>go 5<|Yj (Yd 3) λt _=>go 10<|Ze J (λj=>?_) (λj=>?_)
 .refine go 9<|Zn (Qp 70 1 140 (Nm (α:=List Int)))<|Zn (Yh qZ 71)<|Zn (Xa 70 J J pS)<|Zn (Xe 70 71 72 J J J J) ?_;exact Nd B (.slice none 0 0,[],.slice none 0 0,[]) results250 J ⟨(Zp2 O).symm,(Ytg O).symm⟩ (Pb 72 (Pb 72 Za))
 .have S:xs≠[]:=λe=>by rw [e]at j;simp at j
  obtain⟨W,q2,q3,q4,q5⟩:=Zcc s S;refine go 11<|Zf (Qp 70 1 140 (Nm (α:=List Int)))<|Zf (Yh qZ 71)<|Zf (Xm 1 80 J J J) ?_;refine lp (G:=List (SL×List Int)×SL×List Int×Value×Nat) [0,2,4] [0,1,999,2] (λq=>[(5,Xd q.2.1)]) (λq=>[(70,Oe 1 140 Nm q.2.2.2.1 q.1),(71,Nw qZ q.1),(80,Yl 2 wv (Xd q.2.1) q.2.2.1),(3,box t 336 #[q.2.2.2.1,.slice none 0 0])]) (λq=>(Vp q.2.2.1)/\(Sz q.2.2.2.2 q.2.2.1)/\(q.2.2.2.2+5*q.2.2.1.length<=260)/\(q.1.length+q.2.2.1.length<=11)/\(q.1.map Prod.snd ++ Pr q.2.2.1=Pr xs)) (λq=>q.2.2.1.length) ([],sv,xs,_,205) ⟨hv,s.s,by have:=s.l;dsimp only;omega,by have:=s.l;simp;omega,rfl⟩ K1 K4 ?_;rintro⟨R,Q,y,vo,k⟩ ⟨M,n,hk,P,l⟩;dsimp only at M n hk P l;dsimp only;refine go 8<|Ze J (λu=>?_) (λu=>?_)
  .refine go 4 ?_;have a0:=Of y;have w:∀i,bl (cf y (i+1)*((i:Int)+1)).natAbs<=65536:=λi=>by have h:=Fe n O i;rw [Zh0]at h;omega
   refine go 4 ?_;refine tt (Xc [(0,_)] 4 (enc:=Nm) [(Q,y)] J J K2 Zoy ti140 J J J J J pS.cells J J V.h) J (λv _=>?_);refine tt (Pk 70 4 24 J J J J J J O3 J (Yb pS) Zoy ti140 J pS J J J O8 O3 J V.h) J λa1 _=>go 7 ?_;refine cl 84 [80] (Zal M w) λ_ _=>?_;refine Zm9 (Xj 84 J Zl) (λsn F=>?_);subst F;refine go 10<|kf O3<|go 5<|Zn (Zm (q:=qZ) (z:=(Q,y)) 71 80 71 J J J J J)<|Zn (Xm 84 80 J J J) ?_;exact Ye (R ++ [(Q,y)],sn,Xh y,_,k+5) ⟨Zga M (λi _=>w i),Fe n O,O9,by dsimp only;simp;omega,by dsimp only;rw [cI,gU,<-l,Zeq (p:=y) O];rfl⟩ O9 K1 K4
  .refine go 6 ?_;have N:y.length=0:=O;have I:R.map Prod.snd=Pr xs:=by rw [<-l,Zp2 N,eU]
   refine Zf (Xa 70 J J pS)<|Zf (Xe 70 71 72 J J J J)<|go 2 ?_;refine cl 5 [1] (sg_odd s S) λ_ _=>go 11<|kf O3<|go 8 ?_;refine cl 6 [5] (Yhr q2 W.one q5 13 W.ok) λg hg=>go 17 ?_;exact Nd B (_,R,_,g.2) results250 J ⟨I,(hg).trans (Zs1 O).symm⟩ (Pb 72 (Pb 6 Za))
theorem Zug(x y x2 y2:Int)(u:0<y)(j:0<y2)(B:Vp xs)(w:Zc1 xs 0)(n:efit (x,y)=true)(p:efit (x2,y2)=true)(q:bl x.natAbs<=65536:=by omega)(s:bl y.natAbs<=65536:=by omega)(e:bl x2.natAbs<=65536:=by omega)(g:bl y2.natAbs<=65536:=by omega):Xp prog 249 #[v,rX x y,rX x2 y2,.slice none 0 0] [Yl 2 wv v xs] (.int .i64 (if 0<cmp (x,y) (x2,y2)then 3 else 0)):=by
 refine Zg func249 ntmps249 λM I H k=>?_;refine Zf (Qp 999 2 144 wv)<|Zf (Xa 999 J J pV)<|go 2<|Yj (Yg 2) λF _=>Yj (Yg 3) λt _=>go 7 ?_;refine cl 3 [1] (Xt ‹_›) λ_ _=>?_;refine dt (dF (Qn J J) (vB O3))<|go 2 ?_;refine Gi 3 [] (Lt q s u) λ_ _=>?_;refine Di (dF (Qn J J) (vB O3)) J J<|go 3 ?_;refine Gi 3 [] (Lt e g j) λ_ _=>?_;refine Di (dF (Qn J J) (vB O3)) J J<|go 4 ?_;refine kfg O3<|go 9 ?_;refine cl 3 [1] (Yig B) λ_ _=>?_;refine dt (dF (d_not J J) (vB (aE (λh=>h w))))<|go 2 ?_;refine Gi 3 [] (Zly q s) λ_ _=>?_;refine Di (dF (Qn J J) (vB (by rw [n];rfl))) J J<|go 3 ?_;refine Gi 3 [] (Zly e g) λ_ _=>?_;refine Di (dF (Qn J J) (vB (by rw [p];rfl))) J J<|go 13 ?_;refine lp (G:=Unit) [5,6,43,44] [0,1,999,2,3] (λ_=>[(45,.int .i64 0),(9,.bool false)]) (λ_=>[]) (λ_=>True) (λ_=>0) () aA K2 aA ?_;rintro _ -;refine go 2<|kf O3<|go 14 ?_;refine cl 3 [] (Zlz q s e g u j) λ_ _=>go 3<|Ze J (λl=>?_) (λl=>?_)
 .refine go 7 ?_;exact Yp k () results249 (by rw [aP ‹_›]) aA Za
 .refine go 17 ?_;exact Yp k () results249 (by rw [aJ ‹_›]) aA Za
theorem Ypy{h k:Nat}{p q s t:Value}(a b m:R2)(B:bl m.1.natAbs<=65536)(F:bl m.2.natAbs<=65536)(u:0<m.2)(g:∀z∈ls,Vp z.2)(e:∀z∈ls,¬Ha z.2 m.1 m.2):Zz4 prog 255 #[.agg #[.bool (decide (a.1<0)),.string (Qy a.1.natAbs),.bool (decide (a.2<0)),.string (Qy a.2.natAbs),.bool (decide (b.1<0)),.string (Qy b.1.natAbs),.bool (decide (b.2<0)),.string (Qy b.2.natAbs)],rX m.1 m.2,.pointer (some ⟨h,0,none⟩),.pointer (some ⟨k,0,none⟩),.pointer (some ⟨bs,0,none⟩)] [Hm bs 340 #[.int .i64 0],Hm k 336 #[v1,v2],Xv 1 Nm qZ v1 ls,Xv 1 Nm qZ v2 cs] (box h 259 #[p,q,s,t]) (G:=Unit) (λ_=>True) (λ_=> .bool (decide (vlu (ls.map Prod.snd) (m.1,m.2)<0))) (λ_=>box h 259 #[.bool (decide (m.1<0)),.string (Qy m.1.natAbs),.bool (decide (m.2<0)),.string (Qy m.2.natAbs)]):=by refine Zh1 func255 J ntmps255 J K4 ?_;intro M I n j;have n:=Hw.mk n;simp only [Pv,Xk];refine go 2<|Yj (Yg 6) λH _=>Yj (Yg 7) λl _=>go 13 ?_;refine cl 7 [4,5,2] (Zlx _ _ B F u g e) λ_ _=>go 5 ?_;exact Aj (.inl J) j () (λa w hs=>Zeu hs results255 J) J aA 1 J J J J (Zp 2 J J J (Zp 3 J J J (Zp 4 J J J (Zp 5 J J J Zq))))
theorem Zok{F bc:Nat}(xs:List Int)(k l:R2)(s t:Rat){I M N P:Value}(h:Cvd xs)(Q:xs≠[])(g:ls.map Prod.snd=Pr xs)(e:cs.map Prod.snd=Aa xs)(R:NIn xs s t 0 k l):Zz4 prog 254 #[.agg #[v1,v2],.pointer (some ⟨bs,0,none⟩),.agg #[.bool (decide (k.1<0)),.string (Qy k.1.natAbs),.bool (decide (k.2<0)),.string (Qy k.2.natAbs),.bool (decide (l.1<0)),.string (Qy l.1.natAbs),.bool (decide (l.2<0)),.string (Qy l.2.natAbs)],.func (.func 255) #[] #[.pointer (some ⟨F,0,none⟩),.pointer (some ⟨bc,0,none⟩),.pointer (some ⟨bs,0,none⟩)]] [Hm bs 340 #[.int .i64 0],Hm bc 336 #[v1,v2],Xv 1 Nm qZ v1 ls,Xv 1 Nm qZ v2 cs] (box F 259 #[I,M,N,P]) (G:=R2×R2×R2) (λr=>Fnd xs s t r.1) (λr=> .agg #[.bool (decide (r.2.1.1<0)),.string (Qy r.2.1.1.natAbs),.bool (decide (r.2.1.2<0)),.string (Qy r.2.1.2.natAbs),.bool (decide (r.2.2.1<0)),.string (Qy r.2.2.1.natAbs),.bool (decide (r.2.2.2<0)),.string (Qy r.2.2.2.natAbs)]) (λr=>box F 259 #[.bool (decide (r.1.1<0)),.string (Qy r.1.1.natAbs),.bool (decide (r.1.2<0)),.string (Qy r.1.2.natAbs)]):=by
 refine Zh1 func254 J ntmps254 J K4 ?_;intro w0 sc V S;have V:=Hw.mk V;simp only [Pv,Xk];refine go 2<|Yj (Yg 6) λbx _=>Yj (Yg 7) λn _=>Yj (Yd 8) λa1 _=>go 4 ?_;refine lp (G:=R2×R2×Nat×Value×Value×Value×Value) [1,3,4,6,8] [0,2,3,4,5,6,8] (λq=>[]) (λq=>[(7,box n 342 #[.bool (decide (q.1.1<0)),.string (Qy q.1.1.natAbs),.bool (decide (q.1.2<0)),.string (Qy q.1.2.natAbs),.bool (decide (q.2.1.1<0)),.string (Qy q.2.1.1.natAbs),.bool (decide (q.2.1.2<0)),.string (Qy q.2.1.2.natAbs)]),(1,box F 259 #[q.2.2.2.1,q.2.2.2.2.1,q.2.2.2.2.2.1,q.2.2.2.2.2.2])]) (λq=>NIn xs s t q.2.2.1 q.1 q.2.1) (λq=>5436-q.2.2.1) (k,l,0,I,M,N,P) R aA K2 ?_;rintro⟨a,b,j,I,M,N,P⟩ H;dsimp only at H;dsimp only;obtain⟨r1,r2,r3,r4,r5,W,r7⟩:=H.round h Q;rw [<-g]at r5 W r7;rw [<-e]at W r7;refine go 7<|kt O3<|go 13 ?_;refine cl 8 [2] (Yev a.1 a.2 b.1 b.2 O O O O r3.2.2 r4.2.2 r1) λ_ _=>Yj (Yd 9) λa2 _=>go 9 ?_;refine tt (Zgi 1 [] [_,_] [_,_,_] (Ypy a b (Nh a b) O O r2.2.2 (Li g (λq B=>(Cb h q B).1)) (Li g (Zdo h (m:=(Nh a b)) O O).1)) J J J J K2 call255 J J O3 (Zp 2 J J J (Zp 3 J J J (Zp 4 J J J (Zp 5 J J J Zq)))) J V.h (λ_ _=>trivial)) J λ_ _=>go 2 ?_;refine Ze J (λp=>?_) (λp=>?_)
 .refine go 13 ?_;exact Aj (.inl J) S (Nh a b,a,b) (λa w hs=>Zeu hs results254 (Er 8 J J isAgg342 sizeOf342 J)) J (r5 ‹_›) 1 J J J J (Zp 2 J J J (Zp 3 J J J (Zp 4 J J J (Zp 5 J J J Zq))))
 .refine go 9 ?_;refine cl 9 [4,5,2] (Zc2 a.1 a.2 (Nh a b).1 (Nh a b).2 r3.2.2 r2.2.2 (Li g (λq B=>(Cb h q B).1)) (Li g (Zdo h (m:=a) O O).1) (Li e (λq B=>(Zhy h q B).1)) (Li e (Zdo h (m:=a) O O).2) (Li e (Zdo h (m:=(Nh a b)) O O).2) (by have h7:=aD List.length e;rw [aW]at h7;have:=Zk7 xs;omega)) λ_ _=>go 2<|Pe J (λu=>?_) (λu=>?_)
  .refine go 6 ?_;exact Ye (a,Nh a b,j+1,_,_,_,_) (W ‹_› ‹_›) (by have:=H.j h Q;dsimp only;omega) aA K2
  .refine go 6 ?_;exact Ye (Nh a b,b,j+1,_,_,_,_) (r7 ‹_› ‹_›) (by have:=H.j h Q;dsimp only;omega) aA K2
theorem Hg(a b:R2)(l:Cvd xs)(p:E32 a)(s:E32 b)(hc:¬0<cmp a b)(V:ngb (Pr xs) (Aa xs) a b=true):Cal prog 175 #[v,rX a.1 a.2,rX b.1 b.2] [Yl 2 wv v xs] false (G:=R2) (λr=>Fnd xs (qv a) (qv b) r) (λr=> .tuple #[rX r.1 r.2,.bool true,.int .i64 0]) (λr=>[]):=by
 refine Zg func175 ntmps175 λw0 sc hw N=>?_;have b0:=p.b1;have b1:=p.b2;have u:=p.p;have b2:=s.b1;have b3:=s.b2;have w:=s.p;have I:=Yta p s hc;have h0:=ngb_ne V;have Q:=Yso p s;have a9:([slow a,slow b]:List R2).length=2:=rfl;refine Zf (Qp 999 2 144 wv)<|Zf (Xa 999 J J pV)<|go 2<|Yj (Yg 2) λbx _=>Yj (Yg 3) λa0 _=>Yj (Yd 4) λa1 _=>go 10 ?_;refine cl 4 [1] (Zug a.1 a.2 b.1 b.2 u w l.v (Zw1 l O) p.efit s.efit) λ_ _=>go 6<|kf (aE (λh=>h (aJ hc)))<|go 8 ?_;refine cl 5 [1] (sg_of l) λg hg=>?_;obtain⟨e,j⟩:=hg;refine go 3<|Yj (Yd 7) λa2 _=>go 8<|kf O3<|go 7<|Yj (Yd 8) λa3 _=>go 6 ?_;refine cl 8 [] (Zpa a.1 a.2 b.1 b.2 u w) λ_ _=>Yj (Yd 9) λa4 _=>go 8 ?_;refine cl 9 [5,6,8] (Zc2 a.1 a.2 b.1 b.2 u w (Li e (λq M=>(Cb l q M).1)) (Li e (Zdo l (m:=a) O O).1) (Li j (λq M=>(Zhy l q M).1)) (Li j (Zdo l (m:=a) O O).2) (Li j (Zdo l (m:=b) O O).2) (by have h7:=aD List.length j;rw [aW]at h7;have:=Zk7 xs;omega)) λ_ _=>go 8<|kf O3<|go 2 ?_;refine Di (dF (Qn J J) (vB (by rw [e,j];show(!ngb (Pr xs) (Aa xs) a b)=false;rw [V];rfl))) J J<|go 13 ?_;refine tt (Xc [(0,_),(1,_)] 10 (enc:=rq) ([slow a,slow b]:List R2) J J K4 underlying346 ti259 J J fill24 J J pQ.cells J J hw.h) J λv _=>go 5 ?_;refine lp (G:=Nat) [6,10,12,13,56,57] [0,1,999,2,3,4,5,6,7,8,9,10] (λi=>[(58,.int .i64 (i:Int))]) (λi=>[]) (λi=>(i<=2)/\(∀k,k<i->¬vlu (g.2.1.map Prod.snd) ([slow a,slow b].getD k (0,0))<0)) (λi=>2-i) 0 ⟨O1,λk hk=>absurd hk (aR k)⟩ K1 aA ?_;rintro i ⟨hi,W⟩;refine go 6<|Ze J (λB=>?_) (λB=>?_)
 .refine go 7 ⟨O2,?_⟩;refine dt (Yr 10 (0,0) J J J (Yb pQ) pQ O2)<|Yj (Yd 11) λa5 _=>go 4 ?_;have t:=Q i O;have a7:=t.b1;have a8:=t.b2;refine go 3 ?_;refine cl 11 [5,6,8] (Zlx ([slow a,slow b].getD i (0,0)).1 ([slow a,slow b].getD i (0,0)).2 O O t.p (Li e (λq M=>(Cb l q M).1)) (Li e (Zdo l (m:=([slow a,slow b].getD i (0,0))) O O).1)) λ_ _=>go 3<|Ze J (λF=>?_) (λF=>?_)
  .refine go 1<|Qw [8,11] [5] ?_;refine Zi 0 [(0,0),(1,0),(2,0),(3,1),(4,0),(5,3)]<|go 7 ?_;exact Zu<|go 7<|xe3 N ([slow a,slow b].getD i (0,0)) results175 J (Yrb p s I O (by rw [<-e];assumption)) Za
  .refine go 7 ⟨O,?_⟩;exact Ye (i+1) ⟨O1,λk S=>by rcases aN.1 S with n|n;exact W k n;subst n;assumption⟩ O1 K1 aA
 .refine go 6 ?_;have R:=Yfj l p s I (by have n:=W 0 O;rw [e]at n;exact n) (by have n:=W 1 O;rw [e]at n;exact n) V;refine go 1<|Yj (Yd 12) λa6 _=>go 6 ?_;refine dt (Yc2 [] [_,_,_] J aA K3)<|tt (Zgi 12 [] [_,_,_,_] [] (Zok xs (slow a) (slow b) (qv a) (qv b) l h0 e j R) J J J J K4 call254 J J O3 (Ziq 8 J J (Ziq 7 J J (Zp 5 J J J (Zp 6 J J J Zq)))) J hw.h (λ_ _=>trivial)) J λP H=>go 7 ?_;exact kf O3<|go 14<|xe3 N (P.1) results175 J H Za
theorem Ga(a b:R2)(j:Cvd xs)(p:E32 a)(s:E32 b)(S:¬0<cmp a b)(W:ngb (Pr xs) (Aa xs) a b=false):Xp prog 175 #[v,rX a.1 a.2,rX b.1 b.2] [Yl 2 wv v xs] (.tuple #[.agg #[.bool false,.string ⟨#[]⟩,.bool false,.string ⟨#[]⟩],.bool false,.int .i64 0]):=by refine Zg func175 ntmps175 λw0 sc hw u=>?_;have N:=p.b1;have P:=p.b2;have k:=p.p;have Q:=s.b1;have R:=s.b2;have l:=s.p;refine Zf (Qp 999 2 144 wv)<|Zf (Xa 999 J J pV)<|go 2<|Yj (Yg 2) λbx _=>Yj (Yg 3) λB _=>Yj (Yd 4) λF _=>go 10 ?_;refine cl 4 [1] (Zug a.1 a.2 b.1 b.2 k l j.v (Zw1 j O) p.efit s.efit) λ_ _=>go 6<|kf (aE (λh=>h (aJ S)))<|go 8 ?_;refine cl 5 [1] (sg_of j) λg V=>?_;obtain⟨n,e⟩:=V;refine go 3<|Yj (Yd 7) λG _=>go 8<|kf O3<|go 7<|Yj (Yd 8) λH _=>go 6 ?_;refine cl 8 [] (Zpa a.1 a.2 b.1 b.2 k l) λ_ _=>Yj (Yd 9) λI _=>go 8 ?_;refine cl 9 [5,6,8] (Zc2 a.1 a.2 b.1 b.2 k l (Li n (λq t=>(Cb j q t).1)) (Li n (Zdo j (m:=a) O O).1) (Li e (λq t=>(Zhy j q t).1)) (Li e (Zdo j (m:=a) O O).2) (Li e (Zdo j (m:=b) O O).2) (by have M:=aD List.length e;rw [aW]at M;have:=Zk7 xs;omega)) λ_ _=>go 8<|kf O3<|go 2 ?_;refine Di (dT (Qn J J) (vB (by rw [n,e];show(!ngb (Pr xs) (Aa xs) a b)=true;rw [W];rfl))) J J<|go 5 ?_;refine Qw [8] [5]<|Zi 0 [(0,0),(1,0),(2,0),(3,1),(4,0),(5,3)]<|Yz J J (Ko (Qe [] J aA (λa w hs=>Zxh)) K1)<|go 6 ?_;exact Zu<|go 3<|xe3 u () results175 J aA Za
theorem ve_ins(l:List Int)(m:Int)(t:0<=m/\m<=16777216):Xp prog 161 #[.int .i64 m,v] [Yl 1 Zz v l] (.bool (Zyy m l)):=by
 refine Zg func161 ntmps161 λB w u e=>?_;refine Xz (Oa (i:=1) J Zl) λp=>go 14 ?_;refine lp (G:=Nat) [0,7,8] [0,1] (λk=>[(9,.int .i64 (k:Int))]) (λk=>[]) (λk=>(k<=l.length)/\(∀i,i<k->-m<=l.getD i 0/\l.getD i 0<=m)) (λk=>l.length-k) 0 ⟨O1,λi hi=>absurd hi (aR i)⟩ K1 aA ?_;rintro k ⟨s,q⟩;refine go 6<|Ze J (λg=>?_) (λg=>?_)
 .refine go 15 ⟨O2,O2,?_⟩;refine dt (Ym6 J J)<|go 2 ?_;refine Zy 17 J (λn=>?_) (λn=>?_)
  .refine go 18 ?_;exact Yp e () results161 (by rw [Ylv k O O]) aA Za
  .refine go 6<|Ze J (λh=>?_) (λh=>?_)
   .refine go 11 ?_;exact Yp e () results161 (by rw [Ylv k O O]) aA Za
   .refine go 7 ⟨O,?_⟩;exact Ye (k+1) ⟨O1,λi hi=>by rcases aN.1 hi with j|j;exact q i j;subst j;exact⟨O,O⟩⟩ O1 K1 aA
 .refine go 11 ?_;exact Yp e () results161 (by rw [insB_t λi hi=>q i O]) aA Za
theorem Yg1(x y z:Int):Xp prog 87 #[.agg #[.int .i64 x,.int .i64 y,.int .i64 z]] [] (.bool (ptB x y z)):=by refine Zg func87 ntmps87 λk j g e=>go 2 ?_;refine Yj (Yg 1) λh _=>go 11 ?_;refine tt (Xc [(0,_),(1,_),(2,_)] 2 (enc:=Zz) ([x,y,z]:List Int) J J K6 Qi ti3 J J J J J pZ.cells J J g.h) J λv _=>cl 2 [2] (ve_ins [x,y,z] 1048576 ⟨O3,O3⟩) λ_ _=>go 4 ?_;exact Yp e () results87 J aA Za
theorem Zwl:Xp prog 103 #[.agg #[.int .i64 zd,.int .i64 zn,.int .i64 ze]] [] (.bool (znB zd zn ze)):=by
 refine Zg func103 ntmps103 λq p n e=>go 2 ?_;refine Yj (Yg 1) λl _=>go 9<|Zy 6 J (λk=>?_) (λk=>?_)
 .refine go 5<|Zy 11 J (λg=>?_) (λg=>?_)
  .refine go 5<|Zy 16 J (λh=>?_) (λh=>?_)
   .refine go 7<|Zy 23 J (λj=>?_) (λj=>?_)
    .refine go 8 ?_;exact Yp e () results103 (by unfold znB;first|(simp_all;done)|(simp_all;omega)) aA Za
    .refine go 8 ?_;exact Yp e () results103 (by unfold znB;first|(simp_all;done)|(simp_all;omega)) aA Za
   .refine go 15 ?_;exact Yp e () results103 (by unfold znB;first|(simp_all;done)|(simp_all;omega)) aA Za
  .refine go 20 ?_;exact Yp e () results103 (by unfold znB;first|(simp_all;done)|(simp_all;omega)) aA Za
 .refine go 25 ?_;exact Yp e () results103 (by unfold znB;first|(simp_all;done)|(simp_all;omega)) aA Za
theorem Ysp{fr Q:Int}{R S V n p s:Value}{x:List Int}(l:Sgo fr Q ov x y z)(j:Sgo fr2 to2 ov2 x2 y2 z2)(hA:∀i,Ab KA (tzl (Zt i x y z)))(B:∀i,Ab KA (tzl (Zt i x2 y2 z2)))(I:znB zd zn ze=true):Cal prog 257 #[.agg #[.int .i64 fr,.int .i64 Q,.int .i64 ov,R,S,V],.agg #[.int .i64 fr2,.int .i64 to2,.int .i64 ov2,n,p,s],.agg #[.int .i64 zd,.int .i64 zn,.int .i64 ze]] [Yl 1 Zz R x,Yl 1 Zz S y,Yl 1 Zz V z,Yl 1 Zz n x2,Yl 1 Zz p y2,Yl 1 Zz s z2] true (G:=SL×List Int) (λg=>g.2=fmZ zd zn ze ov ov2 x y z x2 y2 z2) (λg=>Xd g.1) (λg=>[Yl 2 wv (Xd g.1) g.2]):=by
 refine Zg func257 ntmps257 λw0 sc hw F=>?_;have k:=fzX l j hA B I;refine go 2<|Yj (Yg 7) λbx _=>Yj (Yg 8) λM _=>Yj (Yg 9) λN _=>go 5 ?_;refine tt (Xc [(0,_)] 10 (enc:=Zz) ([-1]:List Int) J J K2 Qi ti3 J J J J J pZ.cells J J hw.h) J (λv _=>?_);refine Yk (Xa 10 J J pZ)<|cl 11 [10] (Zak (λa ha=>by rw [cF.1 ha];exact⟨O3,O3⟩)) λ_ _=>?_;refine Yk (Oy 11 (q:=Yl 2 wv _ [-1]) (aD (Yl 2 wv _) tzlm1) J J)<|go 18 ?_;refine dt (Qe [(0,_),(1,_),(2,_),(3,_)] J K8 (λa w hs=>Ygk ((Zk J) a w hs) ((Zk J) a w hs) ((Zk J) a w hs) ((Zk J) a w hs)))<|go 4 ?_;refine Zf (Xm 11 80 J J J)<|lp (G:=Nat×Value) [3,4,5,30] [0,1,2,3,4,5,6,7,8,9,10,11] (λq=>[(31,.int .i64 (q.1:Int)),(7,q.2)]) (λq=>[(80,Yl 2 wv q.2 (ngC [zd,ze,ov,ov2] q.1))]) (λq=>q.1<=4) (λq=>4-q.1) (0,_) O1 K2 K1 ?_;rintro⟨i,vs⟩ hi;dsimp only at hi;dsimp only;have h:=k.N i hi;refine go 6<|Ze J (λt=>?_) (λt=>?_)
 .refine go 6 ?_;refine dt (d_ix4 (i:=i) J J J underlying406 Lm iA3 J O)<|go 7 ?_;refine cl 11 [] (Ya ([zd,ze,ov,ov2].getD i 0) h.inn) λ_ _=>cl 12 [80] (Nf (ngC [zd,ze,ov,ov2] i) ([zd,ze,ov,ov2].getD i 0) h.v h.b h.s) λ_ _=>go 9 ?_;refine cl 12 [] (Ya ([zd,ze,ov,ov2].getD i 0) h.inn) λ_ _=>cl 13 [12] (Nf (Zw (ngC [zd,ze,ov,ov2] i) ([zd,ze,ov,ov2].getD i 0)) ([zd,ze,ov,ov2].getD i 0) h.v2 h.b h.s2) λ_ _=>?_;refine go 11 ⟨O,?_⟩;exact Zn (Xm 13 80 J J J)<|Ye (i+1,_) O1 O1 K2 K1
 .obtain rfl:i=4:=O;refine go 14 ?_;refine dt (Qe [(0,_),(1,_),(2,_)] J K6 (λa w hs=>Zn9 ((Pj 1 J Zl) a w hs) ((Pj 4 J Zl) a w hs) ((Zk J) a w hs)))<|go 6 ?_;refine dt (Qe [(0,_),(1,_),(2,_)] J K6 (λa w hs=>Zn9 ((Pj 2 J Zl) a w hs) ((Pj 5 J Zl) a w hs) ((Zk J) a w hs)))<|go 6 ?_;refine dt (Qe [(0,_),(1,_),(2,_)] J K6 (λa w hs=>Zn9 ((Pj 3 J Zl) a w hs) ((Pj 6 J Zl) a w hs) ((Zk J) a w hs)))<|dt (Qe [(0,_),(1,_),(2,_)] J K6 (λa w hs=>Yob))<|go 4 ?_;refine lp (G:=Nat×Value) [3,4,70] [0,1,2,3,4,5,6,7,8,9,10,11] (λq=>[(71,.int .i64 (q.1:Int)),(7,q.2)]) (λq=>[(80,Yl 2 wv q.2 (smZ zd zn ze ov ov2 x y z x2 y2 z2 q.1))]) (λq=>q.1<=3) (λq=>3-q.1) (0,_) O1 K2 K1 ?_;rintro⟨i,vs⟩ hi;dsimp only at hi;dsimp only;have e:=k.X i;refine go 6<|Ze J (λu=>?_) (λu=>?_)
  .refine go 5<|Zf (Zc5 i 1 2 3 50 J J J J J J)<|Zf (Zc5 i 4 5 6 51 J J J J J J)<|go 1 ?_;refine dt (d_ix9 (i:=i) J J J underlying409 sizeOf408 isAgg408 J O)<|Yj (Yd 14) λP _=>go 7 ?_;refine cl 15 [50] (Zak (l.hc i) (aB (l.lc i).2 O3)) λ_ _=>?_;refine Yk (Oy 15 (q:=Yl 2 wv _ (tzl (Zt i x y z))) (aD (Yl 2 wv _) (aJ (Zge (l.lc i).2))) J J)<|go 11 ?_;refine cl 16 [51] (Zak (j.hc i) (aB (j.lc i).2 O3)) λ_ _=>?_;refine Yk (Oy 16 (q:=Yl 2 wv _ (tzl (Zt i x2 y2 z2))) (aD (Yl 2 wv _) (aJ (Zge (j.lc i).2))) J J)<|go 12 ?_;refine cl 16 [] (Ya ov2 (Zju j)) λ_ _=>cl 17 [15] (Nf _ ov2 e.v1 e.b1 e.s1) λ_ _=>go 11 ?_;refine cl 17 [] (Ya ov (Zju l)) λ_ _=>cl 18 [16] (Nf _ ov e.v2 e.a1 e.s2) λ_ _=>go 10 ?_;refine cl 19 [17,18] (Zva (Zw (tzl (Zt i x y z)) ov2) (Zw (tzl (Zt i x2 y2 z2)) ov) e.v3 e.v4 e.s3) λ_ _=>?_;refine Yk (Oy 19 (q:=Yl 2 wv _ (dfP (Zt i x y z) (Zt i x2 y2 z2) ov ov2)) (aD (Yl 2 wv _) J) J J)<|go 11 ?_;refine cl 19 [] (Ya (Zt i ze ze zn) (k.K i)) λ_ _=>cl 20 [19] (Nf _ (Zt i ze ze zn) e.v5 e.k1 e.s4) λ_ _=>?_;refine Yk (Oy 20 (q:=Yl 2 wv _ (dfK (Zt i x y z) (Zt i x2 y2 z2) ov ov2 (Zt i ze ze zn))) (aD (Yl 2 wv _) J) J J)<|go 10 ?_;refine cl 21 [20,20] (Zmk (dfK (Zt i x y z) (Zt i x2 y2 z2) ov ov2 (Zt i ze ze zn)) (dfK (Zt i x y z) (Zt i x2 y2 z2) ov ov2 (Zt i ze ze zn)) e.v6 e.v6 e.m6) λ_ _=>?_;refine Yk (Oy 21 (q:=Yl 2 wv _ (sqK (Zt i x y z) (Zt i x2 y2 z2) ov ov2 (Zt i ze ze zn))) (aD (Yl 2 wv _) J) J J)<|go 9 ?_;refine cl 22 [80,21] (Zvd (smZ zd zn ze ov ov2 x y z x2 y2 z2 i) (sqK (Zt i x y z) (Zt i x2 y2 z2) ov ov2 (Zt i ze ze zn)) (k.Q.v i O) e.v7 (k.Q.s i O)) λ_ _=>?_;refine Yk (Oy 22 (q:=Yl 2 wv _ (smZ zd zn ze ov ov2 x y z x2 y2 z2 (i+1))) (aD (Yl 2 wv _) J) J J)<|go 11 ⟨O,?_⟩;exact Zn (Xm 22 80 J J J)<|Ye (i+1,_) O1 O1 K2 K1
  .obtain rfl:i=3:=O;refine go 8 ?_;refine cl 23 [80] (Nr (k.Q.v 3 (aF _))) λ_ _=>?_;refine Yk (Oy 23 (q:=Yl 2 wv _ (fmZ zd zn ze ov ov2 x y z x2 y2 z2)) (aD (Yl 2 wv _) J) J J)<|go 13 ?_;refine Zfd (Xj 23 J Zl) (λsq H=>?_);subst H;generalize fmZ zd zn ze ov ov2 x y z x2 y2 z2=W;exact Yp F (sq,W) results257 J J (Pb 23 Za)
theorem Zzb(v:Value)(xs:List Int)(k:Cvd xs)(l:ngb (Pr xs) (Aa xs) (0,1) (1,1)=true):Xp prog 178 #[v] [Yl 2 wv v xs] (.bool true):=by refine Zg func178 ntmps178 λt s q e=>go 7 ?_;refine cl 1 [] (Ek 0 1 ⟨O3,O3⟩ ⟨O3,O3⟩ O3) λ_ _=>go 3<|Yj (Yd 2) λn _=>go 6 ?_;refine cl 2 [] (Ek 1 1 ⟨O3,O3⟩ ⟨O3,O3⟩ O3) λ_ _=>go 3<|Yj (Yd 3) λh _=>go 9 ?_;refine cl 3 [1] (Hg (0,1) (1,1) k Zfa Ze9 Zdq l) λg p=>go 4<|Yj (Yd 4) λj _=>go 12 ?_;exact Yp e () results178 J aA Za
theorem Yf8(v:Value)(xs:List Int)(j:Cvd xs)(k:ngb (Pr xs) (Aa xs) (0,1) (1,1)=false):Xp prog 178 #[v] [Yl 2 wv v xs] (.bool false):=by refine Zg func178 ntmps178 λq p n e=>go 7 ?_;refine cl 1 [] (Ek 0 1 ⟨O3,O3⟩ ⟨O3,O3⟩ O3) λ_ _=>go 3<|Yj (Yd 2) λl _=>go 6 ?_;refine cl 2 [] (Ek 1 1 ⟨O3,O3⟩ ⟨O3,O3⟩ O3) λ_ _=>go 3<|Yj (Yd 3) λg _=>go 9 ?_;refine cl 3 [1] (Ga (0,1) (1,1) j Zfa Ze9 Zdq k) λ_ _=>go 4<|Yj (Yd 4) λh _=>go 12 ?_;exact Yp e () results178 J aA Za
def tmL(a b k:Int):List Int:=if b-a=0\/k=2 then [a]else if k=1 then [a,b-a]else [a,0,0,10*(b-a),-15*(b-a),6*(b-a)]
def tmL_0 (a:Int)(b:Int)(k:Int)(h:b-a=0\/k=2):tmL a b k=[a]:=aP h
def tmL_1{a b k:Int}(h:¬(b-a=0\/k=2))(e:k=1):tmL a b k=[a,b-a]:=(aJ h).trans (aP e)
def tmL_2{a b k:Int}(h:¬(b-a=0\/k=2))(e:k≠1):tmL a b k=[a,0,0,10*(b-a),-15*(b-a),6*(b-a)]:=(aJ h).trans (aJ e)
def sm_bl{M:Nat}(h:x.natAbs<=1000000000000000000000000)(e:80<=M):bl x.natAbs<=M:=aB ((Qo 80 _).2 (aV h O3)) e
theorem pt_and(x y z:Int):ptB x y z=(decide (-1048576<=x/\x<=1048576) && decide (-1048576<=y/\y<=1048576) && decide (-1048576<=z/\z<=1048576)):=by unfold ptB Zyy;simp only [lW,List.all_nil,Bool.and_true,Bool.decide_and,Bool.and_assoc]
theorem i_le{l:List Int}(h:Zb zs=l){n:Nat}(e:l.length<=n):zs.length<=n:=by grind
theorem Ba{l:List Int}(h:Zb zs=l)(e:Vp l):Sz 1000000 (Zb zs):=by rw [h];exact e.sz.mono O
def Gs{l:List Int}(h:Zb zs=l)(g:Vp l){n:Nat}(e:25<=n):zs.length<=n:=i_le h (aB g.len e)
abbrev TzT:=SL×List (Int×SL)
def sqF(ov ov2:Int)(x y z x2 y2 z2:List Int)(i:Nat):List Int:=sqP (Zt i x y z) (Zt i x2 y2 z2) ov ov2
def sqR(ov ov2:Int)(x y z x2 y2 z2:List Int):Nat->List (List Int)
 | 0=>[]
 | i+1=>sqR ov ov2 x y z x2 y2 z2 i ++ [sqF ov ov2 x y z x2 y2 z2 i]
theorem sqR_s{x:List Int}{e:List TzT}{g:TzT}(h:e.map (λz=>Zb z.2)=sqR ov ov2 x y z x2 y2 z2 i)(j:Zb g.2=sqF ov ov2 x y z x2 y2 z2 i):(e ++ [g]).map (λz=>Zb z.2)=sqR ov ov2 x y z x2 y2 z2 (i+1):=by rw [cI,h,bQ,j];rfl
theorem Yhy{x:List Int}{e:List TzT}(h:e.map (λz=>Zb z.2)=sqR ov ov2 x y z x2 y2 z2 3):e.length=3/\Zb (e.getD 0 T0).2=sqF ov ov2 x y z x2 y2 z2 0/\Zb (e.getD 1 T0).2=sqF ov ov2 x y z x2 y2 z2 1/\Zb (e.getD 2 T0).2=sqF ov ov2 x y z x2 y2 z2 2:=by
 have g:=aD List.length h;rw [aW]at g;have g:e.length=3:=g
 match e,g with
 | [a,b,c],_=>
  have j:[Zb a.2,Zb b.2,Zb c.2]=[sqF ov ov2 x y z x2 y2 z2 0,sqF ov ov2 x y z x2 y2 z2 1,sqF ov ov2 x y z x2 y2 z2 2]:=h;grind
def ovW(ov ov2:Int):Int:=ov*ov2*(ov*ov2)
def rfL(zn ze ov ov2:Int)(x y z x2 y2 z2:List Int):List Int:=Gy (Zw (Gy (sqF ov ov2 x y z x2 y2 z2 0) (sqF ov ov2 x y z x2 y2 z2 1)) (ze*ze)) (Zw (sqF ov ov2 x y z x2 y2 z2 2) (zn*zn))
def rfW(zd ze ov ov2:Int):Int:=zd*zd*(ze*ze)*ovW ov ov2
def rfZ(zd zn ze ov ov2:Int)(x y z x2 y2 z2:List Int):List Int:=Bf (rfL zn ze ov ov2 x y z x2 y2 z2) (tzl [rfW zd ze ov ov2])
theorem Yh0(p q:List Int)(a b k:Int):sqK p q a b k=Zw (sqP p q a b) (k*k):=by unfold sqK dfK sqP;grind [Yex]
theorem Ytr(w:Int):cf [w] 0=w:=rfl
theorem Yoq{w:Int}{M:Nat}(h:w.natAbs<=M):Ab M (tzl [w]):=λi=>by
 rw [Lg]
 match i with
 | 0=>assumption
 | i+1=>simp [Yt,aX]
theorem Yfk(w:Int)(i:Nat):cf [w] i=-(cf [-1] i*w):=by
 all_goals grind [Ytr,Yt]
theorem rf_eq(zd zn ze ov ov2:Int)(x y z x2 y2 z2:List Int):rfZ zd zn ze ov ov2 x y z x2 y2 z2=smZ zd zn ze ov ov2 x y z x2 y2 z2 3:=by
 have h:Tr (smZ zd zn ze ov ov2 x y z x2 y2 z2 3):=by exact Xy _
 refine(Zad _ _).ext h λi=>?_;unfold rfL smZ;simp only [smP];rw [Hd,Ck,Ym,Ck,Ym,Ck,Ck,Ck,Lg];unfold fqZ;rw [Yh0,Yh0,Yh0,Ym,Ym,Ym];have e:cf (cnZ zd ze ov ov2) i=cf [-1] i*zd*zd*ze*ze*ov*ov*ov2*ov2:=by unfold cnZ;simp only [ngC,Ym,List.getD_cons_zero,lI]
 have g:=Yfk (rfW zd ze ov ov2) i;rw [g];unfold rfW ovW sqF;simp only [Zt];grind
structure RfX (zd zn ze ov ov2:Int) (x y z x2 y2 z2:List Int):Prop where
 v0:∀i,Vp (sqF ov ov2 x y z x2 y2 z2 i)
 v1:Vp (Gy (sqF ov ov2 x y z x2 y2 z2 0) (sqF ov ov2 x y z x2 y2 z2 1))
 v2:Vp (Zw (Gy (sqF ov ov2 x y z x2 y2 z2 0) (sqF ov ov2 x y z x2 y2 z2 1)) (ze*ze))
 v3:Vp (Zw (sqF ov ov2 x y z x2 y2 z2 2) (zn*zn))
 v4:Vp (rfL zn ze ov ov2 x y z x2 y2 z2)
 v5:Vp (tzl [rfW zd ze ov ov2])
 v6:Vp (rfZ zd zn ze ov ov2 x y z x2 y2 z2)
 wb:bl (rfW zd ze ov ov2).natAbs<=1000000
 ob:bl (ov*ov2).natAbs<=1000
 oW:bl (ovW ov ov2).natAbs<=1000
 eb:bl (ze*ze).natAbs<=1000
 nb:bl (zn*zn).natAbs<=1000
 db:bl (zd*zd).natAbs<=1000
 xb:bl (zd*zd*(ze*ze)).natAbs<=1000
theorem rfX{fr to:Int}{x:List Int}(t:Sgo fr to ov x y z)(e:Sgo fr2 to2 ov2 x2 y2 z2)(hA:∀i,Ab KA (tzl (Zt i x y z)))(s:∀i,Ab KA (tzl (Zt i x2 y2 z2)))(hz:znB zd zn ze=true):RfX zd zn ze ov ov2 x y z x2 y2 z2:=by
 obtain⟨z1,a7,z3,z4,z5⟩:=zn_b hz;have o1:=t.o1;have o2:=t.o2;have o3:=e.o1;have o4:=e.o2;have R:∀i,FmX (Zt i x y z) (Zt i x2 y2 z2) ov ov2 1:=λi=>fmX (hA i) (s i) (t.lc i).2 (e.lc i).2 ⟨o1,o2⟩ ⟨o3,o4⟩ ⟨O,O⟩;have n:=Zj3 ov ov2 4294967296 4294967296 O O;have I:=Zj3 (ov*ov2) (ov*ov2) _ _ n n;have p:=Zj3 ze ze 100 100 O O;have N:=Zj3 zn zn 100 100 O O;have P:=Zj3 zd zd 4194304 4194304 O O;have Q:=Zj3 (zd*zd) (ze*ze) _ _ P p;have b7:=Zj3 (zd*zd*(ze*ze)) (ov*ov2*(ov*ov2)) _ _ Q I;have S:=by assumption
 have g:∀{v:Int} {M:Nat},v.natAbs<=M->M<BG->bl v.natAbs<=500:=λh hM=>Zxd (aV h hM);have j:∀i,Ab (6*((KD*100)*(KD*100))) (sqF ov ov2 x y z x2 y2 z2 i):=λi=>(R i).ab8;have k:∀i,(sqF ov ov2 x y z x2 y2 z2 i).length<=11:=λi=>(R i).l8;have t0:∀i,Tr (sqF ov ov2 x y z x2 y2 z2 i):=λi=>Qk _ _;have w:=Zod (j 0) (j 1);have V:=Zhg (k 0) (k 1);have B:=(Dg w (ze*ze)).mono (aZ _ p);have W:=aB (Pz (Gy (sqF ov ov2 x y z x2 y2 z2 0) (sqF ov ov2 x y z x2 y2 z2 1)) (ze*ze)) V;have F:=(Dg (j 2) (zn*zn)).mono (aZ _ N);have l3:=aB (Pz (sqF ov ov2 x y z x2 y2 z2 2) (zn*zn)) (k 2);have G:=Zod B F;have l4:=Zhg W l3;have H:=Yoq S;have l5:(tzl [rfW zd ze ov ov2]).length<=1:=Mg _;have a6:=Zz1 G H;have l6:=Zr1 11 (q:=tzl [rfW zd ze ov ov2]) l4 O;have l:Ab ((6*((KD*100)*(KD*100))+6*((KD*100)*(KD*100)))*10000+6*((KD*100)*(KD*100))*10000+4194304*4194304*(100*100)*(4294967296*4294967296*(4294967296*4294967296))) (rfZ zd zn ze ov ov2 x y z x2 y2 z2):=by assumption
 have u:(rfZ zd zn ze ov ov2 x y z x2 y2 z2).length<=11:=by assumption
 have t6:Tr (rfZ zd zn ze ov ov2 x y z x2 y2 z2):=by unfold rfZ;exact Xy _
 constructor
 .exact(λi=>Hr (j i) O3 (t0 i) (aB (k i) O))
 .exact(Hr w O3 (Xy _) (aB V O))
 .exact(Hr B O3 (Xy _) (aB W O))
 .exact(Hr F O3 (Xy _) (aB l3 O))
 .exact(Hr G O3 (Xy _) (aB l4 O))
 .exact(Hr H O3 (Xy _) (aB l5 O))
 .exact(Hr l O3 t6 (aB u O))
 .exact(aB (g S O3) O)
 .exact(aB (g n O3) O)
 .exact(aB (g I O3) O)
 .exact(aB (g p O3) O)
 .exact(aB (g N O3) O)
 .exact(aB (g P O3) O)
 .exact(aB (g Q O3) O)
theorem ov_b{fr h:Int}{x:List Int}(g:Sgo fr h ov x y z)(e:Sgo fr2 to2 ov2 x2 y2 z2):bl (ov*ov2).natAbs<=1000000000:=by have j:=g.o1;have k:=g.o2;have l:=e.o1;have n:=e.o2;exact sm_bl (aB (Zj3 _ _ 4294967296 4294967296 O O) O) O
theorem Ya0{x:List Int}(h:Zb zs=rfZ zd zn ze ov ov2 x y z x2 y2 z2):zs.length≠0->Yx (Zb zs)≠0:=λg=>by
 have j:Zb zs≠[]:=λe=>g O10;have k:Tr (Zb zs):=by rw [h];unfold rfZ;grind [Zad]
 have:=Ynm k j;intro e;simp_all
theorem Yi6{x:List Int}(h:Zb ys=Yf (Zb zs))(e:Zb zs=rfZ zd zn ze ov ov2 x y z x2 y2 z2):Zb ys=fmZ zd zn ze ov ov2 x y z x2 y2 z2:=by rw [h,e,rf_eq];rfl
def tpI(n k:Nat):Nat:=n/1000000000^k
theorem Ypj(n:Nat):tpI n (dg 1000000000 n).length=0:=by exact cS ((Xq O _ n).1 (aF _))
theorem tpI_s(n k:Nat):tpI n (k+1)*1000000000+(dg 1000000000 n).getD k 0=tpI n k:=by unfold tpI;rw [Hs O,cH,<-aS];omega
theorem Yg6(n:Nat):tpI n 0=n:=by unfold tpI;omega
def tpI_le(n k:Nat):tpI n k<=n:=dL _ _
theorem Yca{g:Int}(e:0<=g)(l:List Int):∀k,k<=l.length->Mc g (l.take k)=(Int.gcd g (Yx (l.take k)):Int)
 | 0,_=>by show g=((Int.gcd g 0));grind [Int.gcd_zero_right]
 | k+1,h=>by rw [Ah (g:=g) O,Lf O,Yca e l k O,Int.gcd_assoc]
def gcR(o:Int)(X Y Z:List Int):Nat->Int
 | 0=>o
 | i+1=>(Int.gcd (gcR o X Y Z i) (Yx (Zt i X Y Z)):Int)
theorem Zy1{o:Int}(e:0<o)(X Y Z:List Int):∀i,i<=3->gcR o X Y Z i=Mc o (Mw i X Y Z)/\0<=gcR o X Y Z i
 | 0,_=>⟨rfl,dQ e⟩
 | i+1,hi=>by obtain⟨h,g⟩:=Zy1 e X Y Z i O;refine⟨?_,gE _⟩;show((Int.gcd _ _):Int)=_;rw [Ee X Y Z O,Gg];have:=Yca g (Zt i X Y Z) _ (aF _);grind
def gcR_A{X:List Int}(h:Mdh o X Y Z):gcR o X Y Z 3=Km o X Y Z:=(Zy1 h.o X Y Z 3 (aF _)).1
theorem Zhj{X:List Int}(h:Mdh o X Y Z)(hi:i<=3):bl (gcR o X Y Z i).natAbs<=1000:=by rw [(Zy1 h.o X Y Z i hi).1];have:=h.fc i 0;assumption
structure Row3 (ws:List TzT) (X Y Z:List Int):Prop where
 l:ws.length=3
 e:∀i,i<3->Zb (ws.getD i T0).2=Zt i X Y Z
theorem Zuq{e:List TzT}{t:Nat}{g:TzT}(j:e.length=i)(h:∀t,t<i->Zb (e.getD t T0).2=f t)(l:Zb g.2=f i)(k:t<i+1):Zb ((e ++ [g]).getD t T0).2=f t:=by grind
theorem Yay{e:List TzT}{x:List Int}{a b:Int}(g:e.length=3)(h:∀t,t<3->Zb (e.getD t T0).2=Ph (Zt t x y z) a b d):Row3 e (Ph x a b d) (Ph y a b d) (Ph z a b d):=⟨g,λi hi=>by
 rw [h i hi]
 match i,hi with
 | 0,_=>rfl
 | 1,_=>rfl
 | 2,_=>rfl⟩
theorem Ymm(h:AxC c ov)(k:Zb zs=tzl c):5-max 0 ((zs.length:Int)-1)=((6-c.length:Nat):Int):=by
 have j:=h.l;rcases Yoi h with e|e
 .grind
 .have g:(tzl [(0)]).length=0:=by rfl
  grind
theorem Zk5(h:∀a∈c,Lo a)(j:c.length<=6)(g:Zb zs=tzl c):zs.length<=30/\Xx (Zb zs)+zs.length*(30+1)+1+zs.length+1+30<=900000:=by have e:=i_le g (aB (Mg c) j);have m:=Qu (p:=Zb zs) (n:=64) (by rw [g];exact(ab_in h).sz O);omega
def Zuj(fr e:Int)(g:Zv)(r:SL×SL×SL):Zv:=((cA fr g,cB e g,cO g/cG fr e g),(r.1,Hx (cX fr e g g.2.1.2) (cG fr e g)),(r.2.1,Hx (cX fr e g g.2.2.1.2) (cG fr e g)),(r.2.2,Hx (cX fr e g g.2.2.2.2) (cG fr e g)))
theorem cut_un{fr e:Int}{g:Zv}(h:Zew fr e g=true):Ia (Zuj fr e g r)=Zw2 fr e g:=by have j:=bW h;unfold Zw2 Ia Zuj mdO;simp_all [aP,Zm2]
theorem cutI_y{fr e:Int}{ps zs:List Zv}{k:Nat}{x g:Zv}(h:Zsv fr e ps k zs)(q:(ps.filter (Hc fr e))[k]? = some x)(n:Zew fr e x=true)(p:Ia g=Zw2 fr e x):Zsv fr e ps (k+1) (zs ++ [g]):=by
 obtain⟨j,l⟩:=h;refine⟨?_,?_⟩
 all_goals simp_all [cI,Zlp,bQ,iF,kU]
theorem Yar{g:Zv}(h:seB g=true)(i:Nat):AxC (Zt i g.2.1.2 g.2.2.1.2 g.2.2.2.2) g.1.2.2:=by obtain⟨e,j,k⟩:=Zx0 h;exact Ep (p:=λl=>AxC l _) e j k
theorem Yda{fr e:Int}{g:Zv}(j:SgG g)(h:Hc fr e g=true):g.1.1<=cA fr g/\cA fr g<cB e g/\cB e g<=g.1.2.1:=by have:=bW h;grind
theorem fl_le(ps:List Zv)(p:Zv->Bool)(i:Nat):((ps.take i).filter p).length<=i:=by grind
theorem cut_t{fr e:Int}{ps:List Zv}(h:Zw3 fr e ps=0):Oq fr e ps=true:=by grind [Zzi]
def nxF(t c:Int)(ps:List Zv):Nat->Int
 | 0=>c
 | i+1=>if t<(ps.getD i G0).1.1 then min (nxF t c ps i) (ps.getD i G0).1.1 else nxF t c ps i
def Yks{t c:Int}{ps:List Zv}(h:t<(ps.getD i G0).1.1):nxF t c ps (i+1)=min (nxF t c ps i) (ps.getD i G0).1.1:=aP h
def Yku{t c:Int}{ps:List Zv}(h:¬t<(ps.getD i G0).1.1):nxF t c ps (i+1)=nxF t c ps i:=aJ h
theorem Ykt(t c:Int)(ps:List Zv):∀i,nxF t c ps i<=c/\(∀k,k<i->t<(ps.getD k G0).1.1->nxF t c ps i<=(ps.getD k G0).1.1)/\(nxF t c ps i=c\/∃k,k<i/\t<(ps.getD k G0).1.1/\nxF t c ps i=(ps.getD k G0).1.1)
 | 0=>⟨eQ _,λk j=>absurd j (aR k),.inl rfl⟩
 | i+1=>by
  obtain⟨s,q,g⟩:=Ykt t c ps i;by_cases h:t<(ps.getD i G0).1.1
  .rw [Yks h];refine⟨O,λk j l=>?_,?_⟩
   .rcases aN.1 j with e|e
    .have:=q k e l;omega
    .subst e;exact Int.min_le_right _ _
   .by_cases u:nxF t c ps i<=(ps.getD i G0).1.1
    .rw [Int.min_eq_left u];rcases g with g|⟨k,w,n,p⟩
     .exact .inl g
     .exact .inr ⟨k,O,n,p⟩
    .rw [Int.min_eq_right O];exact .inr ⟨i,O,h,rfl⟩
  .rw [Yku h];refine⟨s,λk j l=>?_,?_⟩
   .rcases aN.1 j with e|e
    .exact q k e l
    .subst e;exact absurd l h
   .rcases g with g|⟨k,w,n,p⟩
    .exact .inl g
    .exact .inr ⟨k,O,n,p⟩
theorem nx_eq(B:Bks a b){n:Nat}(H:n+1<(Lc a b).length):nxF ((Lc a b).getD n 0) (nxF ((Lc a b).getD n 0) (cmL a b) a a.length) b b.length=(Lc a b).getD (n+1) 0:=by
 obtain⟨S,V,W⟩:=B.lt n H;have hs:=Ydv a b;obtain⟨p1,Q,p3⟩:=Ykt ((Lc a b).getD n 0) (cmL a b) a a.length;obtain⟨q1,R,I⟩:=Ykt ((Lc a b).getD n 0) (nxF ((Lc a b).getD n 0) (cmL a b) a a.length) b b.length;generalize nxF ((Lc a b).getD n 0) (cmL a b) a a.length=s at *;generalize nxF ((Lc a b).getD n 0) s b b.length=r at *;have P:r<=(Lc a b).getD (n+1) 0:=by
  rcases Zan.1 (Zd (zs:=Lc a b) (i:=n+1) (d:=0) H)with h|h|⟨w,p,⟨g,j,e⟩|⟨g,j,e⟩⟩
  .omega
  .omega
  .obtain⟨k,u,rfl⟩:=cN.1 j;have l:a.getD k G0=a[k]:=by rw [aK,aL u];rfl
   have:=Q k u (by rw [l];omega);rw [l]at this;omega
  .obtain⟨k,u,rfl⟩:=cN.1 j;have l:b.getD k G0=b[k]:=by rw [aK,aL u];rfl
   have:=R k u (by rw [l];omega);rw [l]at this;omega
 have F:r∈Lc a b/\(Lc a b).getD n 0<r:=by
  have G:r=cmL a b\/∃g,(g∈a\/g∈b)/\(Lc a b).getD n 0<g.1.1/\r=g.1.1:=by
   rcases I with I|⟨k,w,p,t⟩
   .rcases p3 with p3|⟨k,w,p,t⟩
    .exact .inl O
    .exact .inr ⟨a.getD k G0,.inl (Zd w),p,O⟩
   .exact .inr ⟨b.getD k G0,.inr (Zd w),p,t⟩
  rcases G with h|⟨g,j,p,t⟩
  .exact⟨Zan.2 (.inr (.inl h)),O⟩
  .refine⟨?_,O⟩;by_cases M:r=cmL a b
   .exact Zan.2 (.inr (.inl M))
   .refine Zan.2 (.inr (.inr ⟨O,O,?_⟩));rcases j with j|j
    .exact .inl ⟨g,j,t.symm⟩
    .exact .inr ⟨g,j,t.symm⟩
 obtain⟨q,N,e⟩:=Fh.1 F.1;have hl:(Lc a b).getD (n+1) 0<=r:=by
  rcases jZ q n with c|c|c
  .have:=hs q n c O;omega
  .subst c;omega
  .rcases eI (show n+1<=q from c)with d|d
   .have:=hs (n+1) q d N;omega
   .rw [<-d]at e;omega
 omega
theorem Ytu(B:Bks a b){n:Nat}(g:n+1<=(Lc a b).length)(h:¬(Lc a b).getD n 0<cmL a b):n+1=(Lc a b).length:=by
 rcases eI g with e|e
 .obtain⟨j,k,l⟩:=B.lt n e;omega
 .exact e
theorem Yn4(B:Bks a b){n:Nat}(g:n+1<=(Lc a b).length)(h:(Lc a b).getD n 0<cmL a b):n+1<(Lc a b).length:=by
 rcases eI g with e|e
 .exact e
 .have:=B.ls;rw [show(Lc a b).length-1=n by omega]at this;omega
def bdI:List GpU->Int
 | []=>-1
 | g::l=>if Hu g.2.2 then 0 else if bdI l<0 then -1 else bdI l+1
theorem bdI_s:∀{l:List GpU} {k:Nat},k<l.length->(∀i,i<k->Hu (l.getD i (0,0,[])).2.2=false)->Hu (l.getD k (0,0,[])).2.2=true->bdI l=(k:Int)
 | [],_,h,_,_=>absurd h (aR _)
 | g::l,0,_,_,e=>by have e:Hu g.2.2=true:=e;unfold bdI;rw [aP e];rfl
 | g::l,k+1,h,h1,e=>by have j:Hu g.2.2=false:=h1 0 (jI _);have:=bdI_s (l:=l) (k:=k) (by simpa using h) (λi hi=>h1 (i+1) O) e;unfold bdI;rw [aJ (by rw [j];exact dU),this,aJ O];rfl
theorem bdI_n:∀{l:List GpU},(∀i,i<l.length->Hu (l.getD i (0,0,[])).2.2=false)->bdI l=-1
 | [],_=>rfl
 | g::l,h=>by have e:Hu g.2.2=false:=h 0 (jI _);have:=bdI_n (l:=l) λi hi=>h (i+1) (by simpa using hi);unfold bdI;rw [aJ (by rw [e];exact dU),this];rfl
theorem bd_at{zs:List GpT}{k:Nat}(e:k<zs.length)(h:∀i,i<k->Hu (zs.getD i Gp0).2.2=false)(g:Hu (zs.getD k Gp0).2.2=true):bdI (zs.map unP)=(k:Int):=
 bdI_s (by rw [aW];exact e) (λi hi=>by rw [Al];exact h i hi) (by rw [Al];exact g)
theorem bd_no{zs:List GpT}(e:∀i,i<zs.length->Hu (zs.getD i Gp0).2.2=false):bdI (zs.map unP)=-1:=
 bdI_n λi hi=>by rw [Al];exact e i (by rw [aW]at hi;exact hi)
theorem Yd2:∀l:List GpU,decide (bdI l<0)=!(Zch l).2.2
 | []=>rfl
 | g::l=>by
  have k:=Yd2 l;cases hn:Hu g.2.2 with
  | true=>
   have e:Zoq (g::l)=some g:=kP (by exact hn);have h:bdI (g::l)=0:=by show(if Hu g.2.2 then(0:Int)else _)=0;rw [hn];rfl
   unfold Zch;rw [e,h];rfl
  | false=>
   have e:Zoq (g::l)=Zoq l:=kQ (by rw [show Hu g.2.2=false from hn];exact dU);have h:bdI (g::l)=if bdI l<0 then -1 else bdI l+1:=by show(if Hu g.2.2 then(0:Int)else _)=_;rw [hn];rfl
   have j:Zch (g::l)=Zch l:=by unfold Zch;rw [e]
   rw [j,<-k,h,bB];split<;>omega
theorem Yt9{n:Int}{zs:List GpT}(h:zs.map unP=Ie D n d a b)(e:Bi a b=0):decide (bdI (zs.map unP)<0)=apZ D n d a b:=by rw [Yd2,h,ap_t e]
theorem Ynp{xs:List Zv}(j:¬Dk a b=9)(k:xs.map Ia=Lr a b a)(h:0<xs.length):Dk a b=0:=by
 rcases Zzm a b with g|g|g
 .exact absurd g j
 .exact g
 .have e:=aD List.length k;rw [Zzl O,aW]at e;have:xs.length=0:=e;omega
theorem few_le{ps:List Zv}(h:Zi4 ps m=true):ps.length<=m:=by unfold Zi4 at h;rw [aY]at h;exact bW h.2
open Go Go.MapKept
variable {P:Program} {N:Nat} {sc:Nat->Prop} {env env':Px} {H H':Hp} {Q Q':Exit->Act->World->Prop} {M:Nat->Prop}
abbrev PT:=SL×List Zv
abbrev PT0:PT:=((none,0,0),[])
abbrev Zdi (x:PT):Value:=Xd x.1
abbrev qP (x:PT):Pc:=Xv 6 Qv qG (Xd x.1) x.2
def Zbl(m k:Nat)(ls:List PT):Bool:=decide (ls.length<=m) && ls.all λx=>Zi4 x.2 k
def Fc(ls:List PT):Bool:=ls.all λx=>Qg x.2
def pth(ps:List PT)(i:Nat):List Zv:=(ps.getD i PT0).2
theorem ap_no{n:Int}(h:(Zch (Ie D n d a b)).2.2=false)(e:Bi a b=0):apZ D n d a b=true:=by unfold apZ;grind
theorem ap_is{n:Int}(h:(Zch (Ie D n d a b)).2.2=true):apZ D n d a b=false:=by unfold apZ;grind
theorem ap_e{n:Int}(e:Bi a b≠0):apZ D n d a b=false:=by unfold apZ;grind
theorem Ypd{ls:List PT}(h:Fc ls=true){x:PT}(e:x∈ls):Qg x.2=true:=bK.1 h x e
theorem Zz8{ls:List PT}{x:PT}(e:x∈ls)(h:Qg x.2=false):Fc ls=false:=by grind [Ypd]
theorem Ztu{ls:List PT}(j:ls.length<=m)(h:∀k,k<m->k<ls.length->Qg (pth ls k)=true):Fc ls=true:=
 bK.2 λx g=>by obtain⟨k,e,rfl⟩:=cN.1 g;have:=h k O e;unfold pth at this;grind
theorem Yck{k:Nat}{ls:List PT}(h:Zbl m k ls=true):ls.length<=m/\∀x∈ls,Zi4 x.2 k=true:=by unfold Zbl at h;grind
theorem Ysd{k:Nat}{ls:List PT}{x:PT}(e:x∈ls)(h:Zi4 x.2 k=false):Zbl m k ls=false:=by
 cases hv:Zbl m k ls with
 | false=>rfl
 | true=>rw [(Yck hv).2 x e]at h;omega
theorem Ymg{k:Nat}{ls:List PT}(h:∀j,j<i->Zi4 (pth ls j) k=true)(hi:¬(i<ls.length/\i<=m))(n:i<=ls.length):Zbl m k ls=decide (ls.length<=m):=by
 unfold Zbl;by_cases e:ls.length<=m
 .rw [aH e];refine bK.2 λx g=>?_;obtain⟨j,l,rfl⟩:=cN.1 g;have:=h j O;unfold pth at this;grind
 grind
end Go.Sky
namespace Go.Sky
variable{p q x y z x2 y2 z2:List Int}{a b:List Zv}{D ov ov2:Int}{zs:List GpT}{t:TypeId}{kd:IntKind}
theorem Zb9(h:Tr p):Zw p 1=p:=by unfold Zw;simp_all [mT,fS,mN,An]
def dk_one{a b:Int} : dfK p q a b 1=dfP p q a b:=Zb9 (Xy _)
theorem Yps{a b:Int} : sqK p q a b 1=sqP p q a b:=by unfold sqK sqP;rw [dk_one]
theorem ng_one(D ov ov2:Int):ngC [D,1,ov,ov2] 4=ngC [D,ov,ov2] 3:=by
 have c:ngC [D,1,ov,ov2] 1=ngC [D,ov,ov2] 1:=rfl;have t1:Tr (ngC [D,ov,ov2] 1):=(Zms _ 1).2.2;have d:ngC [D,1,ov,ov2] 2=ngC [D,ov,ov2] 1:=by show Zw _ 1=_;grind [Zb9]
 have e:ngC [D,1,ov,ov2] 3=ngC [D,ov,ov2] 2:=by show Zw _ ov=Zw _ ov;grind
 show Zw _ ov2=Zw _ ov2;grind
def fqS(ov ov2:Int)(x y z x2 y2 z2:List Int)(i:Nat):List Int:=sqP (Zt i x y z) (Zt i x2 y2 z2) ov ov2
def smS(D ov ov2:Int)(x y z x2 y2 z2:List Int)(i:Nat):List Int:=smP (ngC [D,ov,ov2] 3) (fqS ov ov2 x y z x2 y2 z2) i
def Yij(i:Nat):Zt i (1:Int) 1 1=1:=Ep (p:=λk=>k=1) rfl rfl rfl
theorem fsZ(D ov ov2:Int)(x y z x2 y2 z2:List Int):fmZ D 1 1 ov ov2 x y z x2 y2 z2=Yf (smS D ov ov2 x y z x2 y2 z2 3):=by
 have c:fqZ 1 1 ov ov2 x y z x2 y2 z2=fqS ov ov2 x y z x2 y2 z2:=mT λi=>by unfold fqZ fqS;rw [Yij,Yps]
 unfold fmZ smZ smS cnZ;grind [ng_one]
def dsB(D:Int):Bool:=decide (0<=D) && decide (D<=4194304)
theorem ds_b(h:dsB D=true):0<=D/\D<=4194304:=by unfold dsB at h;grind
structure FsX (D ov ov2:Int) (x y z x2 y2 z2:List Int):Prop where
 X:∀i,FmX (Zt i x y z) (Zt i x2 y2 z2) ov ov2 1
 N:∀i,i<=3->NgX [D,ov,ov2] i
 Q:SmX (ngC [D,ov,ov2] 3) (fqS ov ov2 x y z x2 y2 z2)
theorem fsX{fr w d h:Int}(f:Sgo fr w ov x y z)(c:Sgo d h ov2 x2 y2 z2)(m:∀i,Ab KA (tzl (Zt i x y z)))(e:∀i,Ab KA (tzl (Zt i x2 y2 z2)))(o:dsB D=true):FsX D ov ov2 x y z x2 y2 z2:=by
 obtain⟨F,B⟩:=ds_b o;have r:=f.o1;have s:=f.o2;have u:=c.o1;have v:=c.o2;have g:∀i,FmX (Zt i x y z) (Zt i x2 y2 z2) ov ov2 1:=λi=>fmX (m i) (e i) (f.lc i).2 (c.lc i).2 ⟨r,s⟩ ⟨u,v⟩ ⟨O3,O3⟩;have n:∀i,([D,ov,ov2].getD i 0).natAbs<=4294967296:=λi=>by
  match i with
  | 0=>show D.natAbs<=_;omega
  | 1=>show ov.natAbs<=_;omega
  | 2=>show ov2.natAbs<=_;omega
  | i+3=>show(0:Int).natAbs<=_;decide
 refine⟨g,λi hi=>ngX n (aB hi O3),?_⟩;obtain⟨j,k,l⟩:=Zms [D,ov,ov2] 3;refine smX (j.mono ?_) k l (λi=>(g i).ab8) (λi=>(g i).l8);show 1*D.natAbs*D.natAbs*ov.natAbs*ov.natAbs*ov2.natAbs*ov2.natAbs<=2^190;refine aB (aQ (aQ (aQ (aQ (aQ (aQ (aF 1) (show D.natAbs<=4194304 by omega)) (show D.natAbs<=4194304 by omega)) (show ov.natAbs<=4294967296 by omega)) (show ov.natAbs<=4294967296 by omega)) (show ov2.natAbs<=4294967296 by omega)) (show ov2.natAbs<=4294967296 by omega)) O7
theorem Ycf(h:FsX D ov ov2 x y z x2 y2 z2):Cvd (fmZ D 1 1 ov ov2 x y z x2 y2 z2):=by rw [fsZ];exact h.Q.d
theorem cvd_gs(i:∀g∈a,Gin g)(j:∀g∈b,Gin g)(c:Qg a=true)(d:Qg b=true)(I:dsB D=true){xs ys:List Zv}(o:xs.map Ia=Lr a b a)(s:ys.map Ia=Lr a b b):∀g∈Ie D 1 1 a b,Cvd g.2.2:=λg n=>by
 unfold Ie at n;obtain⟨k,F,e⟩:=cN.1 n;rw [lH]at e;subst e;rw [lQ]at F;have f:k<(Lr a b a).length:=O;have h:k<(Lr a b b).length:=O;have M:(Lr a b a)[k]∈xs.map Ia:=by rw [o];exact jA f
 have N:(Lr a b b)[k]∈ys.map Ia:=by rw [s];exact jA h
 obtain⟨q,G,w⟩:=eK.1 M;obtain⟨r,H,B⟩:=eK.1 N;obtain⟨u,l⟩:=Bk i c o q G;obtain⟨v,m⟩:=Bk j d s r H;rw [<-w,<-B];simp only [gpZ,Ia];exact Ycf (fsX (Nz u l) (Nz v m) (Gx l) (Gx m) I)
theorem Ync(e:∀g∈a,Gin g)(f:∀g∈b,Gin g)(c:Qg a=true)(d:Qg b=true)(l:dsB D=true)(h:zs.map unP=Ie D 1 1 a b){k:Nat}(i:k<zs.length):Cvd (zs.getD k Gp0).2.2:=by
 have j:unP (zs.getD k Gp0)∈Ie D 1 1 a b:=by rw [<-h];exact eK.2 ⟨_,Zd i,rfl⟩
 exact cvd_gs e f c d l (Yaa (Lr a b a)) (Yaa (Lr a b b)) _ j
section
variable {P:Program} {N:Nat} {sc:Nat->Prop} {env:Px} {H:Hp}
theorem d_ix3i {o:Oper} {x y:Operand} {e:TypeId} {i:Nat}  {m d f g:Int} (n:o.op= .index t x y) (s:ev env x=some (.agg #[.int .i64 d,.int .i64 f,.int .i64 g])) (u:ev env y=some (.int kd m))
  (r:P.underlying t=some (.array 3 e)) (k:∀w,(sizeOf e).run P w= .ok 1 w) (j:∀w,(isAgg e).run P w= .ok false w) (c:m=(i:Int)) (l:i<3):Mr P N sc o env H (.int .i64 ([d,f,g].getD i 0)):=λa w hs=>by
 subst c;have h:i=0\/i=1\/i=2:=O;rcases h with rfl|rfl|rfl<;>simp [execOp,n,hs.ev s,hs.ev u,Instr.index,asIntOf,run_underlying r,k,j,asAgg,part]
end
theorem df_sel{X Y Z:List Int}(i:Nat)(c:X=dfP x x2 ov ov2)(d:Y=dfP y y2 ov ov2)(e:Z=dfP z z2 ov ov2):Zt i X Y Z=dfP (Zt i x y z) (Zt i x2 y2 z2) ov ov2:=by subst c d e;unfold Zt;split<;>rfl
end Go.Sky
namespace Go.Sky
open Go.Proofs.Tryz
open Go.Proofs
set_option synthInstance.maxHeartbeats 0
set_option synthInstance.maxSize 100000
set_option maxRecDepth 20000
set_option linter.unusedSimpArgs false
variable{zd:Int}{d i:Nat}{x:Operand}{va vb:Value}{pa pb:List Zv}{ops:Array Oper}{o:Oper}{rest:List Oper}{ops':List Operand}{tys:Array TypeId}{w0:World}{M:Nat->Prop}{Jx:World->Prop}{pre:List Pc}
theorem Yil:Xp prog 172 #[.int .i64 zd] [] (.bool (dsB zd)):=by
 refine Zg func172 ntmps172 λw0 e c a=>go 10 ?_;refine Zy 5 J (λb=>?_) (λb=>?_)
 .refine go 7 ?_;exact Yp a () results172 (by unfold dsB;first|(simp_all;done)|(simp_all;omega)) aA Za
 .refine go 7 ?_;exact Yp a () results172 (by unfold dsB;first|(simp_all;done)|(simp_all;omega)) aA Za
theorem Zl1{v w:Value}{c d:List Int}{fr H f k p b:Int}{I N P r s t:Value}(e:FmX c d f b 1)(z:∀a∈c,Lo a)(h:c.length<=6)(B:∀a∈d,Lo a)(j:d.length<=6)(D:Lo f)(l:Lo b):Cal prog 301 #[v,w,.agg #[.int .i64 fr,.int .i64 H,.int .i64 f,I,N,P],.agg #[.int .i64 k,.int .i64 p,.int .i64 b,r,s,t]] [Yl 1 Zz v c,Yl 1 Zz w d] true (G:=SL×List Int) (λg=>g.2=dfP c d f b) (λg=>Xd g.1) (λg=>[Yl 2 wv (Xd g.1) g.2]):=by refine Zg func301 ntmps301 λw0 S R m=>go 2 ?_;refine Yj (Yg 3) λQ _=>Yj (Yg 4) λu _=>go 6 ?_;refine cl 5 [1] (Zak z (aB h O3)) λ_ _=>?_;refine Yk (Oy 5 (q:=Yl 2 wv _ (tzl c)) (aD (Yl 2 wv _) (aJ (Zge h))) J J)<|go 10 ?_;refine cl 6 [2] (Zak B (aB j O3)) λ_ _=>?_;refine Yk (Oy 6 (q:=Yl 2 wv _ (tzl d)) (aD (Yl 2 wv _) (aJ (Zge j))) J J)<|go 12 ?_;refine cl 6 [] (Ya b l) λ_ _=>cl 7 [5] (Nf _ b e.v1 e.b1 e.s1) λ_ _=>go 11 ?_;refine cl 7 [] (Ya f D) λ_ _=>cl 8 [6] (Nf _ f e.v2 e.a1 e.s2) λ_ _=>go 10 ?_;refine cl 9 [7,8] (Zva (Zw (tzl c) b) (Zw (tzl d) f) e.v3 e.v4 e.s3) λ_ _=>?_;refine Yk (Oy 9 (q:=Yl 2 wv _ (dfP c d f b)) (aD (Yl 2 wv _) J) J J)<|go 13 ?_;refine Zfd (Xj 9 J Zl) (λF n=>?_);subst n;generalize dfP c d f b=y;exact Yp m (F,y) results301 J J (Pb 9 Za)
theorem Yp4{fr Y e s t b:Int}{Z vy vz u B D:Value}{x y z h j k:List Int}(l:Sgo fr Y e x y z)(c:Sgo s t b h j k)(hA:∀i,Ab KA (tzl (Zt i x y z)))(I:∀i,Ab KA (tzl (Zt i h j k)))(R:dsB zd=true):Cal prog 248 #[.agg #[.int .i64 fr,.int .i64 Y,.int .i64 e,Z,vy,vz],.agg #[.int .i64 s,.int .i64 t,.int .i64 b,u,B,D],.int .i64 zd] [Yl 1 Zz Z x,Yl 1 Zz vy y,Yl 1 Zz vz z,Yl 1 Zz u h,Yl 1 Zz B j,Yl 1 Zz D k] true (G:=SL×List Int) (λg=>g.2=fmZ zd 1 1 e b x y z h j k) (λg=>Xd g.1) (λg=>[Yl 2 wv (Xd g.1) g.2]):=by
 refine Zg func248 ntmps248 λw0 sc hw P=>?_;have n:=fsX l c hA I R;refine go 2<|Yj (Yg 7) λbx _=>Yj (Yg 8) λS _=>go 5 ?_;refine tt (Xc [(0,_)] 9 (enc:=Zz) ([-1]:List Int) J J K2 Qi ti3 J J J J J pZ.cells J J hw.h) J (λv _=>?_);refine Yk (Xa 9 J J pZ)<|cl 10 [9] (Zak (λa ha=>by rw [cF.1 ha];exact⟨O3,O3⟩)) λ_ _=>?_;refine Yk (Oy 10 (q:=Yl 2 wv _ [-1]) (aD (Yl 2 wv _) tzlm1) J J)<|go 15 ?_;refine dt (Qe [(0,_),(1,_),(2,_)] J K6 (λa w hs=>Yof ((Zk J) a w hs) ((Zk J) a w hs) ((Zk J) a w hs)))<|go 4 ?_;refine Zf (Xm 10 80 J J J)<|lp (G:=Nat×Value) [3,4,23] [0,1,2,3,4,5,6,7,8,9,10] (λq=>[(24,.int .i64 (q.1:Int)),(7,q.2)]) (λq=>[(80,Yl 2 wv q.2 (ngC [zd,e,b] q.1))]) (λq=>q.1<=3) (λq=>3-q.1) (0,_) O1 K2 K1 ?_;rintro⟨i,vs⟩ hi;dsimp only at hi;dsimp only;have f:=n.N i hi;refine go 6<|Ze J (λF=>?_) (λF=>?_)
 .refine go 6 ?_;refine dt (d_ix3i (i:=i) J J J underlying150 Lm iA3 J O)<|go 7 ?_;refine cl 10 [] (Ya ([zd,e,b].getD i 0) f.inn) λ_ _=>cl 11 [80] (Nf (ngC [zd,e,b] i) ([zd,e,b].getD i 0) f.v f.b f.s) λ_ _=>go 9 ?_;refine cl 11 [] (Ya ([zd,e,b].getD i 0) f.inn) λ_ _=>cl 12 [11] (Nf (Zw (ngC [zd,e,b] i) ([zd,e,b].getD i 0)) ([zd,e,b].getD i 0) f.v2 f.b f.s2) λ_ _=>?_;refine go 11 ⟨O,?_⟩;exact Zn (Xm 12 80 J J J)<|Ye (i+1,_) O1 O1 K2 K1
 .obtain rfl:i=3:=O;refine go 7<|Qa (λ_=>False) [(0,0),(1,0),(2,0),(3,0),(4,0),(5,0),(7,0),(8,0),(9,0),(10,0),(11,0),(12,0),(14,0),(15,0),(16,0),(17,0),(18,0),(19,0),(22,0),(6,1),(13,1),(20,1),(21,0)]<|go 19<|Yq (Zo 13 [1,4] (Zl1 (n.X 0) (l.hc 0) (l.lc 0).2 (c.hc 0) (c.lc 0).2 (Zju l) (Zju c))) λfq N=>Yq (Zo 14 [2,5] (Zl1 (n.X 1) (l.hc 1) (l.lc 1).2 (c.hc 1) (c.lc 1).2 (Zju l) (Zju c))) λV p=>Yq (Zo 15 [3,6] (Zl1 (n.X 2) (l.hc 2) (l.lc 2).2 (c.hc 2) (c.lc 2).2 (Zju l) (Zju c))) λW r=>?_;refine Yz J J (Xn (Qe [(0,_),(1,_),(2,_)] J K6 (λa w hs=>Yoh ((Pj 13 J Zl) a w hs) ((Pj 14 J Zl) a w hs) ((Pj 15 J Zl) a w hs))))<|go 3 ?_;refine lp (G:=Nat×Value) [63] [0,1,2,3,4,5,6,7,8,9,10,13,14,15] (λq=>[(64,.int .i64 (q.1:Int)),(7,q.2)]) (λq=>[(80,Yl 2 wv q.2 (smS zd e b x y z h j k q.1))]) (λq=>q.1<=3) (λq=>3-q.1) (0,_) O1 K2 K1 ?_;rintro⟨i,vs⟩ hi;dsimp only at hi;dsimp only;have m:=n.X i;refine go 6<|Ze J (λH=>?_) (λH=>?_)
  .refine go 5<|Zf (Zc5 i 13 14 15 90 J J J J J J)<|Zf (Oy 90 (q:=Yl 2 wv _ (dfP (Zt i x y z) (Zt i h j k) e b)) (aD (Yl 2 wv _) (df_sel i N p r)) J J)<|go 1 ?_;refine dt (Zp5 i J J J underlying141 sizeOf140 isAgg140 J)<|go 7 ?_;refine cl 16 [90,90] (Zmk (dfP (Zt i x y z) (Zt i h j k) e b) (dfP (Zt i x y z) (Zt i h j k) e b) m.v5 m.v5 m.m5) λ_ _=>?_;refine Yk (Oy 16 (q:=Yl 2 wv _ (fqS e b x y z h j k i)) (aD (Yl 2 wv _) J) J J)<|go 9 ?_;refine cl 17 [80,16] (Zvd (smS zd e b x y z h j k i) (fqS e b x y z h j k i) (n.Q.v i O) m.v8 (n.Q.s i O)) λ_ _=>?_;refine go 11 ⟨O,?_⟩;exact Zn (Xm 17 80 J J J)<|Ye (i+1,_) O1 O1 K2 K1
  .obtain rfl:i=3:=O;refine go 8 ?_;refine cl 18 [80] (Nr (n.Q.v 3 (aF _))) λ_ _=>?_;refine Yk (Oy 18 (q:=Yl 2 wv _ (fmZ zd 1 1 e b x y z h j k)) (aD (Yl 2 wv _) (fsZ zd e b x y z h j k).symm) J J)<|go 13 ?_;refine Zfd (Xj 18 J Zl) (λsq Q=>?_);subst Q;generalize fmZ zd 1 1 e b x y z h j k=X9;exact Yp P (sq,X9) results248 J J (Pb 18 Za)
theorem Yp3(l:∀g∈pa,Gin g)(m:∀g∈pb,Gin g)(f:Qg pa=true)(h:Qg pb=true)(N:pa.length<=5)(P:pb.length<=5)(Q:dsB zd=true):Cal prog 173 #[va,vb,.int .i64 zd] [Xv 6 Qv qG va pa,Xv 6 Qv qG vb pb] true (G:=Value×List GpT) (λg=>g.2.map unP=Ie zd 1 1 pa pb) (λg=> .tuple #[g.1,.int .i64 (Bi pa pb)]) (λg=>[Xv 3 Ih qGp g.1 g.2]):=by
 refine Zg func173 ntmps173 λw0 sc R s=>go 10 ?_;refine cl 3 [1,2] (Zo7 l m f h N P) λb c=>go 16<|Ze J (λe=>?_) (λe=>?_)
 .have F:=e;refine go 8<|Zn (Kv 72 3 Ih qGp) ?_;exact Nd s (.slice none 0 0,[]) results173 (by rw [Zr8 F]) (Zr6 O).symm (Pb 72 Za)
 .have F:=e;refine go 16<|Zf (Qp 74 3 178 Ih)<|Zf (Yh qGp 76) ?_;have H:=Zhv l m f h;have W:b.1.2.length=(Lr pa pb pa).length:=by rw [<-c.1,aW]
  have Y:b.2.2.length=(Lr pa pb pb).length:=by rw [<-c.2,aW]
  refine lp (G:=Nat×Value×List GpT) [2,9,10,23,24] [0,1,2,3,4] (λq=>[(25,.int .i64 (q.1:Int)),(11,q.2.1)]) (λq=>[(74,Oe 3 178 Ih q.2.1 q.2.2),(76,Nw qGp q.2.2)]) (λq=>(q.1<=b.1.2.length)/\(q.2.2.map unP=(Ie zd 1 1 pa pb).take q.1)/\(q.2.2.length=q.1)) (λq=>b.1.2.length-q.1) (0,.slice none 0 0,[]) ⟨O1,(by rw [dZ];rfl),rfl⟩ K2 K2 ?_;rintro⟨k,vq,S⟩ ⟨V,n,t⟩;dsimp only at V n t;dsimp only;refine go 6<|Ze J (λD=>?_) (λD=>?_)
  .refine go 5 ?_;obtain⟨y,p⟩:=Bk l f c.1 _ (Zd (d:=G0) (show k<b.1.2.length by omega));refine Zf (Qr (b.1.2.getD k G0) ((b.1.2.getD k G0).2.1) 3 51 J J (Zd O) O5)<|Zf (Qr (b.1.2.getD k G0) ((b.1.2.getD k G0).2.2.1) 3 52 J J (Zd O) O5)<|Zf (Qr (b.1.2.getD k G0) ((b.1.2.getD k G0).2.2.2) 3 53 J J (Zd O) O5)<|go 2 ?_;refine dt (Zs 3 k J J J J Zc Ny Ow J)<|dt (Yr 3 G0 J J J Zc pG)<|Yj (Yd 5) λbx _=>go 4 ?_;obtain⟨B,r⟩:=Bk m h c.2 _ (Zd (d:=G0) (show k<b.2.2.length by omega));refine Zf (Qr (b.2.2.getD k G0) ((b.2.2.getD k G0).2.1) 4 54 J J (Zd O) O5)<|Zf (Qr (b.2.2.getD k G0) ((b.2.2.getD k G0).2.2.1) 4 55 J J (Zd O) O5)<|Zf (Qr (b.2.2.getD k G0) ((b.2.2.getD k G0).2.2.2) 4 56 J J (Zd O) O5)<|Qw [4,5] [15]<|Zi 0 [(0,0),(1,0),(2,0),(3,0),(4,0),(5,0),(6,0),(7,0),(8,0),(9,0),(10,0),(11,1),(12,0),(13,1),(14,1),(15,3)]<|go 8 ?_;refine Yz J J (Ko (Zs 4 k J J J J Zc Ny Ow J) K2)<|Yz J J (Ko (Yr 4 G0 J J J Zc pG) K2)<|go 1 ?_;refine Yq (Zo 84 [51,52,53,54,55,56] (Yp4 (Nz y p) (Nz B r) (Gx p) (Gx r) Q)) λu I=>?_;refine Yz J J (Ko (Qe [(0,_),(1,_),(2,_)] J K6 (λa w hs=>Zh5 ((Zk J) a w hs) ((Zk J) a w hs) ((Zk J) a w hs))) K2)<|Kd J (Xc [(0,_)] 6 (enc:=Ih) [(gpY (b.1.2.getD k G0) u)] J J K2 Zez ti178 J J Zp0 J J pGp.cells J J R.h) (λv _=>?_);refine Kd J (Be 74 J J J K2 (λj=>(Fl 74 6 40 J J J J J J O3 J (Yb pGp) Zez ti178 J pGp J J J O8 O3 J R.h j))) λZ _=>go 2 ?_;refine Zu<|go 6 ⟨O,?_⟩;exact Zn (Zm (q:=qGp) (z:=(gpY (b.1.2.getD k G0) u)) 76 84 76 J J J J J)<|Ye (k+1,_,S ++ [(gpY (b.1.2.getD k G0) u)]) ⟨O1,Zky c.1 c.2 n O O I,by rw [aO,t];rfl⟩ O1 K2 K2
  .obtain rfl:k=b.1.2.length:=O;refine go 14<|Zn (Xa 74 J J pGp)<|Zn (Xe 74 76 78 J J J J) ?_;exact Nd s (vq,S) results173 (by rw [Zr7 F]) (Zr4 c.1 H.1 n) (Pb 78 Za)
theorem Yp6(e:∀g∈pa,Gin g)(f:∀g∈pb,Gin g)(a:Qg pa=true)(c:Qg pb=true)(k:pa.length<=5)(l:pb.length<=5)(h:dsB zd=true):Cal prog 107 #[va,vb,.int .i64 zd] [Xv 6 Qv qG va pa,Xv 6 Qv qG vb pb] true (G:=Value×List GpT) (λg=>g.2.map unP=Ie zd 1 1 pa pb) (λg=> .tuple #[g.1,.int .i64 (Bi pa pb)]) (λg=>[Xv 3 Ih qGp g.1 g.2]):=by refine Zg func107 ntmps107 λw0 q p m=>go 10 ?_;refine cl 2 [1] (Em e) λ_ _=>?_;refine dt (dF (Qn J J) (aD (λb=>Value.bool (!b)) a))<|go 2 ?_;refine Gi 2 [2] (Em f) λ_ _=>?_;refine Di (dF (Qn J J) (aD (λb=>Value.bool (!b)) c)) J J<|go 3 ?_;refine Gi 2 [] Yil λ_ _=>?_;refine Di (dF (Qn J J) (aD (λb=>Value.bool (!b)) h)) J J<|go 11 ?_;refine cl 3 [1,2] (Yp3 e f a c k l h) λn j=>go 7 ?_;exact Nd m _ results107 J j (Pb 3 Za)
open Go.RowKit Below
variable {P:Program} {N:Nat} {sc:Nat->Prop} {env env':Px} {H H':Hp} {Q Q':Exit->Act->World->Prop}
def fctP(p:Prop):Pc:={ own:=false,fp:=λ_=>False,holds:=λ_=>p,lt:=λ_ _ _ h=>h.elim,stable:=λ_ _ h _=>h }
theorem wtd{j e:Nat}{b:Bool}(h:o.guard=some (j,b))(k:(ops[j]?).bind (·.dst)=some e)(g:lk env e=some (.bool b))(c:Nat.blt e N=true):∀a w,Sat N sc env H a w->Region.wanted o (yielded ops a.tmps)=true:=λa w hs=>by have f:=hs.yielded k g c;simp [Region.wanted,h,f]
theorem La{v:Value}(f:Mr P N sc o env H v)(e:∀a w,Sat N sc env H a w->Region.wanted o (yielded ops a.tmps)=true)(c:o.dst=some d)(b:Nat.blt d N=true)(h:LI P N sc ops rest Q ((d,v)::env) H):LI P N sc ops (o::rest) Q env H:=λa w hs=>by unfold wpListIn;rw [aP (e a w hs)];refine⟨λ_ _=>trivial,?_⟩;show o.uponIn _ 0 P a _ Q ((execOp _ o).run P w);rw [f a w hs];show wpListIn _ 0 P ops Q _ _ w;rw [c];exact h _ w (hs.put d v b)
theorem Zek (vs:List Value)(pre:List Pc)    {l:Nat}     {W:World}  {J:Nat->World->Prop}  {α G:Type} {xs:List α} {ys:α->G->List Value} {D:α->G->List Pc} 
  {k:Nat} (y:α) (g:G) (hY:YJI P w0 l M J Jx xs ys D) (hy:xs[k]? = some y) (hJ:J k W) (hW:w0.heap.size<=W.heap.size) (m:∀p∈pre,∀b,p.fp b->b<w0.heap.size/\¬M b)
  (ho:o.op= .call { callee:= .value x,args:=ops'.toArray,argTypes:=tys }) (hg:∀a w,Sat N sc env H a w->Region.wanted o (yielded ops a.tmps)=true) (hd:o.dst=some d) (Z:Nat.blt d N=true) (hx:ev env x=some (.func (.yield l) #[] #[])) (r:EvL env ops' vs) (S:vs=ys y g)
  (h0:lk H 0=some (Xu W (λ_=>False))) (u:∀p∈D y g,p.own=false/\(∀b,p.fp b->W.heap.size<=b)/\∃i I,lk H i=some I/\∀w,I.holds w->p.holds w)
  (v:AllRo pre) (n:HSub (Xk 1 pre) H)
  (ht:∀c,J (k+1) c->w0.heap.size<=c.heap.size->LI P N sc ops rest Q ((d,.bool true)::env) ((0,Xu c (λ_=>False))::Xk 1 pre))
  (hf:∀c,Jx c->w0.heap.size<=c.heap.size->LI P N sc ops rest Q ((d,.bool false)::env) ((0,Xu c (λ_=>False))::Xk 1 pre)):LI P N sc ops (o::rest) Q env H:=λa w hs=>by
 subst S;have Y:=Hl (hs.hold 0 _ h0);obtain⟨fn,F,f,s,z,j⟩:=hY k y g hy W w hJ hW Y (λp hp=>by obtain⟨h1,h2,i,I,hi,hh⟩:=u p hp;exact⟨hh w (hs.hold i I hi),h1,h2⟩)
 have R:(o.semAt Fence.wide.round a.eval).run P w= .ok (.round l fn F f s) w:=by show(execOp _ o).run P w=_;have hm:=r.map hs;have V:=hs.ev hx;simp [execOp,ho,resolve,invoke,Deferred.ofValue,hm,V,z,Sem.run_bind]
 unfold wpListIn;rw [aP (hg a w hs)];refine⟨λ_ _=>trivial,?_⟩;rw [R];refine⟨λh=>(by cases h),j.mono ?_⟩;have B:=aB hW Y.size;rintro e c (⟨rfl,q,t⟩|⟨rfl,q,t⟩)
 .rw [hd];exact ht c q (aB B t.size) _ c ((hs.base m v n t).put d _ Z)
 .rw [hd];exact hf c q (aB B t.size) _ c ((hs.base m v n t).put d _ Z)
theorem Zk1{α:Type}{ps:List α}{p:α->Bool}{d:α}(hi:i<ps.length)(b:p (ps.getD i d)=true):(ps.filter p)[((ps.take i).filter p).length]? = some (ps.getD i d):=by
 have h:=fC i ps;have a:ps.drop i=ps.getD i d::ps.drop (i+1):=by rw [aK,aL hi];exact eE hi
 conv=>lhs;arg 1;rw [<-h,a]
 rw [fA,dY b];simp
theorem Ycg{α:Type}{ps:List α}{p:α->Bool}{d:α}(hi:i<ps.length)(a:p (ps.getD i d)=true):((ps.take (i+1)).filter p).length=((ps.take i).filter p).length+1:=by rw [Qz d _ _ hi,fA,dY a,aO];rfl
theorem Ych{α:Type}{ps:List α}{p:α->Bool}{d:α}(hi:i<ps.length)(a:p (ps.getD i d)=false):((ps.take (i+1)).filter p).length=((ps.take i).filter p).length:=by rw [Qz d _ _ hi,fA,fQ O4,aO];rfl
theorem Zhl{φ:Prop}{n:Nat}{H:Hp}{k:Pc}(h:φ)(c:lk H 0=some k):∀p∈[fctP φ],p.own=false/\(∀b,p.fp b->n<=b)/\∃i a,lk H i=some a/\∀w,a.holds w->p.holds w:=λp f=>by rw [cF.1 f];exact⟨rfl,λb e=>e.elim,0,k,c,λ_ _=>h⟩
theorem fk_of{fn:Func}{al:Bool}{G:Type}{φ:G->Prop}{val:G->Value}{b:G->List Pc}(h:X N sc .ret (Zcu P fn w0 pre al φ val b) env H):X N sc .ret (Zf5 P fn w0 pre al φ val b) env H:=λa w hs=>by obtain⟨e,v,f,c⟩:=h a w hs;show LeavesInM _ 0 P fn _ _ _ _ w;rw [e];exact⟨v,f,c⟩
end Go.Sky

