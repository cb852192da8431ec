/- Rules, arithmetic and contracts: part 15. No conditions but those that each theorem names. -/
import Derived.Test.YtlnoheikolgejaaGreatLb13
import Derived.MapKept
set_option linter.all false
set_option maxHeartbeats 4000000
namespace Go.Sky
open Go.Proofs.Tryz
open Go.Proofs
set_option synthInstance.maxHeartbeats 0
set_option synthInstance.maxSize 100000
set_option maxRecDepth 20000
set_option linter.unusedSimpArgs false
variable{v v1 v2:Value}{xs y x2 y2 z z2 Y Z c:List Int}{x zd zn ze ov fr2 to2 ov2 o d D:Int}{bs i:Nat}{ls cs:List (SL×List Int)}{a b:List Zt}{zs ys:List (Int×SL)}{f:Nat->List Int}{r:SL×SL×SL}
theorem Yqg(m:Nat)(xs:List Int)(g:Vp xs)(s:m<=1000):Xq prog 358 #[v,.int .i64 (m:Int)] [Ym 2 wv v xs] (.bool (decide (Zc8 xs m))):=by
 refine Zg func358 ntmps358 λB w t e=>?_;have l:=g.len;have p:=Qv g.sz;have q:(xs.length+2)*(xs.length+2)<=27*27:=aO O O;have u:(xs.length+2)*(xs.length+2)*(Xw xs+m+2*(xs.length-1)+32)<=27*27*70000:=aO q O;have n:((xs.length:Int)-1+3)*((xs.length:Int)-1+3)=(((xs.length+2)*(xs.length+2):Nat):Int):=by rw [show(xs.length:Int)-1+3=((xs.length+2:Nat):Int) by omega];push_cast;rfl
 have j:xs.length≠0->((xs.length:Int)-1+3)*((xs.length:Int)-1+3)*((Xw xs:Int)+(m:Int)+2*((xs.length:Int)-1)+32)=(((xs.length+2)*(xs.length+2)*(Xw xs+m+2*(xs.length-1)+32):Nat):Int):=λh=>by rw [n,show(Xw xs:Int)+(m:Int)+2*((xs.length:Int)-1)+32=((Xw xs+m+2*(xs.length-1)+32:Nat):Int) by omega];push_cast;rfl
 refine go 8 ?_;refine cl 1 [1] (Zjy g) λ_ _=>go 10 ?_;refine cl 1 [1] (Zpw g) λ_ _=>go 13<|Yc 22 J (λk=>?_) (λk=>?_)
 .refine go 19 ?_;exact Yq e () results358 (by first|exact sgf_t O|exact sgf_i O (j O)) aA Za
 .refine go 19 ⟨O,O,by rw [n];exact⟨O,O⟩,O,O,O,O,by rw [j O];exact⟨O,O⟩,?_⟩;exact Yq e () results358 (by first|exact sgf_t O|exact sgf_i O (j O)) aA Za
theorem Yi6(g:Vp xs):Xq prog 306 #[v] [Ym 2 wv v xs] (.bool (decide (Zc8 xs 0))):=by refine Zg func306 ntmps306 λk j h e=>go 8 ?_;refine cl 1 [1] (Xs ‹_›) λ_ _=>go 2 ?_;refine Hx 1 [1] (Yqg 0 xs g O) λ_ _=>go 5 ?_;exact Yq e () results306 J aA Za
theorem Zl8{y:Int}(g:bl x.natAbs<=65536)(h:bl y.natAbs<=65536):Xq prog 307 #[rX x y] [] (.bool (efit (x,y))):=by refine Zg func307 ntmps307 λm l k e=>go 2 ?_;refine Yk (Yf 1) λj _=>go 4<|Qe (λ_=>False) [(0,0),(1,0),(3,0),(4,0),(2,1),(5,1),(6,0),(7,0),(8,3)]<|go 4<|Ys (Zp 1 [] (Zlo g)) λ_ _=>Ys (Zp 1 [] (Zlo h)) λ_ _=>?_;refine Xb J J (Qa (Zcz J J J))<|go 5 ?_;exact Yq e () results307 (by unfold efit;exact vB (bM.2 O8)) aA Za
theorem Zl9{y x2 y2:Int}(m:bl x.natAbs<=65536)(n:bl y.natAbs<=65536)(h:bl x2.natAbs<=65536)(j:bl y2.natAbs<=65536)(l:0<y)(e:0<y2):Xq prog 308 #[rX x y,rX x2 y2] [] (.int .i64 (cmp (x,y) (x2,y2))):=by refine Zg func308 ntmps308 λt s q g=>go 2 ?_;refine Yk (Yf 1) λp _=>Yk (Yf 2) λk _=>go 7 ?_;refine cl 2 [] (Zgk m n h j l e) λ_ _=>go 14 ?_;exact Yq g () results308 J aA Za
theorem Ybb(v:Value)(xs:List Int){y:Int}(k:bl x.natAbs<=65536)(l:bl y.natAbs<=65536)(h:0<y)(j:Vp xs)(g:¬Iy xs x y):Xq prog 315 #[.pointer (some ⟨bs,0,none⟩),v,rX x y] [Hr bs 340 #[.int .i64 0],Ym 2 wv v xs] (.int .i64 (Bh x y xs)):=by refine Zg func315 ntmps315 λq p n e=>go 2 ?_;refine Yk (Yf 3) λm _=>go 7 ?_;refine cl 3 [2] (Zvs j k l h) λ_ _=>go 2 ?_;refine dt (Xk ( .int .i64 0) (Zs8 J J J) (aD (Value.int .i64) (aJ g)))<|go 11 ?_;refine kt O3<|go 8 ?_;refine tt (Zpd 1 J J J J J J sizeOf28 J J O12 J) λ_ _=>go 9 ?_;exact Yq e () results315 (by unfold Bh;rw [show evv xs x y=pev xs x y from aJ g]<;>rfl) aA Za
theorem Zl7(x y:Int)(p:bl x.natAbs<=65536)(q:bl y.natAbs<=65536)(m:0<y)(h:∀z∈ls,Vp z.2)(g:∀z∈ls,¬Iy z.2 x y):Xq prog 253 #[.agg #[v1,v2],.pointer (some ⟨bs,0,none⟩),rX x y] [Qb 1 Nk qZ v1 ls,Qb 1 Nk qZ v2 cs,Hr bs 340 #[.int .i64 0]] (.int .i64 (vlu (ls.map Prod.snd) (x,y))):=by
 refine Zg func253 ntmps253 λu t n j=>?_;refine Xr (Ps (i:=1) J Ze) λl=>go 2 ?_;refine Yk (Yf 4) λs _=>Yk (Yf 5) λk _=>go 12<|Zc J (λe=>?_) (λe=>?_)
 .refine go 7 ?_;exact Yq j () results253 (by unfold vlu;rw [aT,aM O]<;>rfl) aA Za
 .refine go 3<|Qe (λ_=>False) [(0,0),(1,0),(2,0),(3,0),(4,0),(5,0),(6,1),(7,3)]<|go 4 ⟨O,?_⟩;refine Xb J J (Qa (Xd 1 Z0 J J J Ze pS))<|go 1 ?_;refine Lm J (Qm 5 (Ybb (Xi (ls.getD 0 Z0).1) (ls.getD 0 Z0).2 p q m (h (ls.getD 0 Z0) (Zd O)) (g (ls.getD 0 Z0) (Zd O))) J J J K3 call315 (Zs 3 J J J (Ykg 1 J J (Zd (i:=0) (zs:=ls) (d:=Z0) O) Zr)) J n.h) λ_ _=>go 4 ?_;exact Yq j () results253 (by unfold vlu;rw [aT,aJ O,Zis O]<;>rfl) aA Za
theorem Yi7{y:Int}(H:bl x.natAbs<=65536)(I:bl y.natAbs<=65536)(F:0<y)(m:∀z∈ls,Vp z.2)(l:∀z∈ls,¬Iy z.2 x y):Xq prog 313 #[.agg #[v1,v2],.pointer (some ⟨bs,0,none⟩),rX x y] [Qb 1 Nk qZ v1 ls,Qb 1 Nk qZ v2 cs,Hr bs 340 #[.int .i64 0]] (.int .i64 (aft (ls.map Prod.snd) (x,y))):=by
 refine Zg func313 ntmps313 λQ P N n=>?_;refine Xr (Ps (i:=1) J Ze) (λw=>?_);have B:=Znh ls (Bh x y);have j:=λi (h:i<ls.length)=>Zuq ls (Bh x y) h;refine go 2<|Yk (Yf 4) λM _=>Yk (Yf 5) λt _=>go 13 ?_;refine lp (G:=Nat) [1,5,11,12] [0,1,2,3,4,5] (λi=>[(13,.int .i64 (i:Int))]) (λi=>[]) (λi=>(i<=ls.length)/\(∀k,k<i->(sgx ls (Bh x y)).getD k 0=0)) (λi=>ls.length-i) 0 ⟨O1,λk u=>absurd u (bG k)⟩ K1 aA ?_;rintro i ⟨hi,s⟩;refine go 6<|Zc J (λe=>?_) (λe=>?_)
 .refine go 7 ⟨O2,?_⟩;refine dt (Xd 1 Z0 J J J Ze pS O2)<|go 4 ?_;refine Zf (Oj 1 91 (ls.getD i Z0) J J (Zd O) J)<|go 4 ?_;refine cl 5 [3,91] (Ybb (Xi (ls.getD i Z0).1) (ls.getD i Z0).2 H I F (m (ls.getD i Z0) (Zd O)) (l (ls.getD i Z0) (Zd O))) λ_ _=>go 9<|Zc J (λg=>?_) (λg=>?_)
  .refine go 12 ?_;exact Yq n () results313 (by rw [Ye6,Zwy ‹_› O s (j i O)]<;>rfl) aA Za
  .refine go 7 ⟨O,?_⟩;exact Yi (i+1) ⟨O1,λk q=>by rcases bA.1 q with p|p;exact s k p;subst p;rw [j _ O];exact bL ‹_›⟩ O1 K1 aA
 .refine go 11 ?_;exact Yq n () results313 (by rw [Ye6,Zp8 (λk u=>s k O)]<;>rfl) aA Za
theorem Zma{y:Int}(Q:bl x.natAbs<=65536)(R:bl y.natAbs<=65536)(P:0<y)(B:∀z∈cs,Vp z.2)(w:∀z∈cs,¬Iy z.2 x y):Xq prog 366 #[.agg #[v1,v2],.pointer (some ⟨bs,0,none⟩),rX x y] [Qb 1 Nk qZ v1 ls,Qb 1 Nk qZ v2 cs,Hr bs 340 #[.int .i64 0]] (.int .i64 (chv (cs.map Prod.snd) (x,y))):=by
 refine Zg func366 ntmps366 λw0 W V H=>?_;refine Xr (Ps (i:=2) J Ze) (λM=>?_);have N:=Znh cs (Bh x y);have g:=λi (h:i<cs.length)=>Zuq cs (Bh x y) h;refine go 2<|Yk (Yf 4) λS _=>Yk (Yf 5) λI _=>go 19 ?_;refine lp (G:=Nat×Int×Int) [1,5,13,14] [0,1,2,3,4,5] (λq=>[(15,.int .i64 (q.1:Int)),(7,.int .i64 q.2.1),(8,.int .i64 q.2.2)]) (λq=>[]) (λq=>(q.1<=cs.length)/\((q.2.1,q.2.2)=((sgx cs (Bh x y)).take q.1).foldl Nh (0,0))/\(0<=q.2.1)/\(q.2.1<=(q.1:Int))/\(-1<=q.2.2/\q.2.2<=1)) (λq=>cs.length-q.1) (0,0,0) ⟨O1,O5,O1,O1,O1⟩ K3 aA ?_;rintro⟨i,n,l⟩ ⟨hi,j,k,F,p⟩;dsimp only at hi j k F p;dsimp only;have e:=fat_r x y (cs.getD i Z0).2;refine go 6<|Zc J (λs=>?_) (λs=>?_)
 .refine go 7 ⟨O2,?_⟩;refine dt (Xd 2 Z0 J J J Ze pS O2)<|go 4 ?_;refine Zf (Oj 2 91 (cs.getD i Z0) J J (Zd O) J)<|go 4 ?_;refine cl 5 [3,91] (Ybb (Xi (cs.getD i Z0).1) (cs.getD i Z0).2 Q R P (B (cs.getD i Z0) (Zd O)) (w (cs.getD i Z0) (Zd O))) λ_ _=>?_;refine go 12 ⟨sgm_i e p,?_⟩;refine Zc J (λt=>?_) (λt=>?_)
  .refine go 12 ⟨O,?_⟩;refine Zc J (λu=>?_) (λu=>?_)
   .refine go 10 ⟨O,?_⟩;exact Yi (i+1,_,_) ⟨O1,by first|exact Yeo O j (g i O) (bL ‹_›)|exact Yen O j (g i O) ‹_› (Ya9 e O ‹_›)|exact Yem O j (g i O) ‹_› (Ya8 e O ‹_› ‹_›)|exact absurd ‹_› (Yba (bL ‹_›)),by first|exact k|(dsimp only;omega),O8,by first|exact p|exact e⟩ O1 K3 aA
   .refine go 7 ⟨O,?_⟩;exact Yi (i+1,_,_) ⟨O1,by first|exact Yeo O j (g i O) (bL ‹_›)|exact Yen O j (g i O) ‹_› (Ya9 e O ‹_›)|exact Yem O j (g i O) ‹_› (Ya8 e O ‹_› ‹_›)|exact absurd ‹_› (Yba (bL ‹_›)),by first|exact k|(dsimp only;omega),O8,by first|exact p|exact e⟩ O1 K3 aA
  .refine go 8<|Zc J (λm=>?_) (λm=>?_)
   .refine go 10 ⟨O,?_⟩;exact Yi (i+1,_,_) ⟨O1,by first|exact Yeo O j (g i O) (bL ‹_›)|exact Yen O j (g i O) ‹_› (Ya9 e O ‹_›)|exact Yem O j (g i O) ‹_› (Ya8 e O ‹_› ‹_›)|exact absurd ‹_› (Yba (bL ‹_›)),by first|exact k|(dsimp only;omega),O8,by first|exact p|exact e⟩ O1 K3 aA
   .refine go 7 ⟨O,?_⟩;exact Yi (i+1,_,_) ⟨O1,by first|exact Yeo O j (g i O) (bL ‹_›)|exact Yen O j (g i O) ‹_› (Ya9 e O ‹_›)|exact Yem O j (g i O) ‹_› (Ya8 e O ‹_› ‹_›)|exact absurd ‹_› (Yba (bL ‹_›)),by first|exact k|(dsimp only;omega),O8,by first|exact p|exact e⟩ O1 K3 aA
 .refine go 12 ?_;exact Yq H () results366 (by rw [Yto,Ytt O j]<;>rfl) aA Za
theorem Zyh{y x2 y2:Int}(H:bl x.natAbs<=65536)(I:bl y.natAbs<=65536)(n:bl x2.natAbs<=65536)(p:bl y2.natAbs<=65536)(F:0<y)(m:0<y2)(e:∀z∈cs,Vp z.2)(l:∀z∈cs,¬Iy z.2 x y)(g:∀z∈cs,¬Iy z.2 x2 y2)(B:cs.length<=1000):Xq prog 314 #[.agg #[v1,v2],.pointer (some ⟨bs,0,none⟩),rX x y,rX x2 y2] [Qb 1 Nk qZ v1 ls,Qb 1 Nk qZ v2 cs,Hr bs 340 #[.int .i64 0]] (.bool (crb (cs.map Prod.snd) (x,y) (x2,y2))):=by
 refine Zg func314 ntmps314 λP N G h=>?_;refine Xr (Ps (i:=2) J Ze) (λw=>?_);have q:=Yel (cs.map Prod.snd) (x,y);have s:=Yel (cs.map Prod.snd) (x2,y2);rw [aT]at q s;refine go 2<|Yk (Yf 4) λM _=>Yk (Yf 5) λt _=>Yk (Yf 6) λu _=>go 12<|Zc J (λj=>?_) (λj=>?_)
 .refine go 7 ?_;exact Yq h () results314 (by unfold crb;rw [aT,aM O]<;>rfl) aA Za
 .refine go 3<|Qe (λ_=>False) [(0,0),(1,0),(2,0),(4,0),(5,0),(6,0),(3,1),(7,1),(8,0),(9,3)]<|go 6<|Ys (Zp 6 [1,2,3] (Zma H I F e l)) λ_ _=>Ys (Zp 6 [1,2,3] (Zma n p m e g)) λ_ _=>?_;refine go 6 ⟨O,?_⟩;refine Qe (λ_=>False) [(0,0),(1,0),(2,0),(3,0),(4,0),(5,0),(6,1),(7,0)]<|go 4 ⟨O,?_⟩;refine Xb J J (Qa (Xd 2 Z0 J J J Ze pS))<|go 1 ?_;refine Lm J (Qm 6 (Ybb (Xi (cs.getD 0 Z0).1) (cs.getD 0 Z0).2 n p m (e (cs.getD 0 Z0) (Zd O)) (g (cs.getD 0 Z0) (Zd O))) J J J K3 call315 (Zs 3 J J J (Ykg 2 J J (Zd (i:=0) (zs:=cs) (d:=Z0) O) Zr)) J G.h) λ_ _=>go 3 ?_;refine Zc J (λk=>?_) (λk=>?_)
  .refine go 14 ⟨O,?_⟩;exact Yq h () results314 (by first|exact crb_t O ‹_›|exact crb_f O ‹_›) aA Za
  .refine go 10 ?_;exact Yq h () results314 (by first|exact crb_t O ‹_›|exact crb_f O ‹_›) aA Za
theorem Zc9(x y x2 y2:Int)(t:0<y)(n:0<y2)(g:∀z∈ls,Vp z.2)(e:∀z∈ls,¬Iy z.2 x y)(m:∀z∈cs,Vp z.2)(k:∀z∈cs,¬Iy z.2 x y)(l:∀z∈cs,¬Iy z.2 x2 y2)(B:cs.length<=1000)(u:bl x.natAbs<=65536:=by omega)(w:bl y.natAbs<=65536:=by omega)(p:bl x2.natAbs<=65536:=by omega)(q:bl y2.natAbs<=65536:=by omega):Xq prog 252 #[.agg #[v1,v2],.pointer (some ⟨bs,0,none⟩),rX x y,rX x2 y2] [Qb 1 Nk qZ v1 ls,Qb 1 Nk qZ v2 cs,Hr bs 340 #[.int .i64 0]] (.bool (ngb (ls.map Prod.snd) (cs.map Prod.snd) (x,y) (x2,y2))):=by
 refine Zg func252 ntmps252 λN M I h=>go 2 ?_;refine Yk (Yf 4) λH _=>Yk (Yf 5) λF _=>Yk (Yf 6) λG _=>go 8 ?_;refine cl 6 [] (Zl9 u w p q t n) λ_ _=>go 3<|Zc J (λj=>?_) (λj=>?_)
 .refine go 5 ?_;refine cl 6 [1,2,3] (Zl7 _ _ u w t g e) λ_ _=>go 6 ?_;exact Yq h () results252 (by unfold ngb;rw [aM ‹_›]) aA Za
 .refine go 7 ?_;refine cl 6 [1,2,3] (Yi7 u w t g e) λ_ _=>go 2<|Yc 23 J (λs=>?_) (λs=>?_)
  .refine go 10 ?_;exact Yq h () results252 (by first|exact ngb_t ‹_› ‹_›|exact ngb_f ‹_› ‹_›) aA Za
  .refine go 4 ?_;refine Hx 6 [1,2,3] (Zyh u w p q t n m k l B) λ_ _=>go 5 ?_;exact Yq h () results252 (by first|exact ngb_t ‹_› ‹_›|exact ngb_f ‹_› ‹_›) aA Za
theorem Yfn(x y x2 y2:Int)(V:bl x.natAbs<=65536)(W:bl y.natAbs<=65536)(p:bl x2.natAbs<=65536)(q:bl y2.natAbs<=65536)(M:0<y)(l:0<y2)(I:Zfk (x,y) (x2,y2)):Xq prog 316 #[.pointer (some ⟨bs,0,none⟩),rX x y,rX x2 y2] [Hr bs 340 #[.int .i64 0]] (.agg #[.bool (decide ((Nd (x,y) (x2,y2)).1<0)),.string (Qw (Nd (x,y) (x2,y2)).1.natAbs),.bool (decide ((Nd (x,y) (x2,y2)).2<0)),.string (Qw (Nd (x,y) (x2,y2)).2.natAbs)]):=by
 refine Zg func316 ntmps316 λw0 sc hw k=>?_;have n:¬Hh (x*y2+x2*y) (y*y2):=I.1;obtain⟨N,P,m⟩:=Zf5 n;obtain⟨e,g⟩:=nr_bl n;have h:=Zy9 n (fQ M l);have j:=Ygh I;refine go 2<|Yk (Yf 2) λbx _=>Yk (Yf 3) λs _=>Yk (Yh 4) λt _=>go 6 ?_;refine cl 4 [] (Zop V W p q M l) λ_ _=>go 2 ?_;refine dt (Xk ( .int .i64 0) (Zs8 J J J) (aD (Value.int .i64) m))<|Yk (Yh 5) λu _=>go 11 ?_;refine kt O3<|go 8 ?_;refine tt (Zpd 1 J J J J J J sizeOf28 J J O12 J) λ_ _=>go 3 ?_;refine Qn [5] [10]<|Zk 10 [(0,0)]<|go 2 ?_;refine Pk 9 1 8 ?_ ?_
 .refine Nl (Zp 5 [] (Zz _ ⟨O3,O3⟩)) λ_ _=>?_;refine Pk 8 2 8 ?_ ?_
  .refine Nl (Zp 5 [] (Zz _ ⟨O3,O3⟩)) λ_ _=>?_;refine Zk 7 [(3,0)]<|Xb J J (Ll (Qf [(0,_),(1,_)] J K4 (λa w hs=>Zie)) K1)<|go 1 ?_;refine Pk 6 4 8 ?_ ?_
   .refine Nl (Zp 5 [] (Cg 1 2 e g O7 O7 h)) λ_ _=>?_;refine Zk 0 [(5,0),(6,0),(7,0),(8,1),(9,1),(10,3)]<|go 2 ?_;refine Xb J J (Ll (Xk ( .int .i64 0) (Zs8 J J J) (aD (Value.int .i64) j)) K1)<|Ys (Qo 6) λB ho=>go 3 ?_;refine Zu<|go 8<|kt O3<|go 8 ?_;refine tt (Zpd 1 J J J J J J sizeOf28 J J O12 J) λ_ _=>go 9 ?_;exact Yq k () results316 J aA Za
   .refine Nl (Qo 7) λF Q=>?_;refine Zk 0 [(4,1),(5,0),(6,0),(7,0),(9,1),(10,3)]<|Ys (Zp 7 [] (Cg 1 2 e g O7 O7 h)) λ_ _=>go 2 ?_;refine Xb J J (Ll (Xk ( .int .i64 0) (Zs8 J J J) (aD (Value.int .i64) j)) K1)<|go 3 ?_;refine Zu<|go 8<|kt O3<|go 8 ?_;refine tt (Zpd 1 J J J J J J sizeOf28 J J O12 J) λ_ _=>go 9 ?_;exact Yq k () results316 J aA Za
  .refine Nl (Qo 8) λG R=>?_;refine Zk 0 [(2,1),(3,0),(4,1),(5,0),(6,0),(7,0),(9,1),(10,3)]<|Ys (Zp 8 [] (Zz _ ⟨O3,O3⟩)) λ_ _=>?_;refine Xb J J (Ll (Qf [(0,_),(1,_)] J K4 (λa w hs=>Zie)) K1)<|Ys (Zp 8 [] (Cg 1 2 e g O7 O7 h)) λ_ _=>go 2 ?_;refine Xb J J (Ll (Xk ( .int .i64 0) (Zs8 J J J) (aD (Value.int .i64) j)) K1)<|go 3 ?_;refine Zu<|go 8<|kt O3<|go 8 ?_;refine tt (Zpd 1 J J J J J J sizeOf28 J J O12 J) λ_ _=>go 9 ?_;exact Yq k () results316 J aA Za
 .refine Nl (Qo 9) λH S=>?_;refine Zk 0 [(1,1),(2,1),(3,0),(4,1),(5,0),(6,0),(7,0),(9,1),(10,3)]<|Ys (Zp 9 [] (Zz _ ⟨O3,O3⟩)) λ_ _=>Ys (Zp 9 [] (Zz _ ⟨O3,O3⟩)) λ_ _=>?_;refine Xb J J (Ll (Qf [(0,_),(1,_)] J K4 (λa w hs=>Zie)) K1)<|Ys (Zp 9 [] (Cg 1 2 e g O7 O7 h)) λ_ _=>go 2 ?_;refine Xb J J (Ll (Xk ( .int .i64 0) (Zs8 J J J) (aD (Value.int .i64) j)) K1)<|go 3 ?_;refine Zu<|go 8<|kt O3<|go 8 ?_;refine tt (Zpd 1 J J J J J J sizeOf28 J J O12 J) λ_ _=>go 9 ?_;exact Yq k () results316 J aA Za
abbrev RZ:=(Bool×ByteArray)×(Bool×ByteArray)
abbrev Q0:RZ:=((false,⟨#[]⟩),(false,⟨#[]⟩))
noncomputable def qx (z:RZ):Int:=if h:okR z.1.1 z.1.2 z.2.1 z.2.2=true then(Yk4 h).choose else 0
noncomputable def qy (z:RZ):Int:=if h:okR z.1.1 z.1.2 z.2.1 z.2.2=true then(Yk4 h).choose_spec.choose else 0
theorem Zpl(x y x2 y2:Int)(t:0<y)(n:0<y2)(p:bl x.natAbs<=65536:=by omega)(q:bl y.natAbs<=65536:=by omega)(g:bl x2.natAbs<=65536:=by omega)(h:bl y2.natAbs<=65536:=by omega):Xq prog 251 #[rX x y,rX x2 y2] [] (.agg #[.bool (decide ((slow (x,y)).1<0)),.string (Qw (slow (x,y)).1.natAbs),.bool (decide ((slow (x,y)).2<0)),.string (Qw (slow (x,y)).2.natAbs),.bool (decide ((slow (x2,y2)).1<0)),.string (Qw (slow (x2,y2)).1.natAbs),.bool (decide ((slow (x2,y2)).2<0)),.string (Qw (slow (x2,y2)).2.natAbs)]):=by refine Zg func251 ntmps251 λF B u e=>go 2 ?_;refine Yk (Yf 1) λs _=>Yk (Yf 2) λj _=>Yk (Yh 3) λk _=>go 8 ?_;refine cl 3 [] (Zfr p q) λ_ _=>go 3<|Yk (Yh 4) λl _=>go 10 ?_;refine cl 4 [] (Zfr g h) λ_ _=>go 3<|Yk (Yh 5) λm _=>go 8 ?_;refine dt (Qf [(0,_),(1,_)] J K4 (λa w hs=>Yub))<|go 4 ?_;exact Yq e () results251 J aA Za
theorem Zur(k:Vp xs)(m:xs≠[]):Cal prog 360 #[v] [Ym 2 wv v xs] true (G:=Value) (λr=>True) (λr=> .tuple #[r,.int .i64 0]) (λr=>[Ym 2 wv r (Xf xs)]):=by
 refine Zg func360 ntmps360 λu t s g=>?_;have e:=Lp k;have p:=aI.2 m;have q:=Yj xs;have l:=k.len;refine go 9 ?_;refine cl 2 [1] (Nr k) λ_ _=>go 11<|kt O3<|go 3<|ktg (aF O)<|go 6 ⟨O,?_⟩;refine Bt (Zv 2 ((Yg xs).length-1) J J J J Zm Pu Ou) J J<|go 1 ⟨O2,?_⟩;refine Hx 2 [] (Hl (e.sz _)) λ_ _=>go 4<|Zc J (λj=>?_) (λj=>?_)
 .refine go 3 ?_;refine cl 2 [] (Zz _ ⟨O3,O3⟩) λ_ _=>cl 3 [2] (Na _ _ e O7 (λi=>Zcv e.sz i)) λ_ _=>go 8 ?_;exact Nb g _ results360 J aA (Qy 3 Za (by rw [Zk4 O ((Ob _).1 ‹_›)]<;>rfl))
 .refine go 11 ?_;exact Nb g _ results360 J aA (Qy 2 Za (by rw [Zk3 (λh=>by have n:=(Ob _).2 h;exact absurd n ‹_›)]<;>rfl))
theorem sg_odd(g:Cvd xs)(l:xs≠[]):Cal prog 310 #[v] [Ym 2 wv v xs] true (G:=Value) (λr=>True) (λr=> .tuple #[r,.int .i64 0]) (λr=>[Ym 2 wv r (Ih xs)]):=by
 refine Zg func310 ntmps310 λw0 sc hw s=>?_;refine Zf (Qi 999 2 144 wv)<|Zf (Yz 999 J J pV)<|go 9 ?_;refine cl 2 [1] (Zur g.v l) λ_ _=>go 11<|kf O3<|go 7 ?_;refine tt (Yx [(0,_)] 3 (enc:=Yd) ([1]:List Int) J J K2 Ql ti3 J J J J J pZ.cells J J hw.h) (λv _=>?_);refine Ye (Yz 3 J J pZ)<|cl 4 [3] (Zat (λx h=>by rw [cI.1 h];exact⟨O3,O3⟩)) λ_ _=>go 18<|Zf (Xu 2 80 J J J)<|Zf (Xu 4 81 J J J)<|Zf (Xu 999 82 J J J) ?_;refine lp (G:=Value×Value×Value×List Int×List Int×List Int×Nat) [] [0,1,999,2,3,4] (λq=>[(4,q.1),(6,q.2.1),(8,q.2.2.1),(9,.int .i64 (q.2.2.2.2.2.2:Int))]) (λq=>[(80,Ym 2 wv q.1 q.2.2.2.1),(81,Ym 2 wv q.2.1 q.2.2.2.2.1),(82,Ym 2 wv q.2.2.1 q.2.2.2.2.2.1)]) (λq=>(OddI xs q.2.2.2.2.2.2 q.2.2.2.1 q.2.2.2.2.1 q.2.2.2.2.2.1)/\(1<=q.2.2.2.2.2.2)/\(q.2.2.2.2.2.2+q.2.2.2.1.length<=12)) (λq=>q.2.2.2.1.length) (_,_,_,Xf xs,[1],[],1) ⟨OddI.start g l,O1,by have:=Pq g.v.tr;have:=g.l;dsimp only;omega⟩ ⟨J,J,J,J,aA⟩ ⟨J,J,J,aA⟩ ?_;rintro⟨vr,vo,vb,e,b1,F,t⟩ ⟨m,I,M⟩;dsimp only at m I M;dsimp only;obtain⟨u,a2,a3,a4,a5,a6,a7,a8,a9,n,w,B,S,V,W,a0,j,b0⟩:=Zej g l (m.dp g l);obtain⟨o1,o2,o3⟩:=m.out g l;refine go 5 ?_;refine cl 5 [80] (Zau u a3) λ_ _=>go 11<|kf O3<|go 9 ?_;refine cl 6 [80,5] (Zvt u a4 13 a5 a6) λ_ _=>?_;refine Ye (Oy 6 (q:=Ym 2 wv _ (Om 13 e)) (aD (Ym 2 wv _) a7) J J)<|go 11<|kf O3<|go 9 ?_;refine cl 7 [80,6] (Zdh u a8 a9) λ_ _=>?_;refine Ye (Oy 7 (q:=Ym 2 wv _ (sqf 13 e)) (aD (Ym 2 wv _) ((aM n).trans w)) J J)<|go 11<|kf (aE (λh=>h (aM n)))<|go 9 ?_;refine dt (Zn3 J J J O O)<|go 3 ?_;refine Zc J (λH=>?_) (λH=>?_)
 .have R:t%2=0:=O;obtain⟨e1,e2,N,e4,e5,P,Q,e8⟩:=m.even g l R;refine go 4 ?_;refine cl 8 [82,7] (Zdh e1 B e2) λ_ _=>?_;refine Ye (Oy 8 (q:=Ym 2 wv _ (Lq F (sqf 13 e))) (aD (Ym 2 wv _) (aM N)) J J)<|go 11<|kf (aE (λh=>h (aM N)))<|go 9 ?_;refine cl 9 [81,8] (Zmt _ _ o1 e4 e5) λ_ _=>go 10<|kf O3<|go 13<|Zc J (λp=>?_) (λp=>?_)
  .refine go 13 ?_;exact Nb s _ results310 J aA (Qy 9 Za (by first|(rw [m.odd_end g l O O]<;>rfl)|(rw [P O]<;>rfl)))
  .refine go 15 ⟨O,?_⟩;exact Zn (Xu 6 80 J J J)<|Zn (Xu 9 81 J J J)<|Zn (Xu 7 82 J J J)<|Yi (_,_,_,Om 13 e,_,sqf 13 e,t+1) ⟨by first|exact m.odd_next O O|exact Q O,O1,by have:=j O;dsimp only;omega⟩ (j O) K4 K3
 .have R:t%2=1:=O;refine go 10<|Zc J (λk=>?_) (λk=>?_)
  .refine go 13 ?_;exact Nb s _ results310 J aA (Qy 81 Za (by first|(rw [m.odd_end g l O O]<;>rfl)|(rw [P O]<;>rfl)))
  .refine go 15 ⟨O,?_⟩;exact Zn (Xu 6 80 J J J)<|Zn (Xu 7 82 J J J)<|Yi (_,_,_,Om 13 e,_,sqf 13 e,t+1) ⟨by first|exact m.odd_next O O|exact Q O,O1,by have:=j O;dsimp only;omega⟩ (j O) K4 K3
theorem sg_of(n:Cvd xs):Cal prog 250 #[v] [Ym 2 wv v xs] true (G:=Value×List (SL×List Int)×Value×List (SL×List Int)) (λr=>r.2.1.map Prod.snd=Pn xs/\r.2.2.2.map Prod.snd=Ak xs) (λr=> .tuple #[.agg #[r.1,r.2.2.1],.int .i64 0]) (λr=>[Qb 1 Nk qZ r.1 r.2.1,Qb 1 Nk qZ r.2.2.1 r.2.2.2]):=by
 refine Zg func250 ntmps250 λw0 sc S w=>?_;refine Zdt (Xe 1 J Zm) (λsv F=>?_);subst F;have hv:=n.v;refine Zf (Qi 999 2 144 wv)<|Zf (Yz 999 J J pV)<|go 2<|Yk (Yh 2) λbx _=>go 5<|Yk (Yh 3) λs _=>go 10<|Zc J (λj=>?_) (λj=>?_)
 .refine go 9<|Zn (Qi 70 1 140 (Nk (α:=List Int)))<|Zn (Ya qZ 71)<|Zn (Yz 70 J J pS)<|Zn (Yy 70 71 72 J J J J) ?_;exact Nb w (.slice none 0 0,[],.slice none 0 0,[]) results250 J ⟨(Zqd O).symm,(Ytm O).symm⟩ (Qy 72 (Qy 72 Za))
 .have R:xs≠[]:=λe=>by rw [e]at j;simp at j
  obtain⟨V,q2,q3,q4,q5⟩:=Zcl n R;refine go 11<|Zf (Qi 70 1 140 (Nk (α:=List Int)))<|Zf (Ya qZ 71)<|Zf (Xu 1 80 J J J) ?_;refine lp (G:=List (SL×List Int)×SL×List Int×Value×Nat) [0,2,4] [0,1,999,2] (λq=>[(5,Xi q.2.1)]) (λq=>[(70,Oc 1 140 Nk q.2.2.2.1 q.1),(71,Nt qZ q.1),(80,Ym 2 wv (Xi q.2.1) q.2.2.1),(3,box s 336 #[q.2.2.2.1,.slice none 0 0])]) (λq=>(Vp q.2.2.1)/\(Sz q.2.2.2.2 q.2.2.1)/\(q.2.2.2.2+5*q.2.2.1.length<=260)/\(q.1.length+q.2.2.1.length<=11)/\(q.1.map Prod.snd ++ Pn q.2.2.1=Pn xs)) (λq=>q.2.2.1.length) ([],sv,xs,_,205) ⟨hv,n.s,by have:=n.l;dsimp only;omega,by have:=n.l;simp;omega,rfl⟩ K1 K4 ?_;rintro⟨Q,P,y,vo,k⟩ ⟨I,m,hk,N,l⟩;dsimp only at I m hk N l;dsimp only;refine go 8<|Zc J (λt=>?_) (λt=>?_)
  .refine go 4 ?_;have a0:=Oe y;have u:∀i,bl (cf y (i+1)*((i:Int)+1)).natAbs<=65536:=λi=>by have h:=Gz m O i;rw [Zib]at h;omega
   refine go 4 ?_;refine tt (Yx [(0,_)] 4 (enc:=Nk) [(P,y)] J J K2 Zo9 ti140 J J J J J pS.cells J J S.h) (λv _=>?_);refine tt (Qr 70 4 24 J J J J J J O3 J (Zo pS) Zo9 ti140 J pS J J J O9 O3 J S.h) λa1 _=>go 7 ?_;refine cl 84 [80] (Zau I u) λ_ _=>?_;refine Znl (Xe 84 J Zm) (λsn B=>?_);subst B;refine go 10<|kf O3<|go 5<|Zn (Zh (q:=qZ) (z:=(P,y)) 71 80 71 J J J J J)<|Zn (Xu 84 80 J J J) ?_;exact Yi (Q ++ [(P,y)],sn,Xg y,_,k+5) ⟨Zgm I (λi _=>u i),Gz m O,O8,by dsimp only;simp;omega,by dsimp only;rw [bN,gX,<-l,Ze0 (p:=y) O];rfl⟩ O8 K1 K4
  .refine go 6 ?_;have M:y.length=0:=O;have H:Q.map Prod.snd=Pn xs:=by rw [<-l,Zqd M,eW]
   refine Zf (Yz 70 J J pS)<|Zf (Yy 70 71 72 J J J J)<|go 2 ?_;refine cl 5 [1] (sg_odd n R) λ_ _=>go 11<|kf O3<|go 8 ?_;refine cl 6 [5] (Yii q2 V.one q5 13 V.ok) λg W=>go 17 ?_;exact Nb w (_,Q,_,g.2) results250 J ⟨H,(W).trans (Ztg O).symm⟩ (Qy 72 (Qy 6 Za))
theorem Zut(x y x2 y2:Int)(t:0<y)(j:0<y2)(w:Vp xs)(u:Zc8 xs 0)(m:efit (x,y)=true)(n:efit (x2,y2)=true)(p:bl x.natAbs<=65536:=by omega)(q:bl y.natAbs<=65536:=by omega)(e:bl x2.natAbs<=65536:=by omega)(g:bl y2.natAbs<=65536:=by omega):Xq prog 249 #[v,rX x y,rX x2 y2,.slice none 0 0] [Ym 2 wv v xs] (.int .i64 (if 0<cmp (x,y) (x2,y2)then 3 else 0)):=by
 refine Zg func249 ntmps249 λI H F k=>?_;refine Zf (Qi 999 2 144 wv)<|Zf (Yz 999 J J pV)<|go 2<|Yk (Yf 2) λB _=>Yk (Yf 3) λs _=>go 7 ?_;refine cl 3 [1] (Xs ‹_›) λ_ _=>?_;refine dt (dF (Qc J J) (vB O3))<|go 2 ?_;refine Hx 3 [] (Lo p q t) λ_ _=>?_;refine Bt (dF (Qc J J) (vB O3)) J J<|go 3 ?_;refine Hx 3 [] (Lo e g j) λ_ _=>?_;refine Bt (dF (Qc J J) (vB O3)) J J<|go 4 ?_;refine kfg O3<|go 9 ?_;refine cl 3 [1] (Yi6 w) λ_ _=>?_;refine dt (dF (d_not J J) (vB (aE (λh=>h u))))<|go 2 ?_;refine Hx 3 [] (Zl8 p q) λ_ _=>?_;refine Bt (dF (Qc J J) (vB (by rw [m];rfl))) J J<|go 3 ?_;refine Hx 3 [] (Zl8 e g) λ_ _=>?_;refine Bt (dF (Qc J J) (vB (by rw [n];rfl))) J J<|go 13 ?_;refine lp (G:=Unit) [5,6,43,44] [0,1,999,2,3] (λ_=>[(45,.int .i64 0),(9,.bool false)]) (λ_=>[]) (λ_=>True) (λ_=>0) () aA K2 aA ?_;rintro _ -;refine go 2<|kf O3<|go 14 ?_;refine cl 3 [] (Zl9 p q e g t j) λ_ _=>go 3<|Zc J (λl=>?_) (λl=>?_)
 .refine go 7 ?_;exact Yq k () results249 (by rw [aM ‹_›]) aA Za
 .refine go 17 ?_;exact Yq k () results249 (by rw [aJ ‹_›]) aA Za
theorem Yqe{h k:Nat}{p q s t:Value}(a b m:R2)(B:bl m.1.natAbs<=65536)(F:bl m.2.natAbs<=65536)(u:0<m.2)(g:∀z∈ls,Vp z.2)(e:∀z∈ls,¬Iy z.2 m.1 m.2):Zx8 prog 255 #[.agg #[.bool (decide (a.1<0)),.string (Qw a.1.natAbs),.bool (decide (a.2<0)),.string (Qw a.2.natAbs),.bool (decide (b.1<0)),.string (Qw b.1.natAbs),.bool (decide (b.2<0)),.string (Qw b.2.natAbs)],rX m.1 m.2,.pointer (some ⟨h,0,none⟩),.pointer (some ⟨k,0,none⟩),.pointer (some ⟨bs,0,none⟩)] [Hr bs 340 #[.int .i64 0],Hr k 336 #[v1,v2],Qb 1 Nk qZ v1 ls,Qb 1 Nk qZ v2 cs] (box h 259 #[p,q,s,t]) (G:=Unit) (λ_=>True) (λ_=> .bool (decide (vlu (ls.map Prod.snd) (m.1,m.2)<0))) (λ_=>box h 259 #[.bool (decide (m.1<0)),.string (Qw m.1.natAbs),.bool (decide (m.2<0)),.string (Qw m.2.natAbs)]):=by refine Ze3 func255 J ntmps255 J K4 ?_;intro M I n j;have n:=Hw.mk n;simp only [Po,Xh];refine go 2<|Yk (Yf 6) λH _=>Yk (Yf 7) λl _=>go 13 ?_;refine cl 7 [4,5,2] (Zl7 _ _ B F u g e) λ_ _=>go 5 ?_;exact Dr (.inl J) j () (λa w hs=>Ze5 hs results255 J) J aA 1 J J J J (Zs 2 J J J (Zs 3 J J J (Zs 4 J J J (Zs 5 J J J Zr))))
theorem Zot{F bc:Nat}(xs:List Int)(k l:R2)(s t:Rat){I M N P:Value}(h:Cvd xs)(Q:xs≠[])(g:ls.map Prod.snd=Pn xs)(e:cs.map Prod.snd=Ak xs)(R:NIn xs s t 0 k l):Zx8 prog 254 #[.agg #[v1,v2],.pointer (some ⟨bs,0,none⟩),.agg #[.bool (decide (k.1<0)),.string (Qw k.1.natAbs),.bool (decide (k.2<0)),.string (Qw k.2.natAbs),.bool (decide (l.1<0)),.string (Qw l.1.natAbs),.bool (decide (l.2<0)),.string (Qw l.2.natAbs)],.func (.func 255) #[] #[.pointer (some ⟨F,0,none⟩),.pointer (some ⟨bc,0,none⟩),.pointer (some ⟨bs,0,none⟩)]] [Hr bs 340 #[.int .i64 0],Hr bc 336 #[v1,v2],Qb 1 Nk qZ v1 ls,Qb 1 Nk qZ v2 cs] (box F 259 #[I,M,N,P]) (G:=R2×R2×R2) (λr=>Fnd xs s t r.1) (λr=> .agg #[.bool (decide (r.2.1.1<0)),.string (Qw r.2.1.1.natAbs),.bool (decide (r.2.1.2<0)),.string (Qw r.2.1.2.natAbs),.bool (decide (r.2.2.1<0)),.string (Qw r.2.2.1.natAbs),.bool (decide (r.2.2.2<0)),.string (Qw r.2.2.2.natAbs)]) (λr=>box F 259 #[.bool (decide (r.1.1<0)),.string (Qw r.1.1.natAbs),.bool (decide (r.1.2<0)),.string (Qw r.1.2.natAbs)]):=by
 refine Ze3 func254 J ntmps254 J K4 ?_;intro w0 sc V S;have V:=Hw.mk V;simp only [Po,Xh];refine go 2<|Yk (Yf 6) λbx _=>Yk (Yf 7) λn _=>Yk (Yh 8) λa1 _=>go 4 ?_;refine lp (G:=R2×R2×Nat×Value×Value×Value×Value) [1,3,4,6,8] [0,2,3,4,5,6,8] (λq=>[]) (λq=>[(7,box n 342 #[.bool (decide (q.1.1<0)),.string (Qw q.1.1.natAbs),.bool (decide (q.1.2<0)),.string (Qw q.1.2.natAbs),.bool (decide (q.2.1.1<0)),.string (Qw q.2.1.1.natAbs),.bool (decide (q.2.1.2<0)),.string (Qw q.2.1.2.natAbs)]),(1,box F 259 #[q.2.2.2.1,q.2.2.2.2.1,q.2.2.2.2.2.1,q.2.2.2.2.2.2])]) (λq=>NIn xs s t q.2.2.1 q.1 q.2.1) (λq=>5436-q.2.2.1) (k,l,0,I,M,N,P) R aA K2 ?_;rintro⟨a,b,j,I,M,N,P⟩ H;dsimp only at H;dsimp only;obtain⟨r1,r2,r3,r4,r5,W,r7⟩:=H.round h Q;rw [<-g]at r5 W r7;rw [<-e]at W r7;refine go 7<|kt O3<|go 13 ?_;refine cl 8 [2] (Yfn a.1 a.2 b.1 b.2 O O O O r3.2.2 r4.2.2 r1) λ_ _=>Yk (Yh 9) λa2 _=>go 9 ?_;refine tt (Zca 1 [] [_,_] [_,_,_] (Yqe a b (Nd a b) O O r2.2.2 (Lg g (λq B=>(Cb h q B).1)) (Lg g (Zdy h (m:=(Nd a b)) O O).1)) J J J J K2 call255 J J O3 (Zs 2 J J J (Zs 3 J J J (Zs 4 J J J (Zs 5 J J J Zr)))) J V.h (λ_ _=>trivial)) λ_ _=>go 2 ?_;refine Zc J (λp=>?_) (λp=>?_)
 .refine go 13 ?_;exact Dr (.inl J) S (Nd a b,a,b) (λa w hs=>Ze5 hs results254 (Gl 8 J J isAgg342 sizeOf342 J)) J (r5 ‹_›) 1 J J J J (Zs 2 J J J (Zs 3 J J J (Zs 4 J J J (Zs 5 J J J Zr))))
 .refine go 9 ?_;refine cl 9 [4,5,2] (Zc9 a.1 a.2 (Nd a b).1 (Nd a b).2 r3.2.2 r2.2.2 (Lg g (λq B=>(Cb h q B).1)) (Lg g (Zdy h (m:=a) O O).1) (Lg e (λq B=>(Zh9 h q B).1)) (Lg e (Zdy h (m:=a) O O).2) (Lg e (Zdy h (m:=(Nd a b)) O O).2) (by have h7:=aD List.length e;rw [aT]at h7;have:=Zlf xs;omega)) λ_ _=>go 2<|Pw J (λu=>?_) (λu=>?_)
  .refine go 6 ?_;exact Yi (a,Nd a b,j+1,_,_,_,_) (W ‹_› ‹_›) (by have:=H.j h Q;dsimp only;omega) aA K2
  .refine go 6 ?_;exact Yi (Nd a b,b,j+1,_,_,_,_) (r7 ‹_› ‹_›) (by have:=H.j h Q;dsimp only;omega) aA K2
theorem Hg(a b:R2)(l:Cvd xs)(p:E32 a)(s:E32 b)(hc:¬0<cmp a b)(V:ngb (Pn xs) (Ak xs) a b=true):Cal prog 175 #[v,rX a.1 a.2,rX b.1 b.2] [Ym 2 wv v xs] false (G:=R2) (λr=>Fnd xs (qv a) (qv b) r) (λr=> .tuple #[rX r.1 r.2,.bool true,.int .i64 0]) (λr=>[]):=by
 refine Zg func175 ntmps175 λw0 sc hw N=>?_;have b0:=p.b1;have b1:=p.b2;have u:=p.p;have b2:=s.b1;have b3:=s.b2;have w:=s.p;have I:=Ytf p s hc;have h0:=ngb_ne V;have Q:=Ysu p s;have a9:([slow a,slow b]:List R2).length=2:=rfl;refine Zf (Qi 999 2 144 wv)<|Zf (Yz 999 J J pV)<|go 2<|Yk (Yf 2) λbx _=>Yk (Yf 3) λa0 _=>Yk (Yh 4) λa1 _=>go 10 ?_;refine cl 4 [1] (Zut a.1 a.2 b.1 b.2 u w l.v (Zxj l O) p.efit s.efit) λ_ _=>go 6<|kf (aE (λh=>h (aJ hc)))<|go 8 ?_;refine cl 5 [1] (sg_of l) λg hg=>?_;obtain⟨e,j⟩:=hg;refine go 3<|Yk (Yh 7) λa2 _=>go 8<|kf O3<|go 7<|Yk (Yh 8) λa3 _=>go 6 ?_;refine cl 8 [] (Zpl a.1 a.2 b.1 b.2 u w) λ_ _=>Yk (Yh 9) λa4 _=>go 8 ?_;refine cl 9 [5,6,8] (Zc9 a.1 a.2 b.1 b.2 u w (Lg e (λq M=>(Cb l q M).1)) (Lg e (Zdy l (m:=a) O O).1) (Lg j (λq M=>(Zh9 l q M).1)) (Lg j (Zdy l (m:=a) O O).2) (Lg j (Zdy l (m:=b) O O).2) (by have h7:=aD List.length j;rw [aT]at h7;have:=Zlf xs;omega)) λ_ _=>go 8<|kf O3<|go 2 ?_;refine Bt (dF (Qc J J) (vB (by rw [e,j];show(!ngb (Pn xs) (Ak xs) a b)=false;rw [V];rfl))) J J<|go 13 ?_;refine tt (Yx [(0,_),(1,_)] 10 (enc:=rq) ([slow a,slow b]:List R2) J J K4 underlying346 ti259 J J fill24 J J pQ.cells J J hw.h) λv _=>go 5 ?_;refine lp (G:=Nat) [6,10,12,13,56,57] [0,1,999,2,3,4,5,6,7,8,9,10] (λi=>[(58,.int .i64 (i:Int))]) (λi=>[]) (λi=>(i<=2)/\(∀k,k<i->¬vlu (g.2.1.map Prod.snd) ([slow a,slow b].getD k (0,0))<0)) (λi=>2-i) 0 ⟨O1,λk hk=>absurd hk (bG k)⟩ K1 aA ?_;rintro i ⟨hi,W⟩;refine go 6<|Zc J (λB=>?_) (λB=>?_)
 .refine go 7 ⟨O2,?_⟩;refine dt (Xd 10 (0,0) J J J (Zo pQ) pQ O2)<|Yk (Yh 11) λa5 _=>go 4 ?_;have t:=Q i O;have a7:=t.b1;have a8:=t.b2;refine go 3 ?_;refine cl 11 [5,6,8] (Zl7 ([slow a,slow b].getD i (0,0)).1 ([slow a,slow b].getD i (0,0)).2 O O t.p (Lg e (λq M=>(Cb l q M).1)) (Lg e (Zdy l (m:=([slow a,slow b].getD i (0,0))) O O).1)) λ_ _=>go 3<|Zc J (λF=>?_) (λF=>?_)
  .refine go 1<|Qn [8,11] [5] ?_;refine Zk 0 [(0,0),(1,0),(2,0),(3,1),(4,0),(5,3)]<|go 7 ?_;exact Zu<|go 7<|xe3 N ([slow a,slow b].getD i (0,0)) results175 J (Yrq p s I O (by rw [<-e];assumption)) Za
  .refine go 7 ⟨O,?_⟩;exact Yi (i+1) ⟨O1,λk S=>by rcases bA.1 S with n|n;exact W k n;subst n;assumption⟩ O1 K1 aA
 .refine go 6 ?_;have R:=Ygb l p s I (by have n:=W 0 O;rw [e]at n;exact n) (by have n:=W 1 O;rw [e]at n;exact n) V;refine go 1<|Yk (Yh 12) λa6 _=>go 6 ?_;refine dt (Yd2 [] [_,_,_] J aA K3)<|tt (Zca 12 [] [_,_,_,_] [] (Zot xs (slow a) (slow b) (qv a) (qv b) l h0 e j R) J J J J K4 call254 J J O3 (Zi3 8 J J (Zi3 7 J J (Zs 5 J J J (Zs 6 J J J Zr)))) J hw.h (λ_ _=>trivial)) λP H=>go 7 ?_;exact kf O3<|go 14<|xe3 N (P.1) results175 J H Za
theorem Gc(a b:R2)(j:Cvd xs)(p:E32 a)(s:E32 b)(S:¬0<cmp a b)(W:ngb (Pn xs) (Ak xs) a b=false):Xq prog 175 #[v,rX a.1 a.2,rX b.1 b.2] [Ym 2 wv v xs] (.tuple #[.agg #[.bool false,.string ⟨#[]⟩,.bool false,.string ⟨#[]⟩],.bool false,.int .i64 0]):=by refine Zg func175 ntmps175 λw0 sc hw u=>?_;have N:=p.b1;have P:=p.b2;have k:=p.p;have Q:=s.b1;have R:=s.b2;have l:=s.p;refine Zf (Qi 999 2 144 wv)<|Zf (Yz 999 J J pV)<|go 2<|Yk (Yf 2) λbx _=>Yk (Yf 3) λB _=>Yk (Yh 4) λF _=>go 10 ?_;refine cl 4 [1] (Zut a.1 a.2 b.1 b.2 k l j.v (Zxj j O) p.efit s.efit) λ_ _=>go 6<|kf (aE (λh=>h (aJ S)))<|go 8 ?_;refine cl 5 [1] (sg_of j) λg V=>?_;obtain⟨n,e⟩:=V;refine go 3<|Yk (Yh 7) λG _=>go 8<|kf O3<|go 7<|Yk (Yh 8) λH _=>go 6 ?_;refine cl 8 [] (Zpl a.1 a.2 b.1 b.2 k l) λ_ _=>Yk (Yh 9) λI _=>go 8 ?_;refine cl 9 [5,6,8] (Zc9 a.1 a.2 b.1 b.2 k l (Lg n (λq t=>(Cb j q t).1)) (Lg n (Zdy j (m:=a) O O).1) (Lg e (λq t=>(Zh9 j q t).1)) (Lg e (Zdy j (m:=a) O O).2) (Lg e (Zdy j (m:=b) O O).2) (by have M:=aD List.length e;rw [aT]at M;have:=Zlf xs;omega)) λ_ _=>go 8<|kf O3<|go 2 ?_;refine Bt (dT (Qc J J) (vB (by rw [n,e];show(!ngb (Pn xs) (Ak xs) a b)=true;rw [W];rfl))) J J<|go 5 ?_;refine Qn [8] [5]<|Zk 0 [(0,0),(1,0),(2,0),(3,1),(4,0),(5,3)]<|Xb J J (Ll (Qf [] J aA (λa w hs=>Zxz)) K1)<|go 6 ?_;exact Zu<|go 3<|xe3 u () results175 J aA Za
theorem ve_ins(l:List Int)(m:Int)(t:0<=m/\m<=16777216):Xq prog 161 #[.int .i64 m,v] [Ym 1 Yd v l] (.bool (Zzj m l)):=by
 refine Zg func161 ntmps161 λB w u e=>?_;refine Xr (Ps (i:=1) J Zm) λp=>go 14 ?_;refine lp (G:=Nat) [0,7,8] [0,1] (λk=>[(9,.int .i64 (k:Int))]) (λk=>[]) (λk=>(k<=l.length)/\(∀i,i<k->-m<=l.getD i 0/\l.getD i 0<=m)) (λk=>l.length-k) 0 ⟨O1,λi hi=>absurd hi (bG i)⟩ K1 aA ?_;rintro k ⟨s,q⟩;refine go 6<|Zc J (λg=>?_) (λg=>?_)
 .refine go 15 ⟨O2,O2,?_⟩;refine dt (Ynj J J)<|go 2 ?_;refine Yc 17 J (λn=>?_) (λn=>?_)
  .refine go 18 ?_;exact Yq e () results161 (by rw [Yl9 k O O]) aA Za
  .refine go 6<|Zc J (λh=>?_) (λh=>?_)
   .refine go 11 ?_;exact Yq e () results161 (by rw [Yl9 k O O]) aA Za
   .refine go 7 ⟨O,?_⟩;exact Yi (k+1) ⟨O1,λi hi=>by rcases bA.1 hi with j|j;exact q i j;subst j;exact⟨O,O⟩⟩ O1 K1 aA
 .refine go 11 ?_;exact Yq e () results161 (by rw [insB_t λi hi=>q i O]) aA Za
theorem Yht(x y z:Int):Xq prog 87 #[.agg #[.int .i64 x,.int .i64 y,.int .i64 z]] [] (.bool (ptB x y z)):=by refine Zg func87 ntmps87 λk j g e=>go 2 ?_;refine Yk (Yf 1) λh _=>go 11 ?_;refine tt (Yx [(0,_),(1,_),(2,_)] 2 (enc:=Yd) ([x,y,z]:List Int) J J K6 Ql ti3 J J J J J pZ.cells J J g.h) λv _=>cl 2 [2] (ve_ins [x,y,z] 1048576 ⟨O3,O3⟩) λ_ _=>go 4 ?_;exact Yq e () results87 J aA Za
theorem Zw4:Xq prog 103 #[.agg #[.int .i64 zd,.int .i64 zn,.int .i64 ze]] [] (.bool (znB zd zn ze)):=by
 refine Zg func103 ntmps103 λp n m e=>go 2 ?_;refine Yk (Yf 1) λl _=>go 9<|Yc 6 J (λk=>?_) (λk=>?_)
 .refine go 5<|Yc 11 J (λg=>?_) (λg=>?_)
  .refine go 5<|Yc 16 J (λh=>?_) (λh=>?_)
   .refine go 7<|Yc 23 J (λj=>?_) (λj=>?_)
    .refine go 8 ?_;exact Yq e () results103 (by unfold znB;first|(simp_all;done)|(simp_all;omega)) aA Za
    .refine go 8 ?_;exact Yq e () results103 (by unfold znB;first|(simp_all;done)|(simp_all;omega)) aA Za
   .refine go 15 ?_;exact Yq e () results103 (by unfold znB;first|(simp_all;done)|(simp_all;omega)) aA Za
  .refine go 20 ?_;exact Yq e () results103 (by unfold znB;first|(simp_all;done)|(simp_all;omega)) aA Za
 .refine go 25 ?_;exact Yq e () results103 (by unfold znB;first|(simp_all;done)|(simp_all;omega)) aA Za
theorem Ysv{fr P:Int}{Q R S m n p:Value}{x:List Int}(l:Sgo fr P ov x y z)(j:Sgo fr2 to2 ov2 x2 y2 z2)(W:∀i,Ab KA (tzl (Zw i x y z)))(u:∀i,Ab KA (tzl (Zw i x2 y2 z2)))(H:znB zd zn ze=true):Cal prog 257 #[.agg #[.int .i64 fr,.int .i64 P,.int .i64 ov,Q,R,S],.agg #[.int .i64 fr2,.int .i64 to2,.int .i64 ov2,m,n,p],.agg #[.int .i64 zd,.int .i64 zn,.int .i64 ze]] [Ym 1 Yd Q x,Ym 1 Yd R y,Ym 1 Yd S z,Ym 1 Yd m x2,Ym 1 Yd n y2,Ym 1 Yd p z2] true (G:=SL×List Int) (λg=>g.2=fmZ zd zn ze ov ov2 x y z x2 y2 z2) (λg=>Xi g.1) (λg=>[Ym 2 wv (Xi g.1) g.2]):=by
 refine Zg func257 ntmps257 λw0 sc hw B=>?_;have k:=fzX l j W u H;refine go 2<|Yk (Yf 7) λbx _=>Yk (Yf 8) λI _=>Yk (Yf 9) λM _=>go 5 ?_;refine tt (Yx [(0,_)] 10 (enc:=Yd) ([-1]:List Int) J J K2 Ql ti3 J J J J J pZ.cells J J hw.h) (λv _=>?_);refine Ye (Yz 10 J J pZ)<|cl 11 [10] (Zat (λa ha=>by rw [cI.1 ha];exact⟨O3,O3⟩)) λ_ _=>?_;refine Ye (Oy 11 (q:=Ym 2 wv _ [-1]) (aD (Ym 2 wv _) tzlm1) J J)<|go 18 ?_;refine dt (Qf [(0,_),(1,_),(2,_),(3,_)] J K8 (λa w hs=>Yhb ((Zl J) a w hs) ((Zl J) a w hs) ((Zl J) a w hs) ((Zl J) a w hs)))<|go 4 ?_;refine Zf (Xu 11 80 J J J)<|lp (G:=Nat×Value) [3,4,5,30] [0,1,2,3,4,5,6,7,8,9,10,11] (λq=>[(31,.int .i64 (q.1:Int)),(7,q.2)]) (λq=>[(80,Ym 2 wv q.2 (ngC [zd,ze,ov,ov2] q.1))]) (λq=>q.1<=4) (λq=>4-q.1) (0,_) O1 K2 K1 ?_;rintro⟨i,vs⟩ hi;dsimp only at hi;dsimp only;have h:=k.N i hi;refine go 6<|Zc J (λs=>?_) (λs=>?_)
 .refine go 6 ?_;refine dt (d_ix4 (i:=i) J J J underlying406 Mv Dz J O)<|go 7 ?_;refine cl 11 [] (Zz ([zd,ze,ov,ov2].getD i 0) h.inn) λ_ _=>cl 12 [80] (Na (ngC [zd,ze,ov,ov2] i) ([zd,ze,ov,ov2].getD i 0) h.v h.b h.s) λ_ _=>go 9 ?_;refine cl 12 [] (Zz ([zd,ze,ov,ov2].getD i 0) h.inn) λ_ _=>cl 13 [12] (Na (Zy (ngC [zd,ze,ov,ov2] i) ([zd,ze,ov,ov2].getD i 0)) ([zd,ze,ov,ov2].getD i 0) h.v2 h.b h.s2) λ_ _=>?_;refine go 11 ⟨O,?_⟩;exact Zn (Xu 13 80 J J J)<|Yi (i+1,_) O1 O1 K2 K1
 .obtain rfl:i=4:=O;refine go 14 ?_;refine dt (Qf [(0,_),(1,_),(2,_)] J K6 (λa w hs=>Zol ((Pg 1 J Zm) a w hs) ((Pg 4 J Zm) a w hs) ((Zl J) a w hs)))<|go 6 ?_;refine dt (Qf [(0,_),(1,_),(2,_)] J K6 (λa w hs=>Zol ((Pg 2 J Zm) a w hs) ((Pg 5 J Zm) a w hs) ((Zl J) a w hs)))<|go 6 ?_;refine dt (Qf [(0,_),(1,_),(2,_)] J K6 (λa w hs=>Zol ((Pg 3 J Zm) a w hs) ((Pg 6 J Zm) a w hs) ((Zl J) a w hs)))<|dt (Qf [(0,_),(1,_),(2,_)] J K6 (λa w hs=>Yoq))<|go 4 ?_;refine lp (G:=Nat×Value) [3,4,70] [0,1,2,3,4,5,6,7,8,9,10,11] (λq=>[(71,.int .i64 (q.1:Int)),(7,q.2)]) (λq=>[(80,Ym 2 wv q.2 (smZ zd zn ze ov ov2 x y z x2 y2 z2 q.1))]) (λq=>q.1<=3) (λq=>3-q.1) (0,_) O1 K2 K1 ?_;rintro⟨i,vs⟩ hi;dsimp only at hi;dsimp only;have e:=k.X i;refine go 6<|Zc J (λt=>?_) (λt=>?_)
  .refine go 5<|Zf (Zdb i 1 2 3 50 J J J J J J)<|Zf (Zdb i 4 5 6 51 J J J J J J)<|go 1 ?_;refine dt (d_ix9 (i:=i) J J J underlying409 sizeOf408 isAgg408 J O)<|Yk (Yh 14) λN _=>go 7 ?_;refine cl 15 [50] (Zat (l.hc i) (aB (l.lc i).2 O3)) λ_ _=>?_;refine Ye (Oy 15 (q:=Ym 2 wv _ (tzl (Zw i x y z))) (aD (Ym 2 wv _) (aJ (Zgq (l.lc i).2))) J J)<|go 11 ?_;refine cl 16 [51] (Zat (j.hc i) (aB (j.lc i).2 O3)) λ_ _=>?_;refine Ye (Oy 16 (q:=Ym 2 wv _ (tzl (Zw i x2 y2 z2))) (aD (Ym 2 wv _) (aJ (Zgq (j.lc i).2))) J J)<|go 12 ?_;refine cl 16 [] (Zz ov2 (Zj2 j)) λ_ _=>cl 17 [15] (Na _ ov2 e.v1 e.b1 e.s1) λ_ _=>go 11 ?_;refine cl 17 [] (Zz ov (Zj2 l)) λ_ _=>cl 18 [16] (Na _ ov e.v2 e.a1 e.s2) λ_ _=>go 10 ?_;refine cl 19 [17,18] (Zvr (Zy (tzl (Zw i x y z)) ov2) (Zy (tzl (Zw i x2 y2 z2)) ov) e.v3 e.v4 e.s3) λ_ _=>?_;refine Ye (Oy 19 (q:=Ym 2 wv _ (dfP (Zw i x y z) (Zw i x2 y2 z2) ov ov2)) (aD (Ym 2 wv _) J) J J)<|go 11 ?_;refine cl 19 [] (Zz (Zw i ze ze zn) (k.K i)) λ_ _=>cl 20 [19] (Na _ (Zw i ze ze zn) e.v5 e.k1 e.s4) λ_ _=>?_;refine Ye (Oy 20 (q:=Ym 2 wv _ (dfK (Zw i x y z) (Zw i x2 y2 z2) ov ov2 (Zw i ze ze zn))) (aD (Ym 2 wv _) J) J J)<|go 10 ?_;refine cl 21 [20,20] (Zmt (dfK (Zw i x y z) (Zw i x2 y2 z2) ov ov2 (Zw i ze ze zn)) (dfK (Zw i x y z) (Zw i x2 y2 z2) ov ov2 (Zw i ze ze zn)) e.v6 e.v6 e.m6) λ_ _=>?_;refine Ye (Oy 21 (q:=Ym 2 wv _ (sqK (Zw i x y z) (Zw i x2 y2 z2) ov ov2 (Zw i ze ze zn))) (aD (Ym 2 wv _) J) J J)<|go 9 ?_;refine cl 22 [80,21] (Zvu (smZ zd zn ze ov ov2 x y z x2 y2 z2 i) (sqK (Zw i x y z) (Zw i x2 y2 z2) ov ov2 (Zw i ze ze zn)) (k.Q.v i O) e.v7 (k.Q.s i O)) λ_ _=>?_;refine Ye (Oy 22 (q:=Ym 2 wv _ (smZ zd zn ze ov ov2 x y z x2 y2 z2 (i+1))) (aD (Ym 2 wv _) J) J J)<|go 11 ⟨O,?_⟩;exact Zn (Xu 22 80 J J J)<|Yi (i+1,_) O1 O1 K2 K1
  .obtain rfl:i=3:=O;refine go 8 ?_;refine cl 23 [80] (Nr (k.Q.v 3 (aH _))) λ_ _=>?_;refine Ye (Oy 23 (q:=Ym 2 wv _ (fmZ zd zn ze ov ov2 x y z x2 y2 z2)) (aD (Ym 2 wv _) J) J J)<|go 13 ?_;refine Zb4 (Xe 23 J Zm) (λsq F=>?_);subst F;generalize fmZ zd zn ze ov ov2 x y z x2 y2 z2=V;exact Yq B (sq,V) results257 J J (Qy 23 Za)
theorem Zzx(v:Value)(xs:List Int)(k:Cvd xs)(l:ngb (Pn xs) (Ak xs) (0,1) (1,1)=true):Xq prog 178 #[v] [Ym 2 wv v xs] (.bool true):=by refine Zg func178 ntmps178 λs q p e=>go 7 ?_;refine cl 1 [] (Ei 0 1 ⟨O3,O3⟩ ⟨O3,O3⟩ O3) λ_ _=>go 3<|Yk (Yh 2) λm _=>go 6 ?_;refine cl 2 [] (Ei 1 1 ⟨O3,O3⟩ ⟨O3,O3⟩ O3) λ_ _=>go 3<|Yk (Yh 3) λh _=>go 9 ?_;refine cl 3 [1] (Hg (0,1) (1,1) k Zfm Zfl Zd0 l) λg n=>go 4<|Yk (Yh 4) λj _=>go 12 ?_;exact Yq e () results178 J aA Za
theorem Yg0(v:Value)(xs:List Int)(j:Cvd xs)(k:ngb (Pn xs) (Ak xs) (0,1) (1,1)=false):Xq prog 178 #[v] [Ym 2 wv v xs] (.bool false):=by refine Zg func178 ntmps178 λp n m e=>go 7 ?_;refine cl 1 [] (Ei 0 1 ⟨O3,O3⟩ ⟨O3,O3⟩ O3) λ_ _=>go 3<|Yk (Yh 2) λl _=>go 6 ?_;refine cl 2 [] (Ei 1 1 ⟨O3,O3⟩ ⟨O3,O3⟩ O3) λ_ _=>go 3<|Yk (Yh 3) λg _=>go 9 ?_;refine cl 3 [1] (Gc (0,1) (1,1) j Zfm Zfl Zd0 k) λ_ _=>go 4<|Yk (Yh 4) λh _=>go 12 ?_;exact Yq e () results178 J aA Za
def tmL(a b k:Int):List Int:=if b-a=0\/k=2 then [a]else if k=1 then [a,b-a]else [a,0,0,10*(b-a),-15*(b-a),6*(b-a)]
def tmL_0 (a:Int)(b:Int)(k:Int)(h:b-a=0\/k=2):tmL a b k=[a]:=aM h
def tmL_1{a b k:Int}(h:¬(b-a=0\/k=2))(e:k=1):tmL a b k=[a,b-a]:=(aJ h).trans (aM e)
def tmL_2{a b k:Int}(h:¬(b-a=0\/k=2))(e:k≠1):tmL a b k=[a,0,0,10*(b-a),-15*(b-a),6*(b-a)]:=(aJ h).trans (aJ e)
def sm_bl{M:Nat}(h:x.natAbs<=1000000000000000000000000)(e:80<=M):bl x.natAbs<=M:=aB ((Qq 80 _).2 (aU h O3)) e
theorem Zrn(x y z:Int):ptB x y z=(decide (-1048576<=x/\x<=1048576) && decide (-1048576<=y/\y<=1048576) && decide (-1048576<=z/\z<=1048576)):=by unfold ptB Zzj;simp only [lW,List.all_nil,Bool.and_true,Bool.decide_and,Bool.and_assoc]
theorem i_le{l:List Int}(h:Zb zs=l){n:Nat}(e:l.length<=n):zs.length<=n:=by grind
theorem Bg{l:List Int}(h:Zb zs=l)(e:Vp l):Sz 1000000 (Zb zs):=by rw [h];exact e.sz.mono O
def Gq{l:List Int}(h:Zb zs=l)(g:Vp l){n:Nat}(e:25<=n):zs.length<=n:=i_le h (aB g.len e)
abbrev TzT:=SL×List (Int×SL)
def sqF(ov ov2:Int)(x y z x2 y2 z2:List Int)(i:Nat):List Int:=sqP (Zw i x y z) (Zw i x2 y2 z2) ov ov2
def sqR(ov ov2:Int)(x y z x2 y2 z2:List Int):Nat->List (List Int)
 | 0=>[]
 | i+1=>sqR ov ov2 x y z x2 y2 z2 i ++ [sqF ov ov2 x y z x2 y2 z2 i]
theorem sqR_s{x:List Int}{e:List TzT}{g:TzT}(h:e.map (λz=>Zb z.2)=sqR ov ov2 x y z x2 y2 z2 i)(j:Zb g.2=sqF ov ov2 x y z x2 y2 z2 i):(e ++ [g]).map (λz=>Zb z.2)=sqR ov ov2 x y z x2 y2 z2 (i+1):=by rw [bN,h,bH,j];rfl
theorem Yip{x:List Int}{e:List TzT}(h:e.map (λz=>Zb z.2)=sqR ov ov2 x y z x2 y2 z2 3):e.length=3/\Zb (e.getD 0 T0).2=sqF ov ov2 x y z x2 y2 z2 0/\Zb (e.getD 1 T0).2=sqF ov ov2 x y z x2 y2 z2 1/\Zb (e.getD 2 T0).2=sqF ov ov2 x y z x2 y2 z2 2:=by
 have g:=aD List.length h;rw [aT]at g;have g:e.length=3:=g
 match e,g with
 | [a,b,c],_=>
  have j:[Zb a.2,Zb b.2,Zb c.2]=[sqF ov ov2 x y z x2 y2 z2 0,sqF ov ov2 x y z x2 y2 z2 1,sqF ov ov2 x y z x2 y2 z2 2]:=h;grind
def ovW(ov ov2:Int):Int:=ov*ov2*(ov*ov2)
def rfL(zn ze ov ov2:Int)(x y z x2 y2 z2:List Int):List Int:=Gw (Zy (Gw (sqF ov ov2 x y z x2 y2 z2 0) (sqF ov ov2 x y z x2 y2 z2 1)) (ze*ze)) (Zy (sqF ov ov2 x y z x2 y2 z2 2) (zn*zn))
def rfW(zd ze ov ov2:Int):Int:=zd*zd*(ze*ze)*ovW ov ov2
def rfZ(zd zn ze ov ov2:Int)(x y z x2 y2 z2:List Int):List Int:=Bj (rfL zn ze ov ov2 x y z x2 y2 z2) (tzl [rfW zd ze ov ov2])
theorem Yir(p q:List Int)(a b k:Int):sqK p q a b k=Zy (sqP p q a b) (k*k):=by unfold sqK dfK sqP;grind [Yfp]
theorem Ytx(w:Int):cf [w] 0=w:=rfl
theorem Yo5{w:Int}{M:Nat}(h:w.natAbs<=M):Ab M (tzl [w]):=λi=>by
 rw [Lc]
 match i with
 | 0=>assumption
 | i+1=>simp [Yr,aV]
theorem Ygc(w:Int)(i:Nat):cf [w] i=-(cf [-1] i*w):=by
 all_goals grind [Ytx,Yr]
theorem rf_eq(zd zn ze ov ov2:Int)(x y z x2 y2 z2:List Int):rfZ zd zn ze ov ov2 x y z x2 y2 z2=smZ zd zn ze ov ov2 x y z x2 y2 z2 3:=by
 have h:Tr (smZ zd zn ze ov ov2 x y z x2 y2 z2 3):=by exact Xx _
 refine(Zam _ _).ext h λi=>?_;unfold rfL smZ;simp only [smP];rw [Hd,Cn,Yo,Cn,Yo,Cn,Cn,Cn,Lc];unfold fqZ;rw [Yir,Yir,Yir,Yo,Yo,Yo];have e:cf (cnZ zd ze ov ov2) i=cf [-1] i*zd*zd*ze*ze*ov*ov*ov2*ov2:=by unfold cnZ;simp only [ngC,Yo,List.getD_cons_zero,lI]
 have g:=Ygc (rfW zd ze ov ov2) i;rw [g];unfold rfW ovW sqF;simp only [Zw];grind
structure RfX (zd zn ze ov ov2:Int) (x y z x2 y2 z2:List Int):Prop where
 v0:∀i,Vp (sqF ov ov2 x y z x2 y2 z2 i)
 v1:Vp (Gw (sqF ov ov2 x y z x2 y2 z2 0) (sqF ov ov2 x y z x2 y2 z2 1))
 v2:Vp (Zy (Gw (sqF ov ov2 x y z x2 y2 z2 0) (sqF ov ov2 x y z x2 y2 z2 1)) (ze*ze))
 v3:Vp (Zy (sqF ov ov2 x y z x2 y2 z2 2) (zn*zn))
 v4:Vp (rfL zn ze ov ov2 x y z x2 y2 z2)
 v5:Vp (tzl [rfW zd ze ov ov2])
 v6:Vp (rfZ zd zn ze ov ov2 x y z x2 y2 z2)
 wb:bl (rfW zd ze ov ov2).natAbs<=1000000
 ob:bl (ov*ov2).natAbs<=1000
 oW:bl (ovW ov ov2).natAbs<=1000
 eb:bl (ze*ze).natAbs<=1000
 nb:bl (zn*zn).natAbs<=1000
 db:bl (zd*zd).natAbs<=1000
 xb:bl (zd*zd*(ze*ze)).natAbs<=1000
theorem rfX{fr to:Int}{x:List Int}(s:Sgo fr to ov x y z)(e:Sgo fr2 to2 ov2 x2 y2 z2)(hA:∀i,Ab KA (tzl (Zw i x y z)))(p:∀i,Ab KA (tzl (Zw i x2 y2 z2)))(hz:znB zd zn ze=true):RfX zd zn ze ov ov2 x y z x2 y2 z2:=by
 obtain⟨z1,a7,z3,z4,z5⟩:=zn_b hz;have o1:=s.o1;have o2:=s.o2;have o3:=e.o1;have o4:=e.o2;have Q:∀i,FmX (Zw i x y z) (Zw i x2 y2 z2) ov ov2 1:=λi=>fmX (hA i) (p i) (s.lc i).2 (e.lc i).2 ⟨o1,o2⟩ ⟨o3,o4⟩ ⟨O,O⟩;have m:=Zkf ov ov2 4294967296 4294967296 O O;have H:=Zkf (ov*ov2) (ov*ov2) _ _ m m;have n:=Zkf ze ze 100 100 O O;have I:=Zkf zn zn 100 100 O O;have N:=Zkf zd zd 4194304 4194304 O O;have P:=Zkf (zd*zd) (ze*ze) _ _ N n;have b7:=Zkf (zd*zd*(ze*ze)) (ov*ov2*(ov*ov2)) _ _ P H;have R:=by assumption
 have g:∀{v:Int} {M:Nat},v.natAbs<=M->M<BG->bl v.natAbs<=500:=λh hM=>Zxv (aU h hM);have j:∀i,Ab (6*((KD*100)*(KD*100))) (sqF ov ov2 x y z x2 y2 z2 i):=λi=>(Q i).ab8;have k:∀i,(sqF ov ov2 x y z x2 y2 z2 i).length<=11:=λi=>(Q i).l8;have t0:∀i,Tr (sqF ov ov2 x y z x2 y2 z2 i):=λi=>Qh _ _;have u:=Zon (j 0) (j 1);have S:=Zht (k 0) (k 1);have w:=(Dh u (ze*ze)).mono (aW _ n);have V:=aB (Pv (Gw (sqF ov ov2 x y z x2 y2 z2 0) (sqF ov ov2 x y z x2 y2 z2 1)) (ze*ze)) S;have B:=(Dh (j 2) (zn*zn)).mono (aW _ I);have l3:=aB (Pv (sqF ov ov2 x y z x2 y2 z2 2) (zn*zn)) (k 2);have F:=Zon w B;have W:=Zht V l3;have G:=Yo5 R;have l5:(tzl [rfW zd ze ov ov2]).length<=1:=Md _;have a6:=Yap F G;have l6:=Zsh 11 (q:=tzl [rfW zd ze ov ov2]) W O;have l:Ab ((6*((KD*100)*(KD*100))+6*((KD*100)*(KD*100)))*10000+6*((KD*100)*(KD*100))*10000+4194304*4194304*(100*100)*(4294967296*4294967296*(4294967296*4294967296))) (rfZ zd zn ze ov ov2 x y z x2 y2 z2):=by assumption
 have t:(rfZ zd zn ze ov ov2 x y z x2 y2 z2).length<=11:=by assumption
 have t6:Tr (rfZ zd zn ze ov ov2 x y z x2 y2 z2):=by unfold rfZ;exact Xx _
 constructor
 .exact(λi=>Hs (j i) O3 (t0 i) (aB (k i) O))
 .exact(Hs u O3 (Xx _) (aB S O))
 .exact(Hs w O3 (Xx _) (aB V O))
 .exact(Hs B O3 (Xx _) (aB l3 O))
 .exact(Hs F O3 (Xx _) (aB W O))
 .exact(Hs G O3 (Xx _) (aB l5 O))
 .exact(Hs l O3 t6 (aB t O))
 .exact(aB (g R O3) O)
 .exact(aB (g m O3) O)
 .exact(aB (g H O3) O)
 .exact(aB (g n O3) O)
 .exact(aB (g I O3) O)
 .exact(aB (g N O3) O)
 .exact(aB (g P O3) O)
theorem ov_b{fr h:Int}{x:List Int}(g:Sgo fr h ov x y z)(e:Sgo fr2 to2 ov2 x2 y2 z2):bl (ov*ov2).natAbs<=1000000000:=by have j:=g.o1;have k:=g.o2;have l:=e.o1;have m:=e.o2;exact sm_bl (aB (Zkf _ _ 4294967296 4294967296 O O) O) O
theorem Ybt{x:List Int}(h:Zb zs=rfZ zd zn ze ov ov2 x y z x2 y2 z2):zs.length≠0->Yv (Zb zs)≠0:=λg=>by
 have j:Zb zs≠[]:=λe=>g O11;have k:Tr (Zb zs):=by rw [h];unfold rfZ;grind [Zam]
 have:=Ynx k j;intro e;simp_all
theorem Yjn{x:List Int}(h:Zb ys=Yg (Zb zs))(e:Zb zs=rfZ zd zn ze ov ov2 x y z x2 y2 z2):Zb ys=fmZ zd zn ze ov ov2 x y z x2 y2 z2:=by rw [h,e,rf_eq];rfl
def tpI(n k:Nat):Nat:=n/1000000000^k
theorem Ypz(n:Nat):tpI n (dg 1000000000 n).length=0:=by unfold tpI;exact cS ((Xn O3 _ n).1 (aH _))
theorem tpI_s(n k:Nat):tpI n (k+1)*1000000000+(dg 1000000000 n).getD k 0=tpI n k:=by unfold tpI;rw [Ht O3,cK,<-aQ];omega
theorem Yhy(n:Nat):tpI n 0=n:=by unfold tpI;rw [fL,lG]
def tpI_le(n k:Nat):tpI n k<=n:=dR _ _
theorem Ydb{g:Int}(e:0<=g)(l:List Int):∀k,k<=l.length->Lk g (l.take k)=(Int.gcd g (Yv (l.take k)):Int)
 | 0,_=>by rw [dW];show g=((Int.gcd g 0:Nat):Int);rw [mE];omega
 | k+1,h=>by rw [Zex g O,Lb O,Ydb e l k O,Int.gcd_assoc]
def gcR(o:Int)(X Y Z:List Int):Nat->Int
 | 0=>o
 | i+1=>(Int.gcd (gcR o X Y Z i) (Yv (Zw i X Y Z)):Int)
theorem Zzp{o:Int}(e:0<o)(X Y Z:List Int):∀i,i<=3->gcR o X Y Z i=Lk o (Ib i X Y Z)/\0<=gcR o X Y Z i
 | 0,_=>⟨rfl,dV e⟩
 | i+1,hi=>by obtain⟨g,h⟩:=Zzp e X Y Z i O;refine⟨?_,gL _⟩;show((Int.gcd (gcR o X Y Z i) (Yv (Zw i X Y Z)):Nat):Int)=_;rw [Za3 X Y Z O,Ew,<-g];have:=Ydb h (Zw i X Y Z) (Zw i X Y Z).length (aH _);rw [bS]at this;exact this.symm
def gcR_A{X:List Int}(h:Mdh o X Y Z):gcR o X Y Z 3=Ki o X Y Z:=(Zzp h.o X Y Z 3 (aH _)).1
theorem Zhv{X:List Int}(h:Mdh o X Y Z)(hi:i<=3):bl (gcR o X Y Z i).natAbs<=1000:=by rw [(Zzp h.o X Y Z i hi).1];have:=h.fc i 0;rw [dW]at this;exact this
structure Row3 (ws:List TzT) (X Y Z:List Int):Prop where
 l:ws.length=3
 e:∀i,i<3->Zb (ws.getD i T0).2=Zw i X Y Z
theorem Zu3{g:List TzT}{t:Nat}{j:TzT}(l:g.length=i)(h:∀t,t<i->Zb (g.getD t T0).2=f t)(n:Zb j.2=f i)(m:t<i+1):Zb ((g ++ [j]).getD t T0).2=f t:=by
 rcases bA.1 m with k|k
 .have e:(g ++ [j]).getD t T0=g.getD t T0:=by rw [aK,aK,eG O]
  rw [e];exact h t k
 .subst k;have e:(g ++ [j]).getD t T0=j:=by rw [aK,gZ O,l,gF];rfl
  rw [e];exact n
theorem Ybn{e:List TzT}{x:List Int}{a b:Int}(g:e.length=3)(h:∀t,t<3->Zb (e.getD t T0).2=Pe (Zw t x y z) a b d):Row3 e (Pe x a b d) (Pe y a b d) (Pe z a b d):=⟨g,λi hi=>by
 rw [h i hi]
 match i,hi with
 | 0,_=>rfl
 | 1,_=>rfl
 | 2,_=>rfl⟩
theorem Ym0(h:AxC c ov)(k:Zb zs=tzl c):5-max 0 ((zs.length:Int)-1)=((6-c.length:Nat):Int):=by
 have l:=h.l;have e:zs.length=(tzl c).length:=by rw [<-Zj,k]
 rcases Yox h with g|g
 .rw [e,g];omega
 .subst g;have j:(tzl [(0:Int)]).length=0:=O3;rw [e,j];decide
theorem Zle(h:∀a∈c,Mw a)(j:c.length<=6)(g:Zb zs=tzl c):zs.length<=30/\Xw (Zb zs)+zs.length*(30+1)+1+zs.length+1+30<=900000:=by have e:zs.length<=6:=i_le g (aB (Md c) j);have m:=Qv (p:=Zb zs) (n:=64) (by rw [g];exact(ab_in h).sz O3);have:=aL 31 e;exact⟨O,O⟩
def Zuw(fr e:Int)(g:Zt)(r:SL×SL×SL):Zt:=((cA fr g,cB e g,cO g/cG fr e g),(r.1,Hz (cX fr e g g.2.1.2) (cG fr e g)),(r.2.1,Hz (cX fr e g g.2.2.1.2) (cG fr e g)),(r.2.2,Hz (cX fr e g g.2.2.2.2) (cG fr e g)))
theorem cut_un{fr j:Int}{g:Zt}(h:Ze6 fr j g=true):Nw (Zuw fr j g r)=Zxk fr j g:=by have e:cO g/cG fr j g<=4294967296:=bW h;unfold Zxk Nw Zuw mdO;rw [aM e,Zhn e,Zhn e,Zhn e]
theorem cutI_y{fr e:Int}{ps zs:List Zt}{k:Nat}{x j:Zt}(h:Zta fr e ps k zs)(g:(ps.filter (Hb fr e))[k]? = some x)(n:Ze6 fr e x=true)(p:Nw j=Zxk fr e x):Zta fr e ps (k+1) (zs ++ [j]):=by
 obtain⟨l,m⟩:=h;refine⟨?_,?_⟩
 .rw [bN,l,Zio g,bN,bH,eS,bH,eS,p]
 .rw [Zio g,kT,m];simp [n]
theorem Ybf{g:Zt}(h:seB g=true)(i:Nat):AxC (Zw i g.2.1.2 g.2.2.1.2 g.2.2.2.2) g.1.2.2:=by obtain⟨e,j,k⟩:=Zyk h;exact Em (p:=λl=>AxC l g.1.2.2) e j k
theorem Yd9{fr e:Int}{g:Zt}(j:SgG g)(h:Hb fr e g=true):g.1.1<=cA fr g/\cA fr g<cB e g/\cB e g<=g.1.2.1:=by have:=bW h;exact⟨Int.le_max_right _ _,this,Int.min_le_right _ _⟩
theorem fl_le(ps:List Zt)(p:Zt->Bool)(i:Nat):((ps.take i).filter p).length<=i:=by have:=iV p (ps.take i);have e:=List.length_take_le i ps;omega
theorem cut_t{fr e:Int}{ps:List Zt}(h:Zxl fr e ps=0):Px fr e ps=true:=by
 cases hb:Px fr e ps with
 | true=>rfl
 | false=>rw [Zz4 hb]at h;exact absurd h O3
def nxF(t c:Int)(ps:List Zt):Nat->Int
 | 0=>c
 | i+1=>if t<(ps.getD i G0).1.1 then min (nxF t c ps i) (ps.getD i G0).1.1 else nxF t c ps i
def Yk6{t c:Int}{ps:List Zt}(h:t<(ps.getD i G0).1.1):nxF t c ps (i+1)=min (nxF t c ps i) (ps.getD i G0).1.1:=aM h
def Yk8{t c:Int}{ps:List Zt}(h:¬t<(ps.getD i G0).1.1):nxF t c ps (i+1)=nxF t c ps i:=aJ h
theorem Yk7(t c:Int)(ps:List Zt):∀i,nxF t c ps i<=c/\(∀k,k<i->t<(ps.getD k G0).1.1->nxF t c ps i<=(ps.getD k G0).1.1)/\(nxF t c ps i=c\/∃k,k<i/\t<(ps.getD k G0).1.1/\nxF t c ps i=(ps.getD k G0).1.1)
 | 0=>⟨eV _,λk j=>absurd j (bG k),.inl rfl⟩
 | i+1=>by
  obtain⟨q,p,g⟩:=Yk7 t c ps i;by_cases h:t<(ps.getD i G0).1.1
  .rw [Yk6 h];refine⟨O,λk j l=>?_,?_⟩
   .rcases bA.1 j with e|e
    .have:=p k e l;omega
    .subst e;exact Int.min_le_right _ _
   .by_cases s:nxF t c ps i<=(ps.getD i G0).1.1
    .rw [Int.min_eq_left s];rcases g with g|⟨k,u,m,n⟩
     .exact .inl g
     .exact .inr ⟨k,O,m,n⟩
    .rw [Int.min_eq_right O];exact .inr ⟨i,O,h,rfl⟩
  .rw [Yk8 h];refine⟨q,λk j l=>?_,?_⟩
   .rcases bA.1 j with e|e
    .exact p k e l
    .subst e;exact absurd l h
   .rcases g with g|⟨k,u,m,n⟩
    .exact .inl g
    .exact .inr ⟨k,O,m,n⟩
theorem nx_eq(B:Bks a b){n:Nat}(G:n+1<(Mu a b).length):nxF ((Mu a b).getD n 0) (nxF ((Mu a b).getD n 0) (cmL a b) a a.length) b b.length=(Mu a b).getD (n+1) 0:=by
 obtain⟨S,V,W⟩:=B.lt n G;have hs:=Yeu a b;obtain⟨p1,Q,H⟩:=Yk7 ((Mu a b).getD n 0) (cmL a b) a a.length;obtain⟨q1,R,I⟩:=Yk7 ((Mu a b).getD n 0) (nxF ((Mu a b).getD n 0) (cmL a b) a a.length) b b.length;generalize nxF ((Mu a b).getD n 0) (cmL a b) a a.length=s at *;generalize nxF ((Mu a b).getD n 0) s b b.length=r at *;have P:r<=(Mu a b).getD (n+1) 0:=by
  rcases Zaw.1 (Zd (zs:=Mu a b) (i:=n+1) (d:=0) G)with h|h|⟨u,m,⟨g,j,e⟩|⟨g,j,e⟩⟩
  .omega
  .omega
  .obtain⟨k,t,rfl⟩:=cZ.1 j;have l:a.getD k G0=a[k]:=by rw [aK,aN t];rfl
   have:=Q k t (by rw [l];omega);rw [l]at this;omega
  .obtain⟨k,t,rfl⟩:=cZ.1 j;have l:b.getD k G0=b[k]:=by rw [aK,aN t];rfl
   have:=R k t (by rw [l];omega);rw [l]at this;omega
 have w:r∈Mu a b/\(Mu a b).getD n 0<r:=by
  have F:r=cmL a b\/∃g,(g∈a\/g∈b)/\(Mu a b).getD n 0<g.1.1/\r=g.1.1:=by
   rcases I with I|⟨k,u,m,p⟩
   .rcases H with H|⟨k,u,m,p⟩
    .exact .inl O
    .exact .inr ⟨a.getD k G0,.inl (Zd u),m,O⟩
   .exact .inr ⟨b.getD k G0,.inr (Zd u),m,p⟩
  rcases F with h|⟨g,j,m,p⟩
  .exact⟨Zaw.2 (.inr (.inl h)),O⟩
  .refine⟨?_,O⟩;by_cases M:r=cmL a b
   .exact Zaw.2 (.inr (.inl M))
   .refine Zaw.2 (.inr (.inr ⟨O,O,?_⟩));rcases j with j|j
    .exact .inl ⟨g,j,p.symm⟩
    .exact .inr ⟨g,j,p.symm⟩
 obtain⟨q,N,e⟩:=Fc.1 w.1;have hl:(Mu a b).getD (n+1) 0<=r:=by
  rcases kC q n with c|c|c
  .have:=hs q n c O;omega
  .subst c;omega
  .rcases gM (show n+1<=q from c)with d|d
   .have:=hs (n+1) q d N;omega
   .rw [<-d]at e;omega
 omega
theorem Yt0(B:Bks a b){n:Nat}(g:n+1<=(Mu a b).length)(h:¬(Mu a b).getD n 0<cmL a b):n+1=(Mu a b).length:=by
 rcases gM g with e|e
 .obtain⟨j,k,l⟩:=B.lt n e;omega
 .exact e
theorem Yoh(B:Bks a b){n:Nat}(g:n+1<=(Mu a b).length)(h:(Mu a b).getD n 0<cmL a b):n+1<(Mu a b).length:=by
 rcases gM g with e|e
 .exact e
 .have:=B.ls;rw [show(Mu a b).length-1=n by omega]at this;omega
def bdI:List GpU->Int
 | []=>-1
 | g::l=>if Hu g.2.2 then 0 else if bdI l<0 then -1 else bdI l+1
theorem bdI_s:∀{l:List GpU} {k:Nat},k<l.length->(∀i,i<k->Hu (l.getD i (0,0,[])).2.2=false)->Hu (l.getD k (0,0,[])).2.2=true->bdI l=(k:Int)
 | [],_,h,_,_=>absurd h (bG _)
 | g::l,0,_,_,e=>by have e:Hu g.2.2=true:=e;unfold bdI;rw [aM e];rfl
 | g::l,k+1,h,h1,e=>by have j:Hu g.2.2=false:=h1 0 (kL _);have:=bdI_s (l:=l) (k:=k) (by simpa using h) (λi hi=>h1 (i+1) O) e;unfold bdI;rw [aJ (by rw [j];exact eD),this,aJ O];rfl
theorem bdI_n:∀{l:List GpU},(∀i,i<l.length->Hu (l.getD i (0,0,[])).2.2=false)->bdI l=-1
 | [],_=>rfl
 | g::l,h=>by have e:Hu g.2.2=false:=h 0 (kL _);have:=bdI_n (l:=l) λi hi=>h (i+1) (by simpa using hi);unfold bdI;rw [aJ (by rw [e];exact eD),this];rfl
theorem bd_at{zs:List GpT}{k:Nat}(e:k<zs.length)(h:∀i,i<k->Hu (zs.getD i Gp0).2.2=false)(g:Hu (zs.getD k Gp0).2.2=true):bdI (zs.map unP)=(k:Int):=
 bdI_s (by rw [aT];exact e) (λi hi=>by rw [Au];exact h i hi) (by rw [Au];exact g)
theorem bd_no{zs:List GpT}(e:∀i,i<zs.length->Hu (zs.getD i Gp0).2.2=false):bdI (zs.map unP)=-1:=
 bdI_n λi hi=>by rw [Au];exact e i (by rw [aT]at hi;exact hi)
theorem Ye1:∀l:List GpU,decide (bdI l<0)=!(Zcq l).2.2
 | []=>rfl
 | g::l=>by
  have k:=Ye1 l;cases hn:Hu g.2.2 with
  | true=>
   have e:Zoy (g::l)=some g:=kP (by exact hn);have h:bdI (g::l)=0:=by show(if Hu g.2.2 then(0:Int)else _)=0;rw [hn];rfl
   unfold Zcq;rw [e,h];rfl
  | false=>
   have e:Zoy (g::l)=Zoy l:=kQ (by rw [show Hu g.2.2=false from hn];exact eD);have h:bdI (g::l)=if bdI l<0 then -1 else bdI l+1:=by show(if Hu g.2.2 then(0:Int)else _)=_;rw [hn];rfl
   have j:Zcq (g::l)=Zcq l:=by unfold Zcq;rw [e]
   rw [j,<-k,h,bM];split<;>omega
theorem Yue{n:Int}{zs:List GpT}(h:zs.map unP=Kj D n d a b)(e:Ey a b=0):decide (bdI (zs.map unP)<0)=apZ D n d a b:=by rw [Ye1,h,ap_t e]
theorem Yn0{xs:List Zt}(j:¬Eg a b=9)(k:xs.map Nw=Lh a b a)(h:0<xs.length):Eg a b=0:=by
 rcases Zz9 a b with g|g|g
 .exact absurd g j
 .exact g
 .have e:=aD List.length k;rw [Zz7 O,aT]at e;have:xs.length=0:=e;omega
open Go Go.MapKept
variable {P:Program} {N:Nat} {sc:Nat->Prop} {env env':Pt} {H H':Hp} {Q Q':Exit->Act->World->Prop} {M:Nat->Prop}
abbrev PT:=SL×List Zt
abbrev PT0:PT:=((none,0,0),[])
abbrev Zbu (x:PT):Value:=Xi x.1
abbrev qP (x:PT):Pc:=Qb 6 Qt qG (Xi x.1) x.2
def Bo(ls:List PT):Bool:=ls.all λx=>Xl x.2
def pth(ps:List PT)(i:Nat):List Zt:=(ps.getD i PT0).2
theorem ap_no{n:Int}(h:(Zcq (Kj D n d a b)).2.2=false)(e:Ey a b=0):apZ D n d a b=true:=by unfold apZ;grind
theorem ap_is{n:Int}(h:(Zcq (Kj D n d a b)).2.2=true):apZ D n d a b=false:=by unfold apZ;grind
theorem ap_e{n:Int}(e:Ey a b≠0):apZ D n d a b=false:=by unfold apZ;grind
theorem Ypt{ls:List PT}(h:Bo ls=true){x:PT}(e:x∈ls):Xl x.2=true:=bZ.1 h x e
theorem Yps{ls:List PT}{x:PT}(e:x∈ls)(h:Xl x.2=false):Bo ls=false:=by grind [Ypt]
theorem Yhu{ls:List PT}{m:Nat}(j:ls.length<=m)(h:∀k,k<m->k<ls.length->Xl (pth ls k)=true):Bo ls=true:=
 bZ.2 λx g=>by obtain⟨k,e,rfl⟩:=cZ.1 g;have:=h k O e;unfold pth at this;grind
end Go.Sky
namespace Go.Sky
variable{p q x y z x2 y2 z2:List Int}{a b:List Zt}{D ov ov2:Int}{zs:List GpT}{t:TypeId}{kd:IntKind}
theorem Zcj(h:Tr p):Zy p 1=p:=by unfold Zy;simp_all [mS,fZ,lC,Aw]
def dk_one{a b:Int} : dfK p q a b 1=dfP p q a b:=Zcj (Xx _)
theorem Yp8{a b:Int} : sqK p q a b 1=sqP p q a b:=by unfold sqK sqP;rw [dk_one]
theorem ng_one(D ov ov2:Int):ngC [D,1,ov,ov2] 4=ngC [D,ov,ov2] 3:=by
 have c:ngC [D,1,ov,ov2] 1=ngC [D,ov,ov2] 1:=rfl;have t1:Tr (ngC [D,ov,ov2] 1):=(Zm4 _ 1).2.2;have d:ngC [D,1,ov,ov2] 2=ngC [D,ov,ov2] 1:=by show Zy _ 1=_;grind [Zcj]
 have e:ngC [D,1,ov,ov2] 3=ngC [D,ov,ov2] 2:=by show Zy _ ov=Zy _ ov;grind
 show Zy _ ov2=Zy _ ov2;grind
def fqS(ov ov2:Int)(x y z x2 y2 z2:List Int)(i:Nat):List Int:=sqP (Zw i x y z) (Zw i x2 y2 z2) ov ov2
def smS(D ov ov2:Int)(x y z x2 y2 z2:List Int)(i:Nat):List Int:=smP (ngC [D,ov,ov2] 3) (fqS ov ov2 x y z x2 y2 z2) i
def Yi9(i:Nat):Zw i (1:Int) 1 1=1:=Em (p:=λk=>k=1) rfl rfl rfl
theorem fsZ(D ov ov2:Int)(x y z x2 y2 z2:List Int):fmZ D 1 1 ov ov2 x y z x2 y2 z2=Yg (smS D ov ov2 x y z x2 y2 z2 3):=by
 have c:fqZ 1 1 ov ov2 x y z x2 y2 z2=fqS ov ov2 x y z x2 y2 z2:=mS λi=>by unfold fqZ fqS;rw [Yi9,Yp8]
 unfold fmZ smZ smS cnZ;grind [ng_one]
def dsB(D:Int):Bool:=decide (0<=D) && decide (D<=4194304)
theorem ds_b(h:dsB D=true):0<=D/\D<=4194304:=by unfold dsB at h;grind
structure FsX (D ov ov2:Int) (x y z x2 y2 z2:List Int):Prop where
 X:∀i,FmX (Zw i x y z) (Zw i x2 y2 z2) ov ov2 1
 N:∀i,i<=3->NgX [D,ov,ov2] i
 Q:SmX (ngC [D,ov,ov2] 3) (fqS ov ov2 x y z x2 y2 z2)
theorem fsX{fr w d h:Int}(f:Sgo fr w ov x y z)(c:Sgo d h ov2 x2 y2 z2)(m:∀i,Ab KA (tzl (Zw i x y z)))(e:∀i,Ab KA (tzl (Zw i x2 y2 z2)))(o:dsB D=true):FsX D ov ov2 x y z x2 y2 z2:=by
 obtain⟨F,B⟩:=ds_b o;have r:=f.o1;have s:=f.o2;have u:=c.o1;have v:=c.o2;have g:∀i,FmX (Zw i x y z) (Zw i x2 y2 z2) ov ov2 1:=λi=>fmX (m i) (e i) (f.lc i).2 (c.lc i).2 ⟨r,s⟩ ⟨u,v⟩ ⟨O3,O3⟩;have n:∀i,([D,ov,ov2].getD i 0).natAbs<=4294967296:=λi=>by
  match i with
  | 0=>show D.natAbs<=_;omega
  | 1=>show ov.natAbs<=_;omega
  | 2=>show ov2.natAbs<=_;omega
  | i+3=>show(0:Int).natAbs<=_;decide
 refine⟨g,λi hi=>ngX n (aB hi O3),?_⟩;obtain⟨j,k,l⟩:=Zm4 [D,ov,ov2] 3;refine smX (j.mono ?_) k l (λi=>(g i).ab8) (λi=>(g i).l8);show 1*D.natAbs*D.natAbs*ov.natAbs*ov.natAbs*ov2.natAbs*ov2.natAbs<=2^190;refine aB (aO (aO (aO (aO (aO (aO (aH 1) (show D.natAbs<=4194304 by omega)) (show D.natAbs<=4194304 by omega)) (show ov.natAbs<=4294967296 by omega)) (show ov.natAbs<=4294967296 by omega)) (show ov2.natAbs<=4294967296 by omega)) (show ov2.natAbs<=4294967296 by omega)) O7
theorem Ydf(h:FsX D ov ov2 x y z x2 y2 z2):Cvd (fmZ D 1 1 ov ov2 x y z x2 y2 z2):=by rw [fsZ];exact h.Q.d
theorem cvd_gs(i:∀g∈a,Gin g)(j:∀g∈b,Gin g)(c:Xl a=true)(d:Xl b=true)(I:dsB D=true){xs ys:List Zt}(o:xs.map Nw=Lh a b a)(s:ys.map Nw=Lh a b b):∀g∈Kj D 1 1 a b,Cvd g.2.2:=λg n=>by
 unfold Kj at n;obtain⟨k,F,e⟩:=cZ.1 n;rw [lH]at e;subst e;rw [lS]at F;have f:k<(Lh a b a).length:=O;have h:k<(Lh a b b).length:=O;have M:(Lh a b a)[k]∈xs.map Nw:=by rw [o];exact jA f
 have N:(Lh a b b)[k]∈ys.map Nw:=by rw [s];exact jA h
 obtain⟨q,G,w⟩:=dZ.1 M;obtain⟨r,H,B⟩:=dZ.1 N;obtain⟨u,l⟩:=Bn i c o q G;obtain⟨v,m⟩:=Bn j d s r H;rw [<-w,<-B];simp only [gpZ,Nw];exact Ydf (fsX (Kb u l) (Kb v m) (Gv l) (Gv m) I)
theorem Ynn(e:∀g∈a,Gin g)(f:∀g∈b,Gin g)(c:Xl a=true)(d:Xl b=true)(l:dsB D=true)(h:zs.map unP=Kj D 1 1 a b){k:Nat}(i:k<zs.length):Cvd (zs.getD k Gp0).2.2:=by
 have j:unP (zs.getD k Gp0)∈Kj D 1 1 a b:=by rw [<-h];exact dZ.2 ⟨_,Zd i,rfl⟩
 exact cvd_gs e f c d l (Yaw (Lh a b a)) (Yaw (Lh a b b)) _ j
section
variable {P:Program} {N:Nat} {sc:Nat->Prop} {env:Pt} {H:Hp}
theorem d_ix3i {o:Oper} {x y:Operand} {e:TypeId} {i:Nat}  {m d f g:Int} (n:o.op= .index t x y) (s:ev env x=some (.agg #[.int .i64 d,.int .i64 f,.int .i64 g])) (u:ev env y=some (.int kd m))
  (r:P.underlying t=some (.array 3 e)) (k:∀w,(sizeOf e).run P w= .ok 1 w) (j:∀w,(isAgg e).run P w= .ok false w) (c:m=(i:Int)) (l:i<3):Mk P N sc o env H (.int .i64 ([d,f,g].getD i 0)):=λa w hs=>by
 subst c;have h:i=0\/i=1\/i=2:=O;rcases h with rfl|rfl|rfl<;>simp [execOp,n,hs.ev s,hs.ev u,Instr.index,asIntOf,run_underlying r,k,j,asAgg,part]
end
theorem df_sel{X Y Z:List Int}(i:Nat)(c:X=dfP x x2 ov ov2)(d:Y=dfP y y2 ov ov2)(e:Z=dfP z z2 ov ov2):Zw i X Y Z=dfP (Zw i x y z) (Zw i x2 y2 z2) ov ov2:=by subst c d e;unfold Zw;split<;>rfl
end Go.Sky
namespace Go.Sky
open Go.Proofs.Tryz
open Go.Proofs
set_option synthInstance.maxHeartbeats 0
set_option synthInstance.maxSize 100000
set_option maxRecDepth 20000
set_option linter.unusedSimpArgs false
variable{zd:Int}{va vb:Value}{pa pb:List Zt}
theorem Yja:Xq prog 172 #[.int .i64 zd] [] (.bool (dsB zd)):=by
 refine Zg func172 ntmps172 λe d c a=>go 10 ?_;refine Yc 5 J (λb=>?_) (λb=>?_)
 .refine go 7 ?_;exact Yq a () results172 (by unfold dsB;first|(simp_all;done)|(simp_all;omega)) aA Za
 .refine go 7 ?_;exact Yq a () results172 (by unfold dsB;first|(simp_all;done)|(simp_all;omega)) aA Za
theorem Zmc{t u:Value}{c d:List Int}{fr B f j n b:Int}{D F H o p r:Value}(e:FmX c d f b 1)(w:∀a∈c,Mw a)(h:c.length<=6)(x:∀a∈d,Mw a)(i:d.length<=6)(y:Mw f)(k:Mw b):Cal prog 301 #[t,u,.agg #[.int .i64 fr,.int .i64 B,.int .i64 f,D,F,H],.agg #[.int .i64 j,.int .i64 n,.int .i64 b,o,p,r]] [Ym 1 Yd t c,Ym 1 Yd u d] true (G:=SL×List Int) (λg=>g.2=dfP c d f b) (λg=>Xi g.1) (λg=>[Ym 2 wv (Xi g.1) g.2]):=by refine Zg func301 ntmps301 λP N M l=>go 2 ?_;refine Yk (Yf 3) λI _=>Yk (Yf 4) λs _=>go 6 ?_;refine cl 5 [1] (Zat w (aB h O3)) λ_ _=>?_;refine Ye (Oy 5 (q:=Ym 2 wv _ (tzl c)) (aD (Ym 2 wv _) (aJ (Zgq h))) J J)<|go 10 ?_;refine cl 6 [2] (Zat x (aB i O3)) λ_ _=>?_;refine Ye (Oy 6 (q:=Ym 2 wv _ (tzl d)) (aD (Ym 2 wv _) (aJ (Zgq i))) J J)<|go 12 ?_;refine cl 6 [] (Zz b k) λ_ _=>cl 7 [5] (Na _ b e.v1 e.b1 e.s1) λ_ _=>go 11 ?_;refine cl 7 [] (Zz f y) λ_ _=>cl 8 [6] (Na _ f e.v2 e.a1 e.s2) λ_ _=>go 10 ?_;refine cl 9 [7,8] (Zvr (Zy (tzl c) b) (Zy (tzl d) f) e.v3 e.v4 e.s3) λ_ _=>?_;refine Ye (Oy 9 (q:=Ym 2 wv _ (dfP c d f b)) (aD (Ym 2 wv _) J) J J)<|go 13 ?_;refine Zb4 (Xe 9 J Zm) (λz m=>?_);subst m;generalize dfP c d f b=v;exact Yq l (z,v) results301 J J (Qy 9 Za)
theorem Yqk{fr S d p r b:Int}{V W Y s t u:Value}{x y z f h j:List Int}(k:Sgo fr S d x y z)(c:Sgo p r b f h j)(hA:∀i,Ab KA (tzl (Zw i x y z)))(F:∀i,Ab KA (tzl (Zw i f h j)))(N:dsB zd=true):Cal prog 248 #[.agg #[.int .i64 fr,.int .i64 S,.int .i64 d,V,W,Y],.agg #[.int .i64 p,.int .i64 r,.int .i64 b,s,t,u],.int .i64 zd] [Ym 1 Yd V x,Ym 1 Yd W y,Ym 1 Yd Y z,Ym 1 Yd s f,Ym 1 Yd t h,Ym 1 Yd u j] true (G:=SL×List Int) (λg=>g.2=fmZ zd 1 1 d b x y z f h j) (λg=>Xi g.1) (λg=>[Ym 2 wv (Xi g.1) g.2]):=by
 refine Zg func248 ntmps248 λw0 sc hw I=>?_;have m:=fsX k c hA F N;refine go 2<|Yk (Yf 7) λbx _=>Yk (Yf 8) λP _=>go 5 ?_;refine tt (Yx [(0,_)] 9 (enc:=Yd) ([-1]:List Int) J J K2 Ql ti3 J J J J J pZ.cells J J hw.h) (λv _=>?_);refine Ye (Yz 9 J J pZ)<|cl 10 [9] (Zat (λa ha=>by rw [cI.1 ha];exact⟨O3,O3⟩)) λ_ _=>?_;refine Ye (Oy 10 (q:=Ym 2 wv _ [-1]) (aD (Ym 2 wv _) tzlm1) J J)<|go 15 ?_;refine dt (Qf [(0,_),(1,_),(2,_)] J K6 (λa w hs=>You ((Zl J) a w hs) ((Zl J) a w hs) ((Zl J) a w hs)))<|go 4 ?_;refine Zf (Xu 10 80 J J J)<|lp (G:=Nat×Value) [3,4,23] [0,1,2,3,4,5,6,7,8,9,10] (λq=>[(24,.int .i64 (q.1:Int)),(7,q.2)]) (λq=>[(80,Ym 2 wv q.2 (ngC [zd,d,b] q.1))]) (λq=>q.1<=3) (λq=>3-q.1) (0,_) O1 K2 K1 ?_;rintro⟨i,vs⟩ hi;dsimp only at hi;dsimp only;have e:=m.N i hi;refine go 6<|Zc J (λB=>?_) (λB=>?_)
 .refine go 6 ?_;refine dt (d_ix3i (i:=i) J J J underlying150 Mv Dz J O)<|go 7 ?_;refine cl 10 [] (Zz ([zd,d,b].getD i 0) e.inn) λ_ _=>cl 11 [80] (Na (ngC [zd,d,b] i) ([zd,d,b].getD i 0) e.v e.b e.s) λ_ _=>go 9 ?_;refine cl 11 [] (Zz ([zd,d,b].getD i 0) e.inn) λ_ _=>cl 12 [11] (Na (Zy (ngC [zd,d,b] i) ([zd,d,b].getD i 0)) ([zd,d,b].getD i 0) e.v2 e.b e.s2) λ_ _=>?_;refine go 11 ⟨O,?_⟩;exact Zn (Xu 12 80 J J J)<|Yi (i+1,_) O1 O1 K2 K1
 .obtain rfl:i=3:=O;refine go 7<|Qe (λ_=>False) [(0,0),(1,0),(2,0),(3,0),(4,0),(5,0),(7,0),(8,0),(9,0),(10,0),(11,0),(12,0),(14,0),(15,0),(16,0),(17,0),(18,0),(19,0),(22,0),(6,1),(13,1),(20,1),(21,0)]<|go 19<|Ys (Zp 13 [1,4] (Zmc (m.X 0) (k.hc 0) (k.lc 0).2 (c.hc 0) (c.lc 0).2 (Zj2 k) (Zj2 c))) λfq H=>Ys (Zp 14 [2,5] (Zmc (m.X 1) (k.hc 1) (k.lc 1).2 (c.hc 1) (c.lc 1).2 (Zj2 k) (Zj2 c))) λQ n=>Ys (Zp 15 [3,6] (Zmc (m.X 2) (k.hc 2) (k.lc 2).2 (c.hc 2) (c.lc 2).2 (Zj2 k) (Zj2 c))) λR o=>?_;refine Xb J J (Qa (Qf [(0,_),(1,_),(2,_)] J K6 (λa w hs=>Yow ((Pg 13 J Zm) a w hs) ((Pg 14 J Zm) a w hs) ((Pg 15 J Zm) a w hs))))<|go 3 ?_;refine lp (G:=Nat×Value) [63] [0,1,2,3,4,5,6,7,8,9,10,13,14,15] (λq=>[(64,.int .i64 (q.1:Int)),(7,q.2)]) (λq=>[(80,Ym 2 wv q.2 (smS zd d b x y z f h j q.1))]) (λq=>q.1<=3) (λq=>3-q.1) (0,_) O1 K2 K1 ?_;rintro⟨i,vs⟩ hi;dsimp only at hi;dsimp only;have l:=m.X i;refine go 6<|Zc J (λD=>?_) (λD=>?_)
  .refine go 5<|Zf (Zdb i 13 14 15 90 J J J J J J)<|Zf (Oy 90 (q:=Ym 2 wv _ (dfP (Zw i x y z) (Zw i f h j) d b)) (aD (Ym 2 wv _) (df_sel i H n o)) J J)<|go 1 ?_;refine dt (Zqg i J J J underlying141 sizeOf140 isAgg140 J)<|go 7 ?_;refine cl 16 [90,90] (Zmt (dfP (Zw i x y z) (Zw i f h j) d b) (dfP (Zw i x y z) (Zw i f h j) d b) l.v5 l.v5 l.m5) λ_ _=>?_;refine Ye (Oy 16 (q:=Ym 2 wv _ (fqS d b x y z f h j i)) (aD (Ym 2 wv _) J) J J)<|go 9 ?_;refine cl 17 [80,16] (Zvu (smS zd d b x y z f h j i) (fqS d b x y z f h j i) (m.Q.v i O) l.v8 (m.Q.s i O)) λ_ _=>?_;refine go 11 ⟨O,?_⟩;exact Zn (Xu 17 80 J J J)<|Yi (i+1,_) O1 O1 K2 K1
  .obtain rfl:i=3:=O;refine go 8 ?_;refine cl 18 [80] (Nr (m.Q.v 3 (aH _))) λ_ _=>?_;refine Ye (Oy 18 (q:=Ym 2 wv _ (fmZ zd 1 1 d b x y z f h j)) (aD (Ym 2 wv _) (fsZ zd d b x y z f h j).symm) J J)<|go 13 ?_;refine Zb4 (Xe 18 J Zm) (λsq M=>?_);subst M;generalize fmZ zd 1 1 d b x y z f h j=Z;exact Yq I (sq,Z) results248 J J (Qy 18 Za)
theorem Yqj(j:∀g∈pa,Gin g)(l:∀g∈pb,Gin g)(f:Xl pa=true)(h:Xl pb=true)(F:pa.length<=5)(H:pb.length<=5)(I:dsB zd=true):Cal prog 173 #[va,vb,.int .i64 zd] [Qb 6 Qt qG va pa,Qb 6 Qt qG vb pb] true (G:=Value×List GpT) (λg=>g.2.map unP=Kj zd 1 1 pa pb) (λg=> .tuple #[g.1,.int .i64 (Ey pa pb)]) (λg=>[Qb 3 Ie qGp g.1 g.2]):=by
 refine Zg func173 ntmps173 λZ Y M p=>go 10 ?_;refine cl 3 [1,2] (Zpi j l f h F H) λb c=>go 16<|Zc J (λe=>?_) (λe=>?_)
 .have y:=e;refine go 8<|Zn (Kt 72 3 Ie qGp) ?_;exact Nb p (.slice none 0 0,[]) results173 (by rw [Zso y]) (Zsm O).symm (Qy 72 Za)
 .have y:=e;refine go 16<|Zf (Qi 74 3 178 Ie)<|Zf (Ya qGp 76) ?_;have B:=Zh7 j l f h;have Q:b.1.2.length=(Lh pa pb pa).length:=by rw [<-c.1,aT]
  have R:b.2.2.length=(Lh pa pb pb).length:=by rw [<-c.2,aT]
  refine lp (G:=Nat×Value×List GpT) [2,9,10,23,24] [0,1,2,3,4] (λq=>[(25,.int .i64 (q.1:Int)),(11,q.2.1)]) (λq=>[(74,Oc 3 178 Ie q.2.1 q.2.2),(76,Nt qGp q.2.2)]) (λq=>(q.1<=b.1.2.length)/\(q.2.2.map unP=(Kj zd 1 1 pa pb).take q.1)/\(q.2.2.length=q.1)) (λq=>b.1.2.length-q.1) (0,.slice none 0 0,[]) ⟨O1,(by rw [dW];rfl),rfl⟩ K2 K2 ?_;rintro⟨k,V,N⟩ ⟨P,m,r⟩;dsimp only at P m r;dsimp only;refine go 6<|Zc J (λx=>?_) (λx=>?_)
  .refine go 5 ?_;obtain⟨t,n⟩:=Bn j f c.1 _ (Zd (d:=G0) (show k<b.1.2.length by omega));refine Zf (Od (b.1.2.getD k G0) ((b.1.2.getD k G0).2.1) 3 51 J J (Zd O) O5)<|Zf (Od (b.1.2.getD k G0) ((b.1.2.getD k G0).2.2.1) 3 52 J J (Zd O) O5)<|Zf (Od (b.1.2.getD k G0) ((b.1.2.getD k G0).2.2.2) 3 53 J J (Zd O) O5)<|go 2 ?_;refine dt (Zv 3 k J J J J Ze Mm Ln J)<|dt (Xd 3 G0 J J J Ze pG)<|Yk (Yh 5) λW _=>go 4 ?_;obtain⟨u,o⟩:=Bn l h c.2 _ (Zd (d:=G0) (show k<b.2.2.length by omega));refine Zf (Od (b.2.2.getD k G0) ((b.2.2.getD k G0).2.1) 4 54 J J (Zd O) O5)<|Zf (Od (b.2.2.getD k G0) ((b.2.2.getD k G0).2.2.1) 4 55 J J (Zd O) O5)<|Zf (Od (b.2.2.getD k G0) ((b.2.2.getD k G0).2.2.2) 4 56 J J (Zd O) O5)<|Qn [4,5] [15]<|Zk 0 [(0,0),(1,0),(2,0),(3,0),(4,0),(5,0),(6,0),(7,0),(8,0),(9,0),(10,0),(11,1),(12,0),(13,1),(14,1),(15,3)]<|go 8 ?_;refine Xb J J (Ll (Zv 4 k J J J J Ze Mm Ln J) K2)<|Xb J J (Ll (Xd 4 G0 J J J Ze pG) K2)<|go 1 ?_;refine Ys (Zp 84 [51,52,53,54,55,56] (Yqk (Kb t n) (Kb u o) (Gv n) (Gv o) I)) λs D=>?_;refine Xb J J (Ll (Qf [(0,_),(1,_),(2,_)] J K6 (λa w hs=>Zif ((Zl J) a w hs) ((Zl J) a w hs) ((Zl J) a w hs))) K2)<|Lm J (Yx [(0,_)] 6 (enc:=Ie) [(gpY (b.1.2.getD k G0) s)] J J K2 Ze9 ti178 J J Zqb J J pGp.cells J J M.h) (λv _=>?_);refine Lm J (Ip 74 J J J K2 (λi=>(Ke 74 6 40 J J J J J J O3 J (Zo pGp) Ze9 ti178 J pGp J J J O9 O3 J M.h i))) λS _=>go 2 ?_;refine Zu<|go 6 ⟨O,?_⟩;exact Zn (Zh (q:=qGp) (z:=(gpY (b.1.2.getD k G0) s)) 76 84 76 J J J J J)<|Yi (k+1,_,N ++ [(gpY (b.1.2.getD k G0) s)]) ⟨O1,Zk6 c.1 c.2 m O O D,by rw [aP,r];rfl⟩ O1 K2 K2
  .obtain rfl:k=b.1.2.length:=O;refine go 14<|Zn (Yz 74 J J pGp)<|Zn (Yy 74 76 78 J J J J) ?_;exact Nb p (V,N) results173 (by rw [Zsn y]) (Zsk c.1 B.1 m) (Qy 78 Za)
theorem Yqm(d:∀g∈pa,Gin g)(e:∀g∈pb,Gin g)(a:Xl pa=true)(c:Xl pb=true)(i:pa.length<=5)(j:pb.length<=5)(f:dsB zd=true):Cal prog 107 #[va,vb,.int .i64 zd] [Qb 6 Qt qG va pa,Qb 6 Qt qG vb pb] true (G:=Value×List GpT) (λg=>g.2.map unP=Kj zd 1 1 pa pb) (λg=> .tuple #[g.1,.int .i64 (Ey pa pb)]) (λg=>[Qb 3 Ie qGp g.1 g.2]):=by refine Zg func107 ntmps107 λo n m k=>go 10 ?_;refine cl 2 [1] (Ek d) λ_ _=>?_;refine dt (dF (Qc J J) (aD (λb=>Value.bool (!b)) a))<|go 2 ?_;refine Hx 2 [2] (Ek e) λ_ _=>?_;refine Bt (dF (Qc J J) (aD (λb=>Value.bool (!b)) c)) J J<|go 3 ?_;refine Hx 2 [] Yja λ_ _=>?_;refine Bt (dF (Qc J J) (aD (λb=>Value.bool (!b)) f)) J J<|go 11 ?_;refine cl 3 [1,2] (Yqj d e a c i j f) λl h=>go 7 ?_;exact Nb k _ results107 J h (Qy 3 Za)
end Go.Sky

