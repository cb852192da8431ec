/- Rules, arithmetic and contracts: part 15. No conditions but those that each theorem names. -/
import Derived.Test.YtoaklaecgjlfoaaTm13
import Derived.ArgAppend
import Derived.Lib.SlKeysI
set_option linter.all false
set_option maxHeartbeats 4000000
namespace Go.Sky
open Go.Proofs.Try
open Go.Proofs
set_option synthInstance.maxHeartbeats 0
set_option synthInstance.maxSize 100000
set_option maxRecDepth 20000
set_option linter.unusedSimpArgs false
variable{v:Value}{y:Operand}{w w0:World}{cs gs:List LT}{i:Nat}{xs:List Int}{M0:Nat->Prop}
theorem Zhr(l:List Int)(m:Int)(j:0<=m/\m<=16777216):Ow prog 21 #[.int .i64 m,v] [Ou 1 Zo v l] (.bool (Zbt m l)):=by
 refine Yf func21 ntmps21 λw0 o n a=>?_;refine Yy (Pr (i:=1) J Zn) λf=>go 14 ?_;refine lp (G:=Nat) [0,7,8] [0,1] (λk=>[(9,.int .i64 (k:Int))]) (λk=>[]) (λk=>(k<=l.length)/\(∀i,i<k->-m<=l.getD i 0/\l.getD i 0<=m)) (λk=>l.length-k) 0 ⟨O1,λi hi=>absurd hi (aZ i)⟩ K1 aB ?_;rintro k ⟨h,g⟩;refine go 6<|Zy J (λb=>?_) (λb=>?_)
 .refine go 15 ⟨by first|omega|(simp only [aS];omega),by first|omega|(simp only [aS];omega),?_⟩;refine dt (d_negi J J ⟨O,O⟩)<|go 2 ?_;refine Lq 17 J (λe=>?_) (λe=>?_)
  .refine go 18 ?_;exact Kq a () results21 (by rw [Zjf k O O]) aB Zh
  .refine go 6<|Zy J (λc=>?_) (λc=>?_)
   .refine go 11 ?_;exact Kq a () results21 (by rw [Zjf k O O]) aB Zh
   .refine go 7 ⟨O,?_⟩;exact Yr (k+1) ⟨O1,λi hi=>by rcases bE.1 hi with d|d;exact g i d;subst d;exact⟨O,O⟩⟩ O1 K1 aB
 .refine go 11 ?_;exact Kq a () results21 (by rw [insB_t λi hi=>g i O]) aB Zh
theorem ve_pt(x y z:Int):Ow prog 24 #[.agg #[.int .i64 x,.int .i64 y,.int .i64 z]] [] (.bool (ptB x y z)):=by refine Yf func24 ntmps24 λw0 d b a=>go 2 ?_;refine Lg (Iv 1) λc _=>go 11 ?_;refine tt (Od [(0,_),(1,_),(2,_)] 2 (enc:=Zo) ([x,y,z]:List Int) J J K6 Zu ti3 J J J J J pZ.cells J J b.h) λv _=>cl 2 [2] (Zhr [x,y,z] 1048576 ⟨O3,O3⟩) λ_ _=>go 4 ?_;exact Kq a () results24 J aB Zh
theorem ve_vc{x y z:Int}:Ow prog 9 #[.agg #[.int .i64 x,.int .i64 y,.int .i64 z]] [] (.bool (vcB x y z)):=by refine Yf func9 ntmps9 λw0 d b a=>go 2 ?_;refine Lg (Iv 1) λc _=>go 11 ?_;refine tt (Od [(0,_),(1,_),(2,_)] 2 (enc:=Zo) ([x,y,z]:List Int) J J K6 Zu ti3 J J J J J pZ.cells J J b.h) λv _=>cl 2 [2] (Zhr [x,y,z] 16777216 ⟨O3,O3⟩) λ_ _=>go 4 ?_;exact Kq a () results9 J aB Zh
theorem Zhs(x y:Int)(h:Ir (x-y)):Ow prog 11 #[.int .i64 x,.int .i64 y] [] (.int .i64 (x-y)):=by refine Yf func11 ntmps11 λw0 c b a=>?_;refine go 14 ⟨h,?_⟩;exact Kq a () results11 J aB Zh
theorem Zk6{d e f g b h:Int}(j:-16777216<=d/\d<=16777216)(k:-16777216<=e/\e<=16777216)(l:-16777216<=f/\f<=16777216)(m:-16777216<=g/\g<=16777216)(c:-16777216<=b/\b<=16777216)(n:-16777216<=h/\h<=16777216):Ow prog 10 #[.agg #[.int .i64 d,.int .i64 e,.int .i64 f],.agg #[.int .i64 g,.int .i64 b,.int .i64 h],.func (.func 11) #[] #[]] [] (.agg #[.int .i64 (d-g),.int .i64 (e-b),.int .i64 (f-h)]):=by refine Yf func10 ntmps10 λw0 t r q=>go 2 ?_;refine Lg (Iv 1) λs _=>Lg (Iv 2) λo _=>Lg (Oy 3) λp _=>go 3<|Da (λ_=>False) [(0,0),(1,0),(2,0),(3,0),(4,0),(6,0),(7,0),(8,0),(9,0),(10,0),(12,0),(13,0),(14,0),(15,0),(16,0),(5,1),(11,1),(17,1),(18,0),(19,3)]<|go 15 ?_;refine r1' J (Md 3 [] [_,_] [] (Zhs d g (show Ir _ from⟨by have:=j;have:=m;omega,by have:=j;have:=m;omega⟩)) J J J J K2 call11 Xj J r.h) (λ_ _=>?_);refine r1' J (Md 3 [] [_,_] [] (Zhs e b (show Ir _ from⟨by have:=k;have:=c;omega,by have:=k;have:=c;omega⟩)) J J J J K2 call11 Xj J r.h) (λ_ _=>?_);refine r1' J (Md 3 [] [_,_] [] (Zhs f h (show Ir _ from⟨by have:=l;have:=n;omega,by have:=l;have:=n;omega⟩)) J J J J K2 call11 Xj J r.h) (λ_ _=>?_);refine Kx J J (Hy (Ik [(0,_),(1,_),(2,_)] J K6 (λa w hs=>Znv ((Qq J) a w hs) ((Qq J) a w hs) ((Qq J) a w hs))))<|go 4 ?_;exact Kq q () results10 J aB Zh
theorem ve_dot(c d e f a g:Int)(j:-33554432<=c/\c<=33554432)(k:-33554432<=d/\d<=33554432)(l:-33554432<=e/\e<=33554432)(m:-33554432<=f/\f<=33554432)(b:-33554432<=a/\a<=33554432)(n:-33554432<=g/\g<=33554432):Ow prog 12 #[.agg #[.int .i64 c,.int .i64 d,.int .i64 e],.agg #[.int .i64 f,.int .i64 a,.int .i64 g]] [] (.int .i64 (c*f+d*a+e*g)):=by refine Yf func12 ntmps12 λw0 u q o=>?_;have r:=mulB j m;have s:=mulB k b;have t:=mulB l n;refine go 2<|Lg (Iv 1) λp _=>Lg (Iv 2) λh _=>?_;refine go 26 ⟨O,O,O,O,O,?_⟩;exact Kq o () results12 J aB Zh
theorem ve_d2{c d e f a g:Int}(j:vcB c d e=true)(k:vcB f a g=true):Ow prog 6 #[.agg #[.int .i64 c,.int .i64 d,.int .i64 e],.agg #[.int .i64 f,.int .i64 a,.int .i64 g]] [] (.tuple #[.int .i64 (d2V c d e f a g),.int .i64 0]):=by refine Yf func6 ntmps6 λw0 x u s=>?_;obtain⟨n,o,p⟩:=vc_b j;obtain⟨q,h,r⟩:=vc_b k;refine go 2<|Lg (Iv 1) λt _=>Lg (Iv 2) λl _=>go 8 ?_;refine cl 2 [] ve_vc λ_ _=>?_;refine dt (dF (Gt J J) (aU (λb=>Value.bool (!b)) j))<|go 2 ?_;refine clg 2 [] ve_vc λ_ _=>?_;refine gdt (dF (Gt J J) (aU (λb=>Value.bool (!b)) k)) J J<|go 10 ?_;refine cl 2 [] (Zk6 n o p q h r) λ_ _=>Lg (Oy 3) λm _=>go 7 ?_;refine cl 3 [] (ve_dot (c-f) (d-a) (e-g) (c-f) (d-a) (e-g) ⟨O,O⟩ ⟨O,O⟩ ⟨O,O⟩ ⟨O,O⟩ ⟨O,O⟩ ⟨O,O⟩) λ_ _=>go 5 ?_;exact xe2 s () results6 J aB Zh
theorem Zdz(a:Yw):Ow prog 23 #[Qt a] [] (.bool (!ptT a)):=by refine Yf func23 ntmps23 λw0 d c b=>go 2 ?_;refine Lg (Iv 1) λbq _=>go 6 ?_;refine cl 1 [] (ve_pt a.1 a.2.1 a.2.2) λ_ _=>go 5 ?_;exact Kq b () results23 J aB Zh
theorem ix_pts(l:List Yw):Cal prog 37 #[v,.func (.func 23) #[] #[]] [Ou 3 Qt v l] false (G:=Int) (λr=>decide (r>=0)=!l.all ptT) (λr=> .int .i64 r) (λr=>[]):=by
 refine Yf func37 ntmps37 λw0 n m d=>?_;refine Yy (Pr (i:=1) J Zn) λf=>go 14 ?_;refine lp (G:=Nat) [0,1,7] [0,1] (λi=>[(8,.int .i64 (i:Int))]) (λi=>[]) (λi=>(i<=l.length)/\(∀j,j<i->ptT (l.getD j Oa)=true)) (λi=>l.length-i) 0 ⟨O1,λj h=>absurd h (aZ j)⟩ K1 aB ?_;rintro i ⟨hi,g⟩;refine go 6<|Zy J (λc=>?_) (λc=>?_)
 .refine go 15 ?_;refine dt (Zm 1 i J J J J Zn Zdy sizeOf38 J O)<|dt (Xk 1 Oa J J J Zn pPt O)<|tt (Md 1 [] [_] [] (Zdz (l.getD i Oa)) J J J J K1 call23 Xj J m.h) λ_ _=>go 2 ?_;refine Ng J (λa=>?_) (λa=>?_)
  .have b:=a;refine go 12 ?_;exact Kq d (i:Int) results37 J (by rw [al_f O (bnot_t b)];exact aQ (iF i)) Zh
  .have b:=a;refine go 7 ⟨O,?_⟩;exact Yr (i+1) ⟨O1,λj k=>by rcases bE.1 k with e|e;exact g j e;subst e;exact bnot_f b⟩ O1 K1 aB
 .obtain rfl:i=l.length:=O;refine go 11 ?_;exact Kq d (-1) results37 J (by rw [al_t g];rfl) Zh
theorem cf_pts(l:List Yw):Ow prog 22 #[v,.func (.func 23) #[] #[]] [Ou 3 Qt v l] (.bool (!l.all ptT)):=by refine Yf func22 ntmps22 λw0 e c b=>go 9 ?_;refine cl 1 [1] (ix_pts l) λd a=>go 5 ?_;exact Kq b () results22 (by rw [a]) aB Zh
theorem Zaa(l:List Yw):Ow prog 13 #[v] [Ou 3 Qt v l] (.bool (l.all ptT)):=by refine Yf func13 ntmps13 λw0 c b a=>go 8 ?_;refine cl 1 [1] (cf_pts l) λ_ _=>go 5 ?_;exact Kq a () results13 (by rw [Bool.not_not]) aB Zh
theorem Zch{w:Value}(a b:List Yw):Ow prog 7 #[v,w] [Ou 3 Qt v a,Ou 3 Qt w b] (.bool (Lj a b)):=by
 refine Yf func7 ntmps7 λw0 h g c=>go 11 ?_;refine Lq 8 J (λf=>?_) (λf=>?_)
 .refine go 7<|Lq 15 J (λd=>?_) (λd=>?_)
  .refine go 1 ?_;refine clg 2 [1] (Zaa a) λ_ _=>go 2<|Ki 19 J (λe=>?_) (λe=>?_)
   .refine go 1 ?_;refine clg 2 [2] (Zaa b) λ_ _=>go 5 ?_;exact Kq c () results7 (by first|exact vB (Zfi O)|exact vB (Zfh O)|exact vB (Zfg ‹_›)|exact vB (Zff O O ‹_›)) aB Zh
   .refine go 7 ?_;exact Kq c () results7 (by first|exact vB (Zfi O)|exact vB (Zfh O)|exact vB (Zfg ‹_›)|exact vB (Zff O O ‹_›)) aB Zh
  .refine go 11 ?_;exact Kq c () results7 (by first|exact vB (Zfi O)|exact vB (Zfh O)|exact vB (Zfg ‹_›)|exact vB (Zff O O ‹_›)) aB Zh
 .refine go 18 ?_;exact Kq c () results7 (by first|exact vB (Zfi O)|exact vB (Zfh O)|exact vB (Zfg ‹_›)|exact vB (Zff O O ‹_›)) aB Zh
theorem Zkq(x y:Nat)(b:x<U)(c:y<U):Ow prog 51 #[.int .u64 (x:Int),.int .u64 (y:Int)] [] (.tuple #[.int .u64 ((x*y/U:Nat):Int),.int .u64 ((x*y%U:Nat):Int)]):=by refine Yf func51 ntmps51 λw0 e d a=>?_;simp only [U]at b c;refine go 9 ?_;refine dt (Zhv J J J b)<|go 6 ?_;refine dt (Ei 4294967296 (n:=32) J J J J J)<|go 6 ?_;refine dt (Zhv J J J c)<|go 6 ?_;refine dt (Ei 4294967296 (n:=32) J J J J J)<|go 7 ?_;refine dt (Zcg J J J)<|go 7 ?_;refine dt (Zcg J J J)<|go 1 ?_;refine dt (Ei 4294967296 (n:=32) J J J J J)<|dt (Ze5 J J J)<|go 6 ?_;refine dt (Zhv J J J (gN _ U_pos))<|go 6 ?_;refine dt (Ei 4294967296 (n:=32) J J J J J)<|go 8 ?_;refine dt (Zcg J J J)<|dt (Ze5 J J J)<|go 7 ?_;refine dt (Zcg J J J)<|go 1 ?_;refine dt (Ze5 J J J)<|go 1 ?_;refine dt (Ei 4294967296 (n:=32) J J J J J)<|dt (Ze5 J J J)<|go 7 ?_;refine dt (Zcg J J J)<|go 4 ?_;exact xe2 a () results51 (by rw [Ziy b c rfl rfl]) aB Zh
theorem Zhm(x y:Nat)(b:x<U)(c:y<U):Ow prog 43 #[.int .u64 (x:Int),.int .u64 (y:Int)] [] (.tuple #[.int .u64 ((x*y/U:Nat):Int),.int .u64 ((x*y%U:Nat):Int)]):=by refine Yf func43 ntmps43 λw0 e d a=>go 14 ?_;refine cl 0 [] (Zkq x y b c) λ_ _=>go 16 ?_;exact xe2 a () results43 J aB Zh
theorem Hi(c:Int)(n:Nat)(o:1<=n)(q:n<=100000):Zn6 prog 33 #[v,.int .i64 (n:Int)] [Ou 1 Zo v [c]] (G:=Value) (λr=>True) (λr=>r) (λr=>Yu 1 3 Zo r (List.replicate n c)):=by
 refine Zgh func33 J ntmps33 J K1 ?_;intro w0 s f p;have f:=Hw.mk f;simp only [Pu,Qi];refine go 9<|kf (aO O)<|go 8 ?_;refine dt (Xa ( .int .i64 1) (Zj6 J J (i:=1) J Zn Zu) J)<|dt (Zev J J uT3 underlying81 (by simp only [U];omega))<|go 1 ?_;refine dt (Zev J J uT3 underlying81 (by simp only [U];omega))<|cl 1 [] (Zhm 1 n (by simp only [U];omega) (by simp only [U];omega)) λ_ _=>go 11 ?_;refine kf (aO (by simp only [U];omega))<|go 2<|kfg (aO (by simp only [U];omega))<|go 9 ?_;refine dt (Xa ( .int .i64 (n:Int)) (Zj7 J J underlying81 uT3 ⟨by simp only [U];omega,by simp only [U];omega⟩) (by congr 1;simp only [U];omega))<|tt (Ga 2 n 8 (enc:=Zo) 0 J J J J J Zu ti3 J pZ.cells pZ.pos J J J f.h) λv _=>go 4 ?_;refine Yy (Aa 2 J (by rw [bJ];omega)) (λg=>?_);rw [bJ]at g;refine go 3 ?_;refine tt (t_cpy (i:=2) (j:=1) 0 J J J J J J O3 J Zn Zjy (by simp;omega) (by simp;omega) (by simp;omega) Zu pZ J f.h) λ_ _=>go 5 ?_;refine lp (G:=Nat) [7] [0,1] (λk=>[(8,.int .i64 (k:Int))]) (λk=>[(2,Yu 1 3 Zo v (rpL c n k))]) (λk=>(1<=k)/\(k<=n)) (λk=>n-k) 1 ⟨O1,O1⟩ K1 ⟨(by rw [<-rpL_1 o];rfl),aB⟩ ?_;rintro k ⟨l,d⟩;refine go 9<|Zy J (λb=>?_) (λb=>?_)
 .have e:k<n:=by rw [Ku d]at b;omega
  refine go 3<|Fx [] [9] ?_;refine Ic 0 [(0,0),(1,0),(2,0),(3,0),(4,0),(5,0),(6,0),(7,1),(8,0),(9,3)]<|go 3 ?_;refine Kx J J (stf (d_sufo (i:=k) J J J g Zu Qz J O) aB)<|go 2 ?_;refine Kx J J (stf (d_preo (i:=k) J J J g Zu Qz J O) aB)<|r1' J (t_evM (t_cpm (i:=2) (j:=2) (k:=1) (m:=min (n-k) k) k J J J J J J O3 J (rd_pre (Ze pZ) (m:=k) (by rw [Ku d];exact d)) (Zm4 (by rw [Ku d];omega)) (by simp only [aI,Ku d];omega) (by rw [Ku d];omega) (by rw [Ku d];omega) Zu pZ J f.h (λ_ _=>trivial)) (λ_ _ h=>nomatch h)) (λ_ _=>?_);refine go 3 ⟨O,?_⟩;refine Ie<|go 1 ?_;exact Yr (k+min (n-k) k) ⟨O1,O1⟩ O1 ⟨(by rw [hO];rfl),aB⟩ ⟨(by rw [Zie (aH k),rpL_s rfl d];rfl),aB⟩
 .have e:k=n:=by rw [Ku d]at b;omega
  subst e;refine go 12<|Xr (s_eqp 2 (aU (Yu 1 3 Zo _) (rpL_n c k)) J J) ?_;exact Zdx (.inl J) _ (λa w hs=>Zct hs results33 J) J aB J 2 J J J
structure Cst (cs:List LT):Prop where
 n1:1<=cs.length
 n2:cs.length<=64
 ln:∀i,i<cs.length->(cs.getD i Yt).2.length=cs.length
 rg:∀i k,i<cs.length->k<cs.length->0<=(cs.getD i Yt).2.getD k 0/\(cs.getD i Yt).2.getD k 0<=17592186044416
theorem Cst.al(h:Cst cs)(hi:i<cs.length):∀k,k<(cs.getD i Yt).2.length->0<=(cs.getD i Yt).2.getD k 0/\(cs.getD i Yt).2.getD k 0<=17592186044416:=λk a=>h.rg i k hi (by rw [h.ln i hi]at a;exact a)
structure IncT (l:List Int) (n:Int):Prop where
 rg:∀i,i<l.length->0<=l.getD i 0/\l.getD i 0<n
 lt:∀i,i+1<l.length->l.getD i 0<l.getD (i+1) 0
structure Gv (gs:List LT) (n:Nat):Prop where
 ln:gs.length=n
 n2:n<=64
 ic:∀i,i<gs.length->IncT (gs.getD i Yt).2 (n:Int)
abbrev gL (gs:List LT):List (List Int):=gs.map (·.2)
def Yc(gs:List LT):(gL gs).length=gs.length:=cY _
theorem Ma(gs:List LT)(i:Nat):(gL gs).getD i []=(gs.getD i Yt).2:=by rw [aA,aA,dI];cases gs[i]?<;>rfl
theorem Gv.gr{n:Nat}(h:Gv gs n):Gr (gL gs) n:=⟨λi x a=>by
 rw [Ma]at a;by_cases hi:i<gs.length
 .obtain⟨k,b,rfl⟩:=eW a;have:=(h.ic i hi).rg k b;rw [aA,aF b]at this;exact this
 .rw [aA,bL O]at a;cases a⟩
theorem cnM_k{l:List Int}(h:i<l.length):Ni (l.take (i+1))=Ni (l.take i)+if 0<=l.getD i 0 then 1 else 0:=by
 rw [Zj9 h];have e:gI l i=l.getD i 0:=by show l.getD i (-1)=l.getD i 0;rw [aA,aA,aF h];rfl
 rw [e]
theorem cnM_t{l:List Int}(h:i<l.length)(a:l.getD i 0>=0):Ni (l.take (i+1))=Ni (l.take i)+1:=by rw [cnM_k h,aK a]
theorem cnM_f{l:List Int}(h:i<l.length)(a:¬l.getD i 0>=0):Ni (l.take (i+1))=Ni (l.take i):=by rw [cnM_k h,aG a];rfl
theorem Zkc(l:List Int):Ni (l.take l.length)=Ni l:=by rw [bZ (aH _)]
theorem Zhl(n:Int)(h:0<=n/\n<=17592186044416):Ow prog 26 #[.int .i64 n] [] (.bool false):=by refine Yf func26 ntmps26 λw0 c b a=>go 8 ?_;refine kf (aO O)<|go 2<|kfg (aO O)<|go 5 ?_;exact Kq a () results26 J aB Zh
theorem ix_int(l:List Int)(e:∀k,k<l.length->0<=l.getD k 0/\l.getD k 0<=17592186044416):Ow prog 38 #[v,.func (.func 26) #[] #[]] [Ou 1 Zo v l] (.int .i64 (-1)):=by
 refine Yf func38 ntmps38 λw0 g f c=>?_;refine Yy (Pr (i:=1) J Zn) λd=>go 14 ?_;refine lp (G:=Nat) [0,1,7] [0,1] (λi=>[(8,.int .i64 (i:Int))]) (λi=>[]) (λi=>i<=l.length) (λi=>l.length-i) 0 O1 K1 aB ?_;rintro i hi;refine go 6<|Zy J (λb=>?_) (λb=>?_)
 .have a:i<l.length:=O;refine go 15 ?_;refine dt (Zm 1 i J J J J Zn Zu Qz J a)<|go 1 ⟨a,?_⟩;refine tt (Md 1 [] [_] [] (Zhl (l.getD i 0) (e i a)) J J J J K1 call26 Xj J f.h) (λ_ _=>?_);refine go 10 ⟨O,?_⟩;exact Yr (i+1) O1 O1 K1 aB
 .refine go 11 ?_;exact Kq c () results38 J aB Zh
theorem cf_int(l:List Int)(b:∀k,k<l.length->0<=l.getD k 0/\l.getD k 0<=17592186044416):Ow prog 25 #[v,.func (.func 26) #[] #[]] [Ou 1 Zo v l] (.bool false):=by refine Yf func25 ntmps25 λw0 d c a=>go 9 ?_;refine cl 1 [1] (ix_int l b) λ_ _=>?_;refine kf (aO O3)<|go 4 ?_;exact Kq a () results25 J aB Zh
theorem Zkp(v:Value)(cs:List LT)(b:Cst cs):Ow prog 14 #[v] [Nd 1 (Qe (α:=List Int)) qL v cs] (.bool true):=by
 refine Yf func14 ntmps14 λw0 j h e=>?_;obtain⟨f,g⟩:1<=cs.length/\cs.length<=64:=⟨b.n1,b.n2⟩;refine go 14 ?_;refine lp (G:=Nat) [0,5,6] [0,1] (λi=>[(7,.int .i64 (i:Int))]) (λi=>[]) (λi=>i<=cs.length) (λi=>cs.length-i) 0 O1 K1 aB ?_;rintro i hi;refine go 6<|Zy J (λc=>?_) (λc=>?_)
 .have a:i<cs.length:=O;refine go 5<|Yg (Nv 1 70 J J (Ym i (d:=Yt) a))<|go 1 ?_;refine dt (Zm 1 i J J J J Yl Mp Ge J a)<|dt (Xk 1 Yt J J J Yl pS a)<|go 9 ?_;refine kf (aO (by have:=b.ln i a;omega))<|go 2 ?_;refine clg 1 [70] (cf_int (cs.getD i Yt).2 (b.al a)) λ_ _=>?_;refine go 11 ⟨O,?_⟩;exact Yr (i+1) O1 O1 K1 aB
 .refine go 9<|kt (aQ O)<|go 3<|ktg (aQ O)<|go 5 ?_;exact Kq e () results14 J aB Zh
theorem mt_inc(l:List Int)(n:Int)(e:IncT l n):Ow prog 44 #[v,.int .i64 n] [Ou 1 Zo v l] (.bool true):=by
 refine Yf func44 ntmps44 λw0 k j c=>?_;refine Yy (Pr (i:=1) J Zn) λf=>go 14 ?_;refine lp (G:=Nat) [0,1,7,8] [0,1] (λi=>[(9,.int .i64 (i:Int))]) (λi=>[]) (λi=>i<=l.length) (λi=>l.length-i) 0 O1 K1 aB ?_;rintro i hi;refine go 6<|Zy J (λb=>?_) (λb=>?_)
 .have a:i<l.length:=O;have h:=e.rg i a;refine go 7 ?_;refine dt (Zm 1 i J J J J Zn Zu Qz J a)<|go 5 ⟨a,?_⟩;refine jn (G:=Unit) [0,1,7,8,9] [0,1] (λ_=>[(33,.bool false)]) (λ_=>[]) (λ_=>True) ?_ ?_
  .refine go 2<|kf (aO O)<|go 3<|kfg (aO O)<|go 5<|Lq 24 J (λd=>?_) (λd=>?_)
   .refine go 3 ⟨O,?_⟩;refine gdt (Zm 1 (i-1) J J J J Zn Zu Qz O O) J J<|go 2 ⟨O,?_⟩;refine kfg (aO (by have g:=e.lt (i-1) O;rw [show i-1+1=i by omega]at g;omega))<|go 3 ?_;exact x_j () aB K1 aB
   .refine go 10 ?_;exact x_j () aB K1 aB
  .rintro _ -;refine go 8 ⟨O,?_⟩;exact Yr (i+1) O1 O1 K1 aB
 .refine go 11 ?_;exact Kq c () results44 J aB Zh
theorem Zc3(f:SL)(gs:List LT)(n:Nat)(c:Gv gs n):Ow prog 35 #[.agg #[Qu f,.int .i64 (n:Int)]] [Nd 1 (Qe (α:=List Int)) qL (Qu f) gs] (.bool true):=by
 refine Yf func35 ntmps35 λw0 k j e=>?_;have g:=c.ln;have h:=c.n2;refine go 2<|Lg (Iv 2) λbq _=>go 13 ?_;refine lp (G:=Nat) [1,6,7] [0,1,2] (λi=>[(8,.int .i64 (i:Int))]) (λi=>[]) (λi=>i<=gs.length) (λi=>gs.length-i) 0 O1 K1 aB ?_;rintro i hi;refine go 6<|Zy J (λb=>?_) (λb=>?_)
 .have a:i<gs.length:=O;refine go 5<|Yg (Nv 1 70 J J (Ym i (d:=Yt) a))<|go 1 ?_;refine dt (Zm 1 i J J J J Yl Mp Ge J a)<|dt (Xk 1 Yt J J J Yl pS a)<|go 8 ?_;refine cl 2 [70] (mt_inc (gs.getD i Yt).2 (n:Int) (c.ic i a)) λ_ _=>?_;refine go 11 ⟨O,?_⟩;exact Yr (i+1) O1 O1 K1 aB
 .refine go 10<|kt (aQ O)<|go 3<|ktg (aQ O)<|go 4<|ktg (aQ O)<|go 5 ?_;exact Kq e () results35 J aB Zh
theorem Zl8(l:List Int):Ow prog 42 #[v] [Ou 1 Zo v l] (.int .i64 ((Ni l:Nat):Int)):=by
 refine Yf func42 ntmps42 λw0 k j g=>?_;refine Yy (Pr (i:=1) J Zn) λh=>go 19 ?_;refine lp (G:=Nat×Nat) [6,7] [0,1] (λq=>[(8,.int .i64 (q.1:Int)),(3,.int .i64 (q.2:Int))]) (λq=>[]) (λq=>(q.1<=l.length)/\(q.2=Ni (l.take q.1))/\(q.2<=q.1)) (λq=>l.length-q.1) (0,0) ⟨O1,rfl,O1⟩ K2 aB ?_;rintro⟨i,n⟩ ⟨hi,d,f⟩;dsimp only at hi d f;dsimp only;refine go 6<|Zy J (λc=>?_) (λc=>?_)
 .have b:i<l.length:=O;refine go 6 ?_;refine dt (Zm 1 i J J J J Zn Zu Qz J b)<|go 10 ⟨b,?_⟩;refine Zy J (λa=>?_) (λa=>?_)
  .have e:=a;refine go 11 ⟨O,O,?_⟩;exact Yr (i+1,n+1) ⟨O1,by rw [cnM_t b e,d],O1⟩ O1 K2 aB
  .have e:=a;refine go 7 ⟨O,?_⟩;exact Yr (i+1,n) ⟨O1,by rw [cnM_f b e,d],O1⟩ O1 K2 aB
 .obtain rfl:i=l.length:=O;rw [Zkc]at d;refine go 12 ?_;exact Kq g () results42 (by rw [d]) aB Zh
open Go.RowKit Below
variable {P:Program} {N:Nat} {sc:Nat->Prop} {env env':Yd} {H H':Hp} {Q Q':Exit->Act->World->Prop} {M:Nat->Prop}
def QAt(w:World)(e:TypeId)(v:Value)(xs:List Int):Prop:=
 (v= .slice none 0 0/\xs=[])\/∃g d c a,v= .slice (some ⟨g,d,none⟩) xs.length c/\w.heap[g]? = some (.cells a e (0,0))/\xs.length<=c/\c<=maxLen/\d+c<=a.size/\∀i x,xs[i]? = some x->a[d+i]? = some (.int .i64 x)
def qup(e:TypeId)(v:Value)(xs:List Int):Pc:=
 {own:=true,fp:=λb=>v.ownBlock=some b,holds:=λw=>QAt w e v xs
  lt:=λw b h j=>by
   rcases h with⟨rfl,_⟩|⟨g,d,c,a,rfl,f,_⟩
   .cases j
   .cases j;exact(aL.1 f).1
  stable:=λw m h k=>by
   rcases h with h|⟨g,d,c,a,rfl,f,r⟩
   .exact .inl h
   .exact .inr ⟨g,d,c,a,rfl,(k.block g (aL.1 f).1 (λl=>l rfl)).trans f,r⟩ }
theorem Zkk(xs:List Int):cellsOf Zo xs=xs.map (Value.int .i64):=by
 unfold cellsOf
 induction xs with
 | nil=>rfl
 | cons x r a=>rw [eJ,bK,a];rfl
theorem Bc{base:Nat}{e:TypeId}(h:w.ownsRow base e 1 v xs.length (xs.map (Value.int .i64))):QAt w e v xs:=by
 rcases h.2 with⟨rfl,n⟩|⟨g,c,b,rfl,o,m,f,d,l,a⟩
 .exact .inl ⟨rfl,aE n⟩
 .refine .inr ⟨g,0,c,b,rfl,m,f,d,O,λi x k=>?_⟩;have hi:=(dH.1 k).1;have j:(b.toList.take (xs.length*1))[i]? = some (.int .i64 x):=by rw [a,dI,k];rfl
  rw [aX,aK O]at j;rw [dK];simpa using j
theorem s_toq{e:TypeId}(i:Nat)(hi:lk H i=some (Yu 1 e Zo v xs))(c:Nat.beq i 0=false)(d:lk H 0=some (keep w0 M0))(g:∀b,w0.heap.size<=b->sc b) :
  ∀a w,Sat N sc env H a w->Sat N sc env ((i,qup e v xs)::H) a w:=λa w hs=>
 hs.upd hi rfl (λe=>by subst e;simp at c) (Chg.refl _ w) (Bc (base:=0) (by have h:=hs.hold i _ hi;rw [<-Zkk];exact h)) (λb f=> .inl f) d g
theorem Zbh{e:TypeId} : Rd (qup e v xs) 1 Zo v xs:=λw h=>by
 rcases h with⟨rfl,rfl⟩|⟨g,d,c,b,rfl,n,k,l,p,m⟩
 .exact⟨none,0,rfl,aH _,aW _,.inl rfl⟩
 .refine⟨_,c,rfl,k,l,.inr ⟨g,d,rfl,λi x o j u a=>?_⟩⟩;have f:j=0:=by
   rcases j with _|j
   .rfl
   .simp [Value.cells]at a
  subst f;have a:Value.int .i64 x=u:=by simpa [Value.cells]using a
  subst a;rw [show d+i*1+0=d+i by omega,cell_of_row w g (d+i) b e (0,0) n];exact m i x o
theorem s_qpop{e:TypeId}{x:Int}(i:Nat)(hi:lk H i=some (qup e v (x::xs)))(k:Nat.beq i 0=false)(n:lk H 0=some (keep w0 M0))(q:∀b,w0.heap.size<=b->sc b) :
  ∀a w,Sat N sc env H a w->Sat N sc env ((i,qup e (Dr v 1 1) xs)::H) a w:=λa w hs=>
 hs.upd hi rfl (λe=>by subst e;simp at k) (Chg.refl _ w) (by
  rcases hs.hold i _ hi with⟨-,h⟩|⟨g,d,c,f,rfl,m,s,t,u,o⟩
  .cases h
  .have z:(x::xs).length=xs.length+1:=rfl;have r:∀i y,xs[i]? = some y->f[d+(i+1)]? = some (.int .i64 y):=λi y j=>o (i+1) y (by simpa using j);right;by_cases l:c=1
   .subst l;have:xs=[]:=aE O;subst this;exact⟨g,d,0,f,by simp [Dr],m,aH _,aW _,O,λi y j=>by cases j⟩
   .refine⟨g,d+1,c-1,f,?_,m,O,O,O,λi y j=>by rw [show d+1+i=d+(i+1) by omega];exact r i y j⟩;simp [Dr,l,Xw]) (λb p=> .inl (by show v.ownBlock=some b;rw [<-Ar v 1 1];exact p)) n q
theorem Eo  (t B e:TypeId) (i:TypeInfo) (z:P.underlying t=some (.slice e)) (hi:P.info? e=some i) (hs:i.size=1)
  (g d f k:Nat) (h:Array Value) (s:w.heap[g]? = some (.cells h e (0,0)))
  (a:Addr) (m c:Nat) (b:List Value) (x:b.length=m) (l:∀j u,b[j]? = some u->w.cell? (a.add j)=some u) (r:∀u∈b,u.oneCell'=true)
  (n:f+m<=k) (o:d+f+b.length<=h.size) :
  (Builtin.append_ #[t,t] B #[.slice (some ⟨g,d,none⟩) f k,.slice (some a) m c]).run P w =
   .ok (.slice (some ⟨g,d,none⟩) (f+m) k) (w.setRow g (h.toList.take (d+f) ++ b ++ h.toList.drop (d+f+b.length)).toArray):=by
 have q:=run_firstCells_some (P:=P) w i.size m a m c b (by rw [hs,Nat.mul_one];exact x) l;have p:=run_storeCells_at P g (d+f) e b 0 h w s (by simpa using o) r;simp only [gE]at p;rw [hs]at q;simp [Builtin.append_,run_underlying z,sizeOf,typeInfo,hi,Builtin.lenOf,n,q,Xw,p,hs]
theorem Zhy (i:Nat)(j:Nat)(m:Int) {o:Oper} {x:Operand} {t e:TypeId} {d:Nat} {u:Value}   {p:Pc} {ti:TypeInfo} {z:Value}  
  (ho:o.op= .call { callee:= .builtin .append,args:=#[x,y],argTypes:=#[t,t] }) (hd:o.dst=some d) (hN:Nat.blt d N=true)
  (hx:ev env x=some v) (hy:ev env y=some u) (hH:lk H i=some (qup e v xs)) (a4:i≠0) (r:lk H j=some p) (hr:Rd p 1 Zo u [m])
  (ht:P.underlying t=some (.slice e)) (hi:P.info? e=some ti) (hz:ti.zero=some z) (V:ti.size=1) (a0:ti.bytes=8) (a2:z.cells.size=1)
  (S:xs.length<1000000) (h0:lk H 0=some (keep w0 M0)) (hw:∀b,w0.heap.size<=b->sc b) :
  T P N sc (λ_=>True) o env H (G:=Value) (λ_=>True) (λl=>(d,l)::env) (λl=>(i,qup e l (xs ++ [m]))::H):=λa w hs K Q hK=>by
 have hq:QAt w e v xs:=hs.hold i _ hH;obtain⟨ad,c,rfl,h1,h2,h3⟩:=hr w (hs.hold j p r);rcases h3 with h3|⟨Z,B,rfl,h3⟩
 .cases h3
 have h:∀j u,[Value.int .i64 m][j]? = some u->w.cell? ((⟨Z,B,none⟩:Addr).add j)=some u:=λj u r=>by
  have a6:j=0:=by have:=(dH.1 r).1;simp at this;exact this
  subst a6;rw [Xw];exact h3 0 m rfl 0 u r
 have I:∀u∈[Value.int .i64 m],u.oneCell'=true:=λu hu=>by rw [aY.1 hu];rfl
 have a8:(xs ++ [m]).map (Value.int .i64)=xs.map (Value.int .i64) ++ [Value.int .i64 m]:=fI;have D:(xs ++ [m]).length=xs.length+1:=by rw [aJ];rfl
 have b1:∃l F,(Builtin.append_ #[t,t] o.type #[v,.slice (some ⟨Z,B,none⟩) [m].length c]).run P w= .ok l F/\QAt F e l (xs ++ [m])/\Chg (qup e v xs).fp w F/\∀b,l.ownBlock=some b->v.ownBlock=some b\/w.heap.size<=b:=by
  rcases hq with⟨rfl,rfl⟩|⟨g,R,cc,n,rfl,hg,q1,q2,q3,q4⟩
  .obtain⟨l,F,r1,r2,r3,-⟩:=run_append_own (P:=P) w w.heap.size t o.type e ti z 1 8 ht hi hz V a0 a2 O3 (.slice none 0 0) 0 [] (World.ownsRow_nil w _ e 1) ⟨Z,B,none⟩ 1 c [Value.int .i64 m] rfl h I O3 O3 (aH _);refine⟨l,F,r1,Bc r2,⟨r3.os,r3.tape,r3.output,r3.size,λk hk hn=>r3.block k hk (λe=>by cases e)⟩,λb S=> .inr (r2.lt b S).1⟩
  .by_cases s:xs.length+1<=cc
   .refine⟨_,_,Eo (P:=P) t o.type e ti ht hi V g R xs.length cc n hg ⟨Z,B,none⟩ 1 c [Value.int .i64 m] rfl h I s (by simp only [dO];omega),?_,Xs rfl,λb S=> .inl S⟩;refine .inr ⟨g,R,cc,_,by rw [D],setRow_heap w g n _ e _ hg,by rw [D];exact s,q2,by simp only [eN,aJ,aI,dS,dO,bN];omega,λi x hi=>?_⟩;have Y:(n.toList.take (R+xs.length)).length=R+xs.length:=by have b2:n.toList.length=n.size:=bN;rw [aI];omega
    rw [jO,cM];by_cases a7:i<xs.length
    .rw [aV (by rw [Y];omega),aX,aK O];rw [aV a7]at hi;simpa using q4 i x hi
    .have a5:=(dH.1 hi).1;rw [D]at a5;obtain rfl:i=xs.length:=O;rw [aR (aH _),eP]at hi;rw [aR (by rw [Y];exact aH _),Y,eP];simp at hi ⊢;exact hi
   .have W:∀j u,(xs.map (Value.int .i64))[j]? = some u->w.cell? ((⟨g,R,none⟩:Addr).add j)=some u:=λj u r=>by
     rw [dI]at r;cases hxj:xs[j]? with
     | none=>rw [hxj]at r;cases r
     | some x=> 
      rw [hxj]at r;have r:Value.int .i64 x=u:=by simpa using r
      subst r;rw [Xw,cell_of_row w g (R+j) n e (0,0) hg];exact q4 j x hxj
    obtain⟨l,F,r1,r2,r3⟩:=run_append_arg_grows (P:=P) w t o.type e ti z 1 8 ht hi hz V a0 a2 O3 ⟨g,R,none⟩ xs.length cc (xs.map (Value.int .i64)) O6 W ⟨Z,B,none⟩ 1 c [Value.int .i64 m] rfl h O (by simp only [maxLen];omega) O;rw [<-a8,<-D]at r2;exact⟨l,F,r1,Bc r2,⟨r3.os,r3.tape,r3.output,r3.size,λk hk hn=>r3.block k hk (λe=>by cases e)⟩,λb S=> .inr (r2.lt b S).1⟩
 obtain⟨l,F,a1,a9,f,a3⟩:=b1;have b0:(execOp a.eval o).run P w= .ok (.value l) F:=by simp only [execOp,ho,resolve,invoke,builtin,Sem.run_bind,Sem.run_pure,Result.andThen_ok,eY,bK,gF,hs.ev hx,hs.ev hy,a1]
 unfold Oper.wp;rw [b0];show K (a.put o.dst _) _;rw [hd];exact hK l _ _ aB ((hs.upd hH rfl a4 (q:=qup e l (xs ++ [m])) f a9 a3 h0 hw).put d _ hN) ⟨f.os,f.tape,f.output,f.size,λb S hn=>absurd aB hn⟩
end Go.Sky
namespace Go.Sky
def Ov{l:List Int}{i:Nat}(h:i<l.length):gI l i=l.getD i 0:=by show l.getD i (-1)=l.getD i 0;rw [aA,aA,aF h];rfl
def Zgb{l:List Int}{i:Nat}(hi:i<l.length)(h:0<=gI l i):0<Ni l:=by refine jG (a:=l.getD i (-1)) (List.mem_filter.2 ⟨?_,aQ h⟩);rw [aA,aF hi];exact gO hi
def Zne{l:List Int}{k:Nat}{x:Int}(a:k<l.length)(h:gI l k<0)(b:0<=x):Ni l<Ni (l.set k x):=
 (Eb (by rw [aS]) (λj d c=>by
  rw [Qy _ _ _ _ a];split
  .exact b
  .exact c)).2 k a h (by rw [Qy _ _ _ _ a,aK rfl];exact b)
def EdO(a b:List Int)(c:Bool)(r:Nat):Prop:=gI a r<0/\c=true\/0<=gI a r/\0<=gI b (gI a r).toNat
def EdO.mono{d e b:List Int}{f c:Bool}{r:Nat}(h:EdO d e f r)(g:∀k:Nat,0<=gI e k->0<=gI b k)(i:f=true->c=true):EdO d b c r:=
 h.imp (λa=>⟨a.1,i a.2⟩) (λa=>⟨a.1,g _ a.2⟩)
structure Bq (g:List (List Int)) (mt bk lv q:List Int) (re:Bool) (i:Int) (m:Nat):Prop where
 ln:lv.length=g.length
 lo:∀k,k<g.length->-1<=gI lv k/\gI lv k<(Ni lv:Int)
 fr:∀k,k<g.length->gI mt k<0->gI lv k=0
 z:∀k,k<g.length->gI lv k=0->gI mt k<0
 q1:∀x∈q,0<=x/\x<g.length/\0<=gI lv x.toNat
 cl:∀k:Nat,k<g.length->0<=gI lv k->(k:Int)∈q\/(k:Int)=i\/∀r:Nat,(r:Int)∈g.getD k []->EdO bk lv re r
 cm:∀k:Nat,k<g.length->(k:Int)=i->0<=gI lv k/\∀r:Nat,(r:Int)∈(g.getD k []).take m->EdO bk lv re r
 tr:∀k:Nat,k<g.length->0<gI lv k->∃i,∃r:Nat,i<g.length/\gI lv i=gI lv k-1/\(r:Int)∈g.getD i []/\gI bk r=k
 re:re=true->∃i,∃r:Nat,i<g.length/\0<=gI lv i/\(r:Int)∈g.getD i []/\gI bk r<0
section
variable {g:List (List Int)} {R:Nat} {mt bk lv q:List Int} {re:Bool} {i m:Nat} {x:Int}
theorem bq_pop(h:Bq g mt bk lv (x::q) re (-1) 0):Bq g mt bk lv q re x 0/\0<=x/\x<g.length:=by
 obtain⟨l,n,o⟩:=h.q1 x bM;refine⟨⟨h.ln,h.lo,h.fr,h.z,λy j=>h.q1 y (bC _ j),λk c d=>?_,λk c e=>⟨?_,λr f=>by simp at f⟩,h.tr,h.re⟩,l,n⟩
 .rcases h.cl k c d with a|a|a
  .rcases dA.1 a with b|b
   .exact .inr (.inl b)
   .exact .inl b
  .exact absurd a O
  .exact .inr (.inr a)
 .subst e;exact o
theorem Znr(h:Bq g mt bk lv q re i m)(d:(g.getD i []).length<=m):Bq g mt bk lv q re (-1) 0:=by
 refine⟨h.ln,h.lo,h.fr,h.z,h.q1,λk b c=>?_,λk b e=>absurd e O,h.tr,h.re⟩;rcases h.cl k b c with a|a|a
 .exact .inl a
 .right;right;intro r f;have e:k=i:=O;subst e;exact(h.cm k b rfl).2 r (by rw [bZ d];exact f)
 .exact .inr (.inr a)
theorem bq_end(h:Bq g mt bk lv [] re (-1) 0):Lv g R mt bk lv re:=by
 refine⟨h.ln,λk b=>⟨(h.lo k b).1,?_⟩,h.fr,h.z,λk b c r d=>?_,h.tr,h.re⟩
 .have:=(h.lo k b).2;have:=Af lv;have:=h.ln;omega
 .rcases h.cl k b c with a|a|a
  .cases a
  .exact absurd a O
  .exact a r d
variable (hi:i<g.length) (hm:m<(g.getD i []).length) {r:Nat} (hr:(g.getD i []).getD m 0=(r:Int))
include hi hm hr
omit hi in
theorem Zgj:(r:Int)∈g.getD i []:=by rw [<-hr];exact Ym _ hm
theorem Zgi{a:Bool}(h:Bq g mt bk lv q re i m)(c:re=true->a=true)(j:EdO bk lv a r)(l:a=true->∃i,∃r:Nat,i<g.length/\0<=gI lv i/\(r:Int)∈g.getD i []/\gI bk r<0):Bq g mt bk lv q a i (m+1):=by
 refine⟨h.ln,h.lo,h.fr,h.z,h.q1,λk d f=>(h.cl k d f).imp id (Or.imp id λb r hr=>(b r hr).mono (λ_ h=>h) c),λk d e=>⟨(h.cm k d e).1,λs hs=>?_⟩,h.tr,l⟩;have e:k=i:=O;subst e;rcases Za7 hm hs with b|b
 .exact((h.cm k d rfl).2 s b).mono (λ_ h=>h) c
 .rw [hr]at b;have:s=r:=O;subst this;exact j
theorem Znq(h:Bq g mt bk lv q re i m)(a:gI bk r<0):Bq g mt bk lv q true i (m+1):=
 Zgi hi hm hr h (λ_=>rfl) (.inl ⟨a,rfl⟩) λ_=>⟨i,r,hi,(h.cm i hi rfl).1,Zgj hm hr,a⟩
theorem Zno(h:Bq g mt bk lv q re i m)(a:0<=gI bk r)(b:0<=gI lv (gI bk r).toNat):Bq g mt bk lv q re i (m+1):=
 Zgi hi hm hr h id (.inr ⟨a,b⟩) h.re
theorem Znp(M:∀r,gI bk r<g.length)(N:∀k r:Nat,k<g.length->gI bk r=k->gI mt k=r)(h:Bq g mt bk lv q re i m)(o:0<=gI bk r)(w:gI lv (gI bk r).toNat<0) :
  Bq g mt bk (lv.set (gI bk r).toNat (gI lv i+1)) (q ++ [gI bk r]) re i (m+1)/\Ni lv<Ni (lv.set (gI bk r).toNat (gI lv i+1)):=by
 obtain⟨k,D⟩:∃k:Nat,gI bk r=(k:Int):=⟨(gI bk r).toNat,O⟩;have F:k<g.length:=by have:=M r;omega
 rw [D]at w ⊢;have e:((k:Int)).toNat=k:=O;rw [e]at w ⊢;have I:k<lv.length:=by rw [h.ln];exact F
 have t:=(h.cm i hi rfl).1;have P:=Zne I w (show 0<=gI lv i+1 by omega);have hs:∀j,gI (lv.set k (gI lv i+1)) j=if j=k then gI lv i+1 else gI lv j:=λj=>Qy _ _ _ _ I
 have d:∀j:Nat,0<=gI lv j->0<=gI (lv.set k (gI lv i+1)) j:=λj f=>by
  rw [hs];split
  .omega
  .exact f
 have p:∀j,0<=gI lv j->j≠k:=λj f e=>by subst e;omega
 refine⟨⟨by rw [aS];exact h.ln,λj f=>?_,λj f Q=>?_,λj f G=>?_,λy u=>?_,λj f o=>?_,λj f e=>?_,λj f o=>?_,λhr=>?_⟩,P⟩
 .have:=h.lo j f;have:=h.lo i hi;rw [hs];split<;>omega
 .have l:=h.fr j f Q;rw [hs,aG (p j O)];exact l
 .rw [hs]at G;split at G
  .omega
  .exact h.z j f G
 .rcases bG.1 u with u|u
  .obtain⟨a,b,c⟩:=h.q1 y u;exact⟨a,b,d _ c⟩
  .rw [aY.1 u];exact⟨O,O,by rw [e,hs,aK rfl];omega⟩
 .rw [hs]at o;split at o
  .rename_i e;subst e;exact .inl (jR _ (aY.2 rfl))
  .rcases h.cl j f o with l|l|l
   .exact .inl (eT _ l)
   .exact .inr (.inl l)
   .exact .inr (.inr λs hs=>(l s hs).mono d id)
 .have e:j=i:=O;subst e;refine⟨d _ t,λs n=>?_⟩;rcases Za7 hm n with l|l
  .exact((h.cm j f rfl).2 s l).mono d id
  .rw [hr]at l;have:s=r:=O;subst this;right;rw [D];exact⟨O,by rw [show((k:Int)).toNat=k by omega,hs,aK rfl];omega⟩
 .rw [hs]at o ⊢;by_cases H:j=k
  .subst H;rw [aK rfl]at o ⊢;exact⟨i,r,hi,by rw [hs,aG (p i t)];omega,Zgj hm hr,D⟩
  .rw [aG H]at o ⊢;obtain⟨a,s,z,v,n,B⟩:=h.tr j f o;exact⟨a,s,z,by rw [hs,aG (p a O)];exact v,n,B⟩
 .obtain⟨a,s,z,v,n,B⟩:=h.re hr;exact⟨a,s,z,d _ v,n,B⟩
end
structure L1 (mt lv q:List Int) (n i:Nat):Prop where
 ln:lv.length=n
 v:∀k,k<i->k<n->gI lv k=if gI mt k<0 then 0 else -1
 mem:∀x,x∈q↔∃k:Nat,k<i/\x=(k:Int)/\gI mt k<0
 ql:q.length<=i
section
variable {g:List (List Int)} {mt bk lv q:List Int} {n i:Nat}
theorem l1_0(h:lv.length=n):L1 mt lv [] n 0:=⟨h,λk a=>absurd a (aZ k),λx=>⟨λh=>(by cases h),λ⟨k,a,_⟩=>absurd a (aZ k)⟩,aH 0⟩
theorem Zmn(h:L1 mt lv q n i)(hi:i<n)(f:gI mt i<0):L1 mt ((lv.set i (-1)).set i 0) (q ++ [(i:Int)]) n (i+1):=by
 have j:i<(lv.set i (-1)).length:=by rw [aS,h.ln];exact hi
 have d:i<lv.length:=by rw [h.ln];exact hi
 refine⟨by rw [aS,aS];exact h.ln,λk p l=>?_,λx=>?_,by rw [aJ];have:=h.ql;simp;omega⟩
 .rw [Qy _ _ _ _ j];by_cases e:k=i
  .subst e;rw [aK rfl,aK f]
  .rw [aG e,Qy _ _ _ _ d,aG e];exact h.v k O l
 .rw [bG,h.mem];constructor
  .rintro(⟨k,a,b,c⟩|o)
   .exact⟨k,O,b,c⟩
   .exact⟨i,O,aY.1 o,f⟩
  .rintro⟨k,a,b,c⟩;by_cases e:k=i
   .subst e;exact .inr (aY.2 b)
   .exact .inl ⟨k,O,b,c⟩
theorem l1_no(h:L1 mt lv q n i)(hi:i<n)(f:¬gI mt i<0):L1 mt (lv.set i (-1)) q n (i+1):=by
 have d:i<lv.length:=by rw [h.ln];exact hi
 refine⟨by rw [aS];exact h.ln,λk l j=>?_,λx=>?_,by have:=h.ql;omega⟩
 .rw [Qy _ _ _ _ d];by_cases e:k=i
  .subst e;rw [aK rfl,aG f]
  .rw [aG e];exact h.v k O j
 .rw [h.mem];constructor
  .rintro⟨k,a,b,c⟩;exact⟨k,O,b,c⟩
  .rintro⟨k,a,b,c⟩;have:k≠i:=λe=>by subst e;exact f c
   exact⟨k,O,b,c⟩
theorem bq_0(h:L1 mt lv q g.length g.length):Bq g mt bk lv q false (-1) 0:=by
 have v:∀k,k<g.length->gI lv k=if gI mt k<0 then 0 else -1:=λk d=>h.v k d d
 refine⟨h.ln,λk d=>?_,λk d f=>by rw [v k d,aK f],λk d o=>?_,λx p=>?_,λk d j=>?_,λk d e=>absurd e O,λk d j=>?_,λh=>by cases h⟩
 .have e:=v k d;by_cases f:gI mt k<0
  .rw [aK f]at e;have:=Zgb (l:=lv) (i:=k) (by rw [h.ln];exact d) O;omega
  .rw [aG f]at e;omega
 .rw [v k d]at o;split at o
  .assumption
  .cases o
 .obtain⟨k,a,b,c⟩:=(h.mem x).1 p;subst b;exact⟨O,O,by rw [show((k:Int)).toNat=k by omega,v k a,aK c];exact cL 0⟩
 .rw [v k d]at j;split at j
  .rename_i f;exact .inl ((h.mem _).2 ⟨k,d,rfl,f⟩)
  .omega
 .rw [v k d]at j;split at j<;>omega
end
end Go.Sky
namespace Go.Sky
section
variable {gs:List LT} {R:Nat} {mt bk lv q:List Int} {re:Bool} {u j r kk:Nat}
theorem Gv.edge(a:Gv gs R)(c:u<gs.length)(b:j<(gs.getD u Yt).2.length):∃r:Nat,(gs.getD u Yt).2.getD j 0=(r:Int)/\r<R:=by obtain⟨d,e⟩:=(a.ic u c).rg j b;exact⟨((gs.getD u Yt).2.getD j 0).toNat,O,O⟩
theorem bk_in(b:Mt (gL gs) R mt bk)(c:r<R):-1<=bk.getD r 0/\bk.getD r 0<gs.length:=by have a:=b.b1 r c;rw [Ov (by rw [b.lb];exact c),Yc]at a;exact a
variable (hM:Mt (gL gs) R mt bk) (hu:u<gs.length) (hj:j<(gs.getD u Yt).2.length) (hr:(gs.getD u Yt).2.getD j 0=(r:Int)) (hrb:r<R)
include hM hu hj hr hrb
theorem Zko(h:Bq (gL gs) mt bk lv q re (u:Int) j)(a:bk.getD r 0<0):Bq (gL gs) mt bk lv q true (u:Int) (j+1):=
 Znq (by rw [Yc];exact hu) (by rw [Ma];exact hj) (by rw [Ma];exact hr) h (by rw [Ov (by rw [hM.lb];exact hrb)];exact a)
theorem Zkm(h:Bq (gL gs) mt bk lv q re (u:Int) j)(b:bk.getD r 0=(kk:Int))(a:kk<gs.length)(c:¬lv.getD kk 0<0):Bq (gL gs) mt bk lv q re (u:Int) (j+1):=by have e:gI bk r=(kk:Int):=(Ov (by rw [hM.lb];exact hrb)).trans b;refine Zno (by rw [Yc];exact hu) (by rw [Ma];exact hj) (by rw [Ma];exact hr) h O ?_;rw [e,show((kk:Int)).toNat=kk by omega,Ov (by rw [h.ln,Yc];exact a)];omega
theorem Zkn(h:Bq (gL gs) mt bk lv q re (u:Int) j)(g:bk.getD r 0=(kk:Int))(d:kk<gs.length)(n:lv.getD kk 0<0) :
  Bq (gL gs) mt bk (lv.set kk (lv.getD u 0+1)) (q ++ [bk.getD r 0]) re (u:Int) (j+1)/\Ni lv<Ni (lv.set kk (lv.getD u 0+1))/\Ni (lv.set kk (lv.getD u 0+1))<=gs.length:=by
 have k:=Ov (l:=bk) (i:=r) (by rw [hM.lb];exact hrb);have e:gI bk r=(kk:Int):=k.trans g;have c:lv.length=gs.length:=by rw [h.ln,Yc]
 have m:=Ov (l:=lv) (i:=u) (by rw [c];exact hu);have b:=Znp (by rw [Yc];exact hu) (by rw [Ma];exact hj) (by rw [Ma];exact hr) (λs=>by
  by_cases hs:s<R
  .have:=(hM.b1 s hs).2;omega
  .rw [gI_ge (by rw [hM.lb];omega)];omega) (λa s o f=>by
  by_cases hs:s<R
  .exact hM.bm a s o hs f
  .rw [gI_ge (by rw [hM.lb];omega)]at f;omega) h O (by rw [e,show((kk:Int)).toNat=kk by omega,Ov (by rw [c];exact d)];exact n)
 rw [e,show((kk:Int)).toNat=kk by omega,m,<-g]at b;exact⟨b.1,b.2,by have:=Af (lv.set kk (lv.getD u 0+1));rw [aS]at this;omega⟩
end
theorem bq_lo{gs:List LT}{mt bk lv q:List Int}{re:Bool}{i:Int}{m u:Nat}(h:Bq (gL gs) mt bk lv q re i m)(hu:u<gs.length):-1<=lv.getD u 0/\lv.getD u 0<gs.length:=by have b:=h.lo u (by rw [Yc];exact hu);have a:=h.ln;rw [Yc]at a;have c:=Af lv;rw [Ov (by rw [a];exact hu)]at b;omega
end Go.Sky
namespace Go.Sky
open Go.Proofs.Try
open Go.Proofs
set_option synthInstance.maxHeartbeats 0
set_option synthInstance.maxSize 100000
set_option maxRecDepth 20000
set_option linter.unusedSimpArgs false
def Zg3(b:Nat)(Y:SL)(m k l:Value)(c:List LT)(R:Nat)(mt n lv:List Int)(hG:Gv c R)(M:Mt (gL c) R mt n)(hl:lv.length=c.length):Zhp prog 45 #[.pointer (some ⟨b,0,none⟩)] [Nd 1 (Qe (α:=List Int)) qL (Qu Y) c] (pj (box b 77 #[Qu Y,.int .i64 (R:Int),m,k,l]) (pj (Yu 1 3 Zo m mt) (pj (Yu 1 3 Zo k n) (Yu 1 3 Zo l lv)))) (G:=Bool×List Int) (λg=>Lv (gL c) R mt n g.2 g.1) (λg=> .bool g.1) (λg=>pj (box b 77 #[Qu Y,.int .i64 (R:Int),m,k,l]) (pj (Yu 1 3 Zo m mt) (pj (Yu 1 3 Zo k n) (Yu 1 3 Zo l g.2)))):=by
 refine Zgg func45 J ntmps45 J K1 ?_;intro w0 sc p a4;have p:=Hw.mk p;simp only [Pu,Qi];have b1:mt.length=c.length:=M.lm.trans (Yc c);have b0:n.length=R:=M.lb;have a8:=hG.ln;have a5:=hG.n2;refine Yg (Xt 1 61 J J J)<|Yg (Xt 61 62 J J J)<|Yg (Xt 62 63 J J J)<|Yg (env':=[(0,_)]) (H':=[(1,_),(61,_),(62,_),(63,_),(0,_),(2,_)]) (λa w hs=>hs.weaken ⟨J,aB⟩ ⟨J,J,J,J,J,J,aB⟩)<|go 22<|Yg (Ka 70 1 3 Zo)<|Yg (s_toq 70 J J J p.h) ?_;refine lp (G:=Nat×Value×List Int×List Int) [0,14,15] [0,1,2,61,62] (λq=>[(16,.int .i64 (q.1:Int)),(3,q.2.1)]) (λq=>[(70,qup 3 q.2.1 q.2.2.1),(63,Yu 1 3 Zo l q.2.2.2)]) (λq=>(q.1<=c.length)/\(L1 mt q.2.2.2 q.2.2.1 c.length q.1)) (λq=>c.length-q.1) (0,_,[],lv) ⟨O1,l1_0 hl⟩ K2 K2 ?_;rintro⟨i,vq,q,la⟩ ⟨hi,z⟩;dsimp only at hi z;dsimp only;refine go 6<|Zy J (λa0=>?_) (λa0=>?_)
 .have P:i<c.length:=O;have f:i<mt.length:=O;have a9:=z.ln;refine go 7 ?_;refine dt (Zm 61 i J J J J (Ze pZ) Zu Qz J f)<|go 12 ⟨f,?_⟩;refine dt (Zm 63 i J J J J (Ze pZ) Zu Qz J O)<|tt (Nl 63 (enc:=Zo) J J J J J J pZ J p.h) λ_ _=>go 8 ?_;refine Zy J (λD=>?_) (λD=>?_)
  .have hc:=D;refine go 7 ?_;refine dt (Zm 63 i J J J J (Ze pZ) Zu Qz J (by rw [aS];omega))<|tt (Nl 63 (enc:=Zo) J J J J J J pZ J p.h O3 (by rw [aS];omega)) λ_ _=>go 5 ?_;refine tt (Od [(0,_)] 3 (enc:=Zo) [_] J J K2 Zu ti3 J J J J J pZ.cells J J p.h) (λv _=>?_);refine tt (Zhy 70 3 (i:Int) J J J J J J O3 J (Ze pZ) Zu ti3 J J J J (by have:=z.ql;omega) J p.h) (λqv _=>?_);refine go 8 ⟨O,?_⟩;exact Yr (i+1,_,q ++ [(i:Int)],(la.set i (-1)).set i 0) ⟨O1,(Zmn z P (by rw [Ov f];exact hc))⟩ O1 K2 K2
  .have hc:=D;refine go 7 ⟨O,?_⟩;exact Yr (i+1,_,q,la.set i (-1)) ⟨O1,(l1_no z P (by rw [Ov f];exact hc))⟩ O1 K2 K2
 .obtain rfl:i=c.length:=O;refine go 12 ?_;refine lp (G:=Value×List Int×List Int×Bool) [0] [0,1,2,61,62] (λq=>[(3,q.1),(6,.bool q.2.2.2)]) (λq=>[(70,qup 3 q.1 q.2.1),(63,Yu 1 3 Zo l q.2.2.1)]) (λq=>(Bq (gL c) mt n q.2.2.1 q.2.1 q.2.2.2 (-1) 0)/\(2*(c.length-Ni q.2.2.1)+q.2.1.length<=3*c.length)) (λq=>2*(c.length-Ni q.2.2.1)+q.2.1.length) (_,q,la,false) ⟨(bq_0 (by rw [Yc];exact z)),(by have:=z.ql;dsimp only;omega)⟩ ⟨J,J,aB⟩ ⟨J,J,aB⟩ ?_;rintro⟨b5,q2,lb,re⟩ ⟨Z,t⟩;dsimp only at Z t;dsimp only;refine go 4 ?_;refine dt (Zj6 J J (i:=70) J Zbh Zu)<|go 3 ?_;refine Zy J (λa1=>?_) (λa1=>?_)
  .obtain⟨x,q4,rfl⟩:∃x r,q2=x::r:=List.exists_cons_of_length_pos O;have hp:=bq_pop Z;obtain⟨u,rfl⟩:∃u:Nat,x=(u:Int):=⟨x.toNat,by have:=hp.2.1;omega⟩;have e:u<c.length:=by have:=hp.2.2;rw [Yc]at this;omega
   refine go 6 ?_;refine dt (Zm 70 0 J J J J Zbh Zu Qz J O6)<|dt (Xa ( .int .i64 (u:Int)) (Xk 70 0 J J J Zbh pZ O6) J)<|go 6 ?_;refine dt (d_suf (ii:=70) (i:=1) J J J J Zbh Zu Qz J O6)<|go 4 ?_;refine Yg (s_qpop 70 J J J p.h)<|Yg (Nv 2 71 J J (Ym u (d:=Yt) e))<|Yy (Pr (i:=71) J Zn) λb3=>go 7 ?_;refine dt (Zm 2 u J J J J Yl Mp Ge J e)<|dt (Xk 2 Yt J J J Yl pS e)<|go 5 ?_;refine lp (G:=Nat×Value×List Int×List Int×Bool) [0,7,55,56] [0,1,2,61,62,71] (λq=>[(57,.int .i64 (q.1:Int)),(3,q.2.1),(6,.bool q.2.2.2.2)]) (λq=>[(70,qup 3 q.2.1 q.2.2.1),(63,Yu 1 3 Zo l q.2.2.2.1)]) (λq=>(q.1<=(c.getD u Yt).2.length)/\(Bq (gL c) mt n q.2.2.2.1 q.2.2.1 q.2.2.2.2 (u:Int) q.1)/\(2*(c.length-Ni q.2.2.2.1)+q.2.2.1.length<2*(c.length-Ni lb)+((u:Int)::q4).length)) (λq=>(c.getD u Yt).2.length-q.1) (0,_,q4,lb,re) ⟨O1,hp.1,O6⟩ K3 K2 ?_;rintro⟨j,b6,W,S,I⟩ ⟨hj,B,o⟩;dsimp only at hj B o;dsimp only;have a3:=B.ln;rw [Yc]at a3;refine go 6<|Zy J (λa2=>?_) (λa2=>?_)
   .have h:j<(c.getD u Yt).2.length:=O;obtain⟨r,V,y⟩:=hG.edge e h;have a7:=bk_in M y;have b2:=bq_lo B e;refine go 6 ?_;refine dt (Zm 71 j J J J J Zn Zu Qz J h)<|go 11 ⟨h,?_⟩;refine dt (Zm 62 r J J J J (Ze pZ) Zu Qz V O)<|go 12 ⟨O,?_⟩;refine Zy J (λN=>?_) (λN=>?_)
    .refine go 10 ⟨O,?_⟩;exact Yr (j+1,_,W,S,true) ⟨O1,Zko M e h V y B N,O1⟩ O1 K3 K2
    .obtain⟨kk,s⟩:∃kk:Nat,n.getD r 0=(kk:Int):=⟨(n.getD r 0).toNat,O⟩;have Q:kk<c.length:=O;refine go 7 ?_;refine dt (Zm 63 kk J J J J (Ze pZ) Zu Qz s O)<|go 5 ⟨O,?_⟩;refine Zy J (λF=>?_) (λF=>?_)
     .refine go 1<|Da (λ_=>False) [(0,0),(1,0),(2,0),(3,0),(4,0),(5,0),(6,0),(7,0),(8,0),(9,0),(10,0),(11,0),(12,0),(13,0),(14,3)]<|go 10 ?_;refine Kx J J (Hy (Zm 63 u J J J J (Ze pZ) Zu Qz J O))<|go 2 ⟨O,O,?_⟩;refine Kx J J (Hy (Zm 63 kk J J J J (Ze pZ) Zu Qz s O))<|r3' J (Nl 63 (enc:=Zo) J J J J J J pZ J p.h) λ_ _=>go 5 ?_;refine tt (Od [(0,_)] 4 (enc:=Zo) [_] J J K2 Zu ti3 J J J J J pZ.cells J J p.h) (λb4 _=>?_);refine tt (Zhy 70 4 (n.getD r 0) J J J J J J O3 J (Ze pZ) Zu ti3 J J J J (by simp only [bF]at t o;omega) J p.h) (λa6 _=>?_);refine go 9 ⟨O,?_⟩;have H:=Zkn M e h V y B s Q F;exact Yr (j+1,_,W ++ [n.getD r 0],S.set kk (S.getD u 0+1),I) ⟨O1,H.1,(by have:=H.2.1;have:=H.2.2;rw [aJ];simp only [bF,cZ]at o ⊢;omega)⟩ O1 K3 K2
     .refine go 8 ⟨O,?_⟩;exact Yr (j+1,_,W,S,I) ⟨O1,Zkm M e h V y B s Q F,O1⟩ O1 K3 K2
   .refine go 5 ?_;exact Yr (_,W,S,I) ⟨(Znr B (by rw [Ma];omega)),(by simp only [bF]at t o;dsimp only;omega)⟩ (by simp only [bF]at t o ⊢;omega) K2 K2
  .obtain rfl:q2=[]:=aE O;refine go 12<|Xr (Xi 62 63 J J J J J J J)<|Xr (Xi 61 62 J J J J J J J)<|Xr (Xi 1 61 J J J J J J J)<|Xr (env':=[(0,_),(3,_),(6,_),(40,_),(41,_),(42,_),(99,_),(2,_)]) (H':=[(1,_),(0,_),(70,_),(2,_)]) (λa w hs=>hs.weaken ⟨J,J,J,J,J,J,J,J,aB⟩ ⟨J,J,J,J,aB⟩) ?_;exact Za0 (.inl J) a4 (re,lb) (λa w hs=>Zct hs results45 J) J (bq_end Z) 1 J J J J (Xu 2 J J J Xj)
def LvR(a:List LT)(b:List Int):Prop:=∀k,k<a.length->-1<=gI b k/\gI b k<(a.length:Int)
def LvR.vs{a:List LT}{c b:List Int}(h:LvR a c)(f:Vs c b):LvR a b:=λk d=>by have:=h k d;rcases f.2 k with e|e<;>omega
def vs_cnt{a c:List Int}{i:Nat}(b:Vs a c)(hi:i<a.length)(d:0<=gI a i)(f:gI c i=-1):Ni c<Ni a:=
 (Eb b.1 (λk g h=>by rcases b.2 k with e|e<;>omega)).2 i (by rw [b.1];exact hi) O d
def Fr(b:List LT)(mt c a:List Int)(i:Nat):Prop:=∀k,k<b.length->k≠i->gI mt k<0->gI a k=gI c k
def ALp(a:List LT)(mt d c b:List Int)(i j:Nat):Prop:=AL (gL a) d c b i j/\Fr a mt c b i
def AgP(b:List LT)(R:Nat)(mt a c:List Int)(i:Nat)(g:Bool×List Int×List Int×List Int):Prop:=
 (g.1=false->mt=g.2.1/\a=g.2.2.1/\AF (gL b) a c g.2.2.2 i)/\(g.1=true->AT (gL b) R mt a c g.2.1 g.2.2.1 g.2.2.2 i)/\Fr b mt c g.2.2.2 i
section
variable {gs:List LT} {R:Nat} {mt bk lv lc ld mt2 bk2:List Int} {i j r kk:Nat}
def Zgp(h:ALp gs mt bk lv lc i j)(a:lv.length=gs.length):lc.length=gs.length:=h.1.v.1.trans a
section
variable (hM:Mt (gL gs) R mt bk) (hi:i<gs.length) (hl:lv.length=gs.length) (hj:j<(gs.getD i Yt).2.length) (hr:(gs.getD i Yt).2.getD j 0=(r:Int)) (hrb:r<R)
include hM hi hl hj hr hrb
theorem Zku(h:ALp gs mt bk lv lc i j)(d:LvR gs lv)(f:bk.getD r 0=(kk:Int))(a:kk<gs.length)(b:¬lc.getD kk 0=lv.getD i 0+1):ALp gs mt bk lv lc i (j+1):=by have e:gI bk r=(kk:Int):=(Ov (by rw [hM.lb];exact hrb)).trans f;have c:=Zgp h hl;refine⟨Zn1 h.1 (by rw [Ma];exact hj) (by rw [Ma];exact hr) O ?_ (d i hi).1,h.2⟩;rw [e,show((kk:Int)).toNat=kk by omega,Ov (by rw [c];exact a),Ov (l:=lv) (by rw [hl];exact hi)];exact b
theorem bk_mt(b:bk.getD r 0=(kk:Int))(a:kk<gs.length):gI mt kk=(r:Int):=hM.bm kk r (by rw [Yc];exact a) hrb ((Ov (by rw [hM.lb];exact hrb)).trans b)
theorem fr_tr(h:bk.getD r 0=(kk:Int))(d:kk<gs.length)(f:Fr gs mt lv lc i)(g:Fr gs mt lc ld kk):Fr gs mt lv ld i:=λk a b c=>by
 have l:=bk_mt hM hi hl hj hr hrb h d;have:k≠kk:=λe=>by subst e;omega
 rw [g k a this c,f k a b c]
theorem Zkv(h:ALp gs mt bk lv lc i j)(b:bk.getD r 0=(kk:Int))(a:kk<gs.length)(c:0<=gI lc kk)(e:AF (gL gs) bk lc ld kk)(d:Fr gs mt lc ld kk):ALp gs mt bk lv ld i (j+1):=
 ⟨Zn2 h.1 (by rw [Ma];exact hj) (by rw [Ma];exact hr) ((Ov (by rw [hM.lb];exact hrb)).trans b) (by rw [Yc];exact a) c e,fr_tr hM hi hl hj hr hrb b a h.2 d⟩
theorem Zdh:(r:Int)∈(gL gs).getD i []:=by rw [Ma,<-hr];exact Ym _ hj
theorem Zkx(b:Gv gs R)(h:ALp gs mt bk lv lc i j)(a:bk.getD r 0<0):AgP gs R mt bk lv i (true,mt.set i (r:Int),bk.set r (i:Int),lc):=
 ⟨λh=>(by cases h),λ_=>Znx b.gr hM (by rw [Yc];exact hi) (Zdh hM hi hl hj hr hrb) (by rw [Ov (by rw [hM.lb];exact hrb)];exact a) h.1.v,h.2⟩
theorem Zn3(f:Gv gs R)(h:ALp gs mt bk lv lc i j)(b:bk.getD r 0=(kk:Int))(a:kk<gs.length)(c:0<=gI lc kk)(g:AT (gL gs) R mt bk lc mt2 bk2 ld kk)(d:Fr gs mt lc ld kk):AgP gs R mt bk lv i (true,mt2.set i (r:Int),bk2.set r (i:Int),ld):=
 ⟨λh=>(by cases h),λ_=>at_rec f.gr hM (by rw [Yc];exact hi) (Zdh hM hi hl hj hr hrb) ((Ov (by rw [hM.lb];exact hrb)).trans b) (by rw [Yc];exact a) (λe=>by subst e;have:=h.1.a;omega) h.1.v h.1.a c g,fr_tr hM hi hl hj hr hrb b a h.2 d⟩
end
theorem agp_no(h:ALp gs mt bk lv lc i j)(hj:(gs.getD i Yt).2.length<=j):AgP gs R mt bk lv i (false,mt,bk,lc):=
 ⟨λ_=>⟨rfl,rfl,al_end h.1 (by rw [Ma];exact hj)⟩,λh=>(by cases h),h.2⟩
theorem al_z(hl:lv.length=gs.length)(hi:i<gs.length):ALp gs mt bk lv (lv.set i (-1)) i 0:=⟨al_0 (by rw [hl];exact hi),λk b a _=>by rw [Qy _ _ _ _ (by rw [hl];exact hi),aG a]⟩
theorem agp_kk(hl:lc.length=gs.length)(a:kk<gs.length)(c:0<=gI lv i)(b:lv.length=gs.length)(hi:i<gs.length)(h:lc.getD kk 0=lv.getD i 0+1):0<=gI lc kk:=by rw [Ov (by rw [hl];exact a),h];rw [Ov (by rw [b];exact hi)]at c;omega
end
end Go.Sky
namespace Go.Sky
open Go.RowKit Below
variable {P:Program} {N:Nat} {sc:Nat->Prop} {env env':Yd} {H H':Hp} {Q Q':Exit->Act->World->Prop} {M:Nat->Prop}
theorem Zd0 (i:Nat) {α:Type} {o:Oper} {x y:Operand} {t e:TypeId} {j k:Nat} {v u:Value} {enc:α->Value} {xs:List α} (z:α) {Z:World} {M0:Nat->Prop} (ho:o.op= .store t x y) (hd:o.dst=none)
  (hx:ev env x=some (.pointer (some (ead v j k)))) (hy:ev env y=some u) (hu:u=enc z) (V:lk H i=some (Yu k e enc v xs)) (m:Enc P t k enc) 
  (h0:lk H 0=some (keep Z M0)) (hw:∀b,Z.heap.size<=b->sc b) (hM:∀b,(Yu k e enc v xs).fp b->M b) (R:i≠0:=by decide) (r:j<xs.length:=by omega) :
  T P N sc M o env H (G:=Unit) (λ_=>True) (λ_=>env) (λ_=>(i,Yu k e enc v (xs.set j z))::H):=λa w hs K Q hK=>by
 subst hu;have B:w.ownsRow 0 e k v xs.length (cellsOf enc xs):=hs.hold i _ V;have Y:=m.pos;rcases B.2 with⟨rfl,hn⟩|⟨g,h,f,rfl,hb,W,s,I,p,n⟩
 .omega
 .have a1:j*k+k<=xs.length*k:=by rw [<-kX];exact bI k r
  have a0:xs.length*k<=h*k:=bI k s;have c:(enc z).cells.toList.length=k:=by simp [m.cells]
  have D:=run_storeCells_at P g (j*k) e (enc z).cells.toList 0 f w W (by rw [c,p];omega) (m.one z);simp only [gE,c]at D;have hr:(execOp a.eval o).run P w= .ok .skip (w.setRow g (f.toList.take (j*k) ++ (enc z).cells.toList ++ f.toList.drop (j*k+k)).toArray):=by simp [execOp,ho,hs.ev hx,hs.ev hy,Instr.storeAt,Instr.sureAddr,storeVar,m.cells,m.size,ead,Xw,D]
  unfold Oper.wp;rw [hr];show K (a.put o.dst _) _;rw [hd];refine hK () _ _ aB ((hs.upd V rfl R (q:=Yu k e enc (.slice (some ⟨g,0,none⟩) xs.length h) (xs.set j z)) (Xs (M:=λk=>(Value.slice (some ⟨g,0,none⟩) xs.length h).ownBlock=some k) rfl) ?_ (λk hk=> .inl hk) h0 hw).put_none undef) (Xs (M:=M) (hM g rfl));have d:f.toList.length=h*k:=by rw [bN,p]
  refine⟨by rw [Zz m.cells],.inr ⟨g,h,_,O6,hb,setRow_heap w g f _ e _ W,by simpa using s,I,?_,?_⟩⟩
  .simp only [eN,aJ,aI,dS,c,d];omega
  .rw [Hf m.cells xs j z r,<-n];simp only [aS];apply eK;intro q;have l:(f.toList.take (j*k)).length=j*k:=by rw [aI,d];omega
   by_cases F:q<j*k
   .rw [aX,aK O];rw [cM,aV (by rw [l];exact F),cM,aV (by rw [aI,aI,d];omega)];rw [aX,aX,aX,aK F,aK F,aK O]
   .by_cases h2:q<j*k+k
    .rw [aX,aK O];rw [cM,aR (by rw [l];omega),l,aV (by rw [c];omega)];rw [cM,aR (by rw [aI,aI,d];omega)];rw [aV (by rw [c,aI,aI,d];omega)];congr 1;rw [aI,aI,d];omega
    .by_cases S:q<xs.length*k
     .rw [aX,aK S];rw [aR (by rw [aJ,l,c];omega),aJ,l,c,eH];rw [aR (by rw [aJ,aI,aI,d,c];omega),eH,aX];rw [aJ,aI,aI,d,c,aK O];congr 1;omega
     .rw [aX,aG S];rw [bL];simp only [aJ,aI,dS,c,d];omega
theorem Zat (i:Nat) {o:Oper} {x y:Operand} {t e:TypeId} {v:Value} {k m:Nat} {s:IntKind} {j:Int} (l:o.op= .indexAddr t x y) (q:ev env x=some v) (r:ev env y=some (.int s j)) (p:OwV v m)
  (n:P.underlying t=some (.slice e)) (f:∀w,(sizeOf e).run P w= .ok k w) (b:j=(i:Int)) (d:i<m:=by omega):Pv P N sc o env H (.pointer (some (ead v i k))):=λa w hs=>by
 obtain⟨g,c,rfl,h⟩:=p;subst b;simp [execOp,l,hs.ev q,hs.ev r,Instr.indexAt,asIntOf,run_underlying n,f,d,ead]
end Go.Sky
namespace Go.Sky
open Go.Proofs
abbrev srP (b:Nat) (c:SL) (R:Nat) (m k l:Value) (mt a d:List Int):Pc:=pj (box b 77 #[Qu c,.int .i64 (R:Int),m,k,l]) (pj (Yu 1 3 Zo m mt) (pj (Yu 1 3 Zo k a) (Yu 1 3 Zo l d)))
def AugC(b:Nat)(f:SL)(m k l:Value)(a:List LT)(R d:Nat):Prop:=∀(mt e c:List Int) (i:Nat),Mt (gL a) R mt e->c.length=a.length->LvR a c->i<a.length->0<=gI c i->Ni c<=d->
 Zhp Try.prog 46 #[.pointer (some ⟨b,0,none⟩),.int .i64 (i:Int)] [Nd 1 (Qe (α:=List Int)) qL (Qu f) a] (srP b f R m k l mt e c) (G:=Bool×List Int×List Int×List Int) (λg=>AgP a R mt e c i g) (λg=> .bool g.1) (λg=>srP b f R m k l g.2.1 g.2.2.1 g.2.2.2)
open Go.Proofs.Try
set_option synthInstance.maxHeartbeats 0
set_option synthInstance.maxSize 100000
set_option maxRecDepth 20000
set_option linter.unusedSimpArgs false
def ms_aug(b:Nat)(W:SL)(m k l:Value)(c:List LT)(R d:Nat)(P:Gv c R)(hA:AugC b W m k l c R d)(mt s v:List Int)(i:Nat)(x:Mt (gL c) R mt s)(F:v.length=c.length)(hR:LvR c v)(hi:i<c.length)(h0:0<=gI v i)(hd:Ni v<=d+1):Zhp prog 46 #[.pointer (some ⟨b,0,none⟩),.int .i64 (i:Int)] [Nd 1 (Qe (α:=List Int)) qL (Qu W) c] (srP b W R m k l mt s v) (G:=Bool×List Int×List Int×List Int) (λg=>AgP c R mt s v i g) (λg=> .bool g.1) (λg=>srP b W R m k l g.2.1 g.2.2.1 g.2.2.2):=by
 refine Zgg func46 J ntmps46 J K1 ?_;intro w0 sc y H;have y:=Hw.mk y;simp only [Pu,Qi];have a7:mt.length=c.length:=x.lm.trans (Yc c);have a6:s.length=R:=x.lb;have a3:=P.ln;have a0:=P.n2;have a5:=hR i hi;have a4:=Ov (l:=v) (i:=i) O;refine Yg (Xt 1 61 J J J)<|Yg (Xt 61 62 J J J)<|Yg (Xt 62 63 J J J)<|Yg (env':=[(0,_),(1,_)]) (H':=[(1,_),(61,_),(62,_),(63,_),(0,_),(2,_)]) (λa w hs=>hs.weaken ⟨J,J,aB⟩ ⟨J,J,J,J,J,J,aB⟩)<|go 12 ?_;refine dt (Zm 63 i J J J J (Ze pZ) Zu Qz J O)<|go 11 ⟨O,?_⟩;refine dt (Zm 63 i J J J J (Ze pZ) Zu Qz J O)<|tt (Nl 63 (enc:=Zo) J J J J J J pZ J y.h) λ_ _=>go 4 ?_;refine Yg (Nv 2 71 J J (Ym i (d:=Yt) hi))<|Yy (Pr (i:=71) J Zn) λa9=>go 7 ?_;refine dt (Zm 2 i J J J J Yl Mp Ge J hi)<|dt (Xk 2 Yt J J J Yl pS hi)<|go 5 ?_;refine lp (G:=Nat×List Int) [0,1,5,29,30] [0,1,2,61,62,71] (λq=>[(31,.int .i64 (q.1:Int))]) (λq=>[(63,Yu 1 3 Zo l q.2)]) (λq=>(q.1<=(c.getD i Yt).2.length)/\(ALp c mt s v q.2 i q.1)) (λq=>(c.getD i Yt).2.length-q.1) (0,v.set i (-1)) ⟨O1,al_z F hi⟩ K1 K1 ?_;rintro⟨j,Y⟩ ⟨hj,t⟩;dsimp only at hj t;dsimp only;have Q:=Zgp t F;refine go 6<|Zy J (λZ=>?_) (λZ=>?_)
 .have e:j<(c.getD i Yt).2.length:=O;obtain⟨r,S,p⟩:=P.edge hi e;have a2:=bk_in x p;refine go 6 ?_;refine dt (Zm 71 j J J J J Zn Zu Qz J e)<|dt (Xa ( .int .i64 (r:Int)) (Xk 71 0 J J J Zn pZ e) (aU (Value.int .i64) S))<|go 10 ?_;refine dt (Zm 62 r J J J J (Ze pZ) Zu Qz J O)<|go 9 ⟨O,?_⟩;refine Lq 44 J (λV=>?_) (λV=>?_)
  .refine go 20 ?_;refine Yy (Aa 61 J O) (λI=>?_);refine Yy (Aa 62 J O) (λM=>?_);refine Fx [1] [15]<|Ic 0 [(0,0),(1,0),(2,0),(3,0),(4,0),(5,0),(6,0),(7,0),(8,0),(9,0),(10,0),(11,0),(12,0),(13,1),(14,0),(15,3)]<|go 12 ?_;refine Kx J J (stf (Zat i J J J I Zu Qz J) K1)<|r1' J (Zd1 61 J J J K1 (λf=>Zd0 61 (enc:=Zo) _ J J J J J J pZ J y.h f)) (λ_ _=>?_);refine Kx J J (stf (Zat r J J J M Zu Qz J) K1)<|r3' J (Nl 62 (enc:=Zo) J J J J J J pZ J y.h) λ_ _=>go 1 ?_;refine Ie<|go 12<|Xr (Xi 62 63 J J J J J J J)<|Xr (Xi 61 62 J J J J J J J)<|Xr (Xi 1 61 J J J J J J J)<|Xr (env':=[(0,_),(1,_),(5,_),(29,_),(30,_),(31,_),(32,_),(33,_),(34,_),(7,_),(35,_),(36,_),(37,_),(38,_),(39,_),(40,_),(41,_),(8,_),(42,_),(43,_),(44,_),(45,_),(46,_),(47,_),(48,_),(49,_),(50,_),(51,_),(52,_),(53,_),(54,_),(55,_),(56,_),(57,_),(58,_),(59,_),(60,_),(61,_),(62,_),(63,_),(64,_),(65,_),(66,_),(67,_),(68,_),(69,_),(70,_),(71,_),(72,_),(73,_),(74,_),(4,_)]) (H':=[(1,_),(0,_),(2,_),(71,_)]) (λa w hs=>hs.weaken ⟨J,J,J,J,J,J,J,J,J,J,J,J,J,J,J,J,J,J,J,J,J,J,J,J,J,J,J,J,J,J,J,J,J,J,J,J,J,J,J,J,J,J,J,J,J,J,J,J,J,J,J,J,aB⟩ ⟨J,J,J,J,aB⟩) ?_;exact Za0 (.inl J) H (true,mt.set i (r:Int),s.set r (i:Int),Y) (λa w hs=>Zct hs results46 J) J (Zkx x hi F e S p P t V) 1 J J J J (Xu 2 J J J Xj)
  .obtain⟨kk,n⟩:∃kk:Nat,s.getD r 0=(kk:Int):=⟨(s.getD r 0).toNat,O⟩;have o:kk<c.length:=O;refine go 5 ?_;refine gdt (Zm 63 kk J J J J (Ze pZ) Zu Qz n O) J J<|go 5 ⟨O,O,?_⟩;refine Lq 55 J (λh=>?_) (λh=>?_)
   .have D:=agp_kk Q o h0 F hi h;refine go 1 ?_;refine gdt (Xa ( .int .i64 (kk:Int)) (Zm7 J J) (aU (Value.int .i64) n)) J J<|Qf (Xi 62 63 J J J J J J J)<|Qf (Xi 61 62 J J J J J J J)<|Qf (Xi 1 61 J J J J J J J)<|Qf (env':=[(0,_),(1,_),(5,_),(29,_),(30,_),(31,_),(32,_),(33,_),(34,_),(7,_),(35,_),(36,_),(37,_),(38,_),(39,_),(40,_),(41,_),(8,_),(42,_),(43,_),(44,_),(45,_),(46,_),(47,_),(48,_),(49,_),(50,_),(51,_),(52,_),(53,_),(54,_),(55,_),(56,_),(57,_)]) (H':=[(1,_),(0,_),(2,_),(71,_)]) (λa w hs=>hs.weaken ⟨J,J,J,J,J,J,J,J,J,J,J,J,J,J,J,J,J,J,J,J,J,J,J,J,J,J,J,J,J,J,J,J,J,J,aB⟩ ⟨J,J,J,J,aB⟩)<|gtt (Za8 1 [] [_,_] [] (hA mt s Y kk x Q (hR.vs t.1.v) o D (by have:=vs_cnt t.1.v O h0 t.1.a;omega)) J J J J ⟨J,J,aB⟩ call46 J J O3 (Xu 2 J J J Xj) J y.h (λ_ _=>trivial)) J J J J (λ⟨gr,N,z,ld⟩ u=>?_);refine Qf (Xt 1 61 J J J)<|Qf (Xt 61 62 J J J)<|Qf (Xt 62 63 J J J)<|Qf (env':=[(0,_),(1,_),(5,_),(29,_),(30,_),(31,_),(32,_),(33,_),(34,_),(7,_),(35,_),(36,_),(37,_),(38,_),(39,_),(40,_),(41,_),(8,_),(42,_),(43,_),(44,_),(45,_),(46,_),(47,_),(48,_),(49,_),(50,_),(51,_),(52,_),(53,_),(54,_),(55,_),(56,_),(57,_),(58,_)]) (H':=[(1,_),(61,Yu 1 3 Zo m N),(62,Yu 1 3 Zo k z),(63,Yu 1 3 Zo l ld),(0,_),(2,_),(71,_)]) (λa w hs=>hs.weaken ⟨J,J,J,J,J,J,J,J,J,J,J,J,J,J,J,J,J,J,J,J,J,J,J,J,J,J,J,J,J,J,J,J,J,J,J,aB⟩ ⟨J,J,J,J,J,J,J,aB⟩)<|go 4<|Ng J (λB=>?_) (λB=>?_)
    .refine go 1 ?_;have hT:=u.2.1 B;have a8:N.length=c.length:=hT.x.lm.trans (Yc c);have a1:z.length=R:=hT.x.lb;refine Yy (Aa 61 J O) (λI=>?_);refine Yy (Aa 62 J O) (λM=>?_);refine Fx [1] [15]<|Ic 0 [(0,0),(1,0),(2,0),(3,0),(4,0),(5,0),(6,0),(7,0),(8,0),(9,0),(10,0),(11,0),(12,0),(13,1),(14,0),(15,3)]<|go 12 ?_;refine Kx J J (stf (Zat i J J J I Zu Qz J) K1)<|r1' J (Zd1 61 J J J K1 (λf=>Zd0 61 (enc:=Zo) _ J J J J J J pZ J y.h f)) (λ_ _=>?_);refine Kx J J (stf (Zat r J J J M Zu Qz J) K1)<|r3' J (Nl 62 (enc:=Zo) J J J J J J pZ J y.h) λ_ _=>go 1 ?_;refine Ie<|go 12<|Xr (Xi 62 63 J J J J J J J)<|Xr (Xi 61 62 J J J J J J J)<|Xr (Xi 1 61 J J J J J J J)<|Xr (env':=[(0,_),(1,_),(5,_),(29,_),(30,_),(31,_),(32,_),(33,_),(34,_),(7,_),(35,_),(36,_),(37,_),(38,_),(39,_),(40,_),(41,_),(8,_),(42,_),(43,_),(44,_),(45,_),(46,_),(47,_),(48,_),(49,_),(50,_),(51,_),(52,_),(53,_),(54,_),(55,_),(56,_),(57,_),(58,_),(59,_),(60,_),(61,_),(62,_),(63,_),(64,_),(65,_),(66,_),(67,_),(68,_),(69,_),(70,_),(71,_),(72,_),(73,_),(74,_),(4,_)]) (H':=[(1,_),(0,_),(2,_),(71,_)]) (λa w hs=>hs.weaken ⟨J,J,J,J,J,J,J,J,J,J,J,J,J,J,J,J,J,J,J,J,J,J,J,J,J,J,J,J,J,J,J,J,J,J,J,J,J,J,J,J,J,J,J,J,J,J,J,J,J,J,J,J,aB⟩ ⟨J,J,J,J,aB⟩) ?_;exact Za0 (.inl J) H (true,N.set i (r:Int),z.set r (i:Int),ld) (λa w hs=>Zct hs results46 J) J (Zn3 x hi F e S p P t n o D hT u.2.2) 1 J J J J (Xu 2 J J J Xj)
    .obtain⟨rfl,rfl,hf⟩:=u.1 B;refine go 7 ⟨O,?_⟩;exact Yr (j+1,ld) ⟨O1,Zkv x hi F e S p t n o D hf u.2.2⟩ O1 K1 K1
   .refine go 15 ⟨O,?_⟩;exact Yr (j+1,Y) ⟨O1,Zku x hi F e S p t hR n o h⟩ O1 K1 K1
 .refine go 11<|Xr (Xi 62 63 J J J J J J J)<|Xr (Xi 61 62 J J J J J J J)<|Xr (Xi 1 61 J J J J J J J)<|Xr (env':=[(0,_),(1,_),(5,_),(29,_),(30,_),(31,_),(32,_),(4,_)]) (H':=[(1,_),(0,_),(2,_),(71,_)]) (λa w hs=>hs.weaken ⟨J,J,J,J,J,J,J,J,aB⟩ ⟨J,J,J,J,aB⟩) ?_;exact Za0 (.inl J) H (false,mt,s,Y) (λa w hs=>Zct hs results46 J) J (agp_no t O) 1 J J J J (Xu 2 J J J Xj)
structure RnI (gs:List LT) (R:Nat) (mt0 bk0 lv0 mt bk lc:List Int) (i:Nat):Prop where
 m:Mt (gL gs) R mt bk
 l:lc.length=gs.length
 r:LvR gs lc
 f:∀k,i<=k->k<gs.length->gI mt k<0->0<=gI lc k
 s:(mt=mt0/\bk=bk0/\RdN (gL gs) bk0 lv0 lc mt0 i)\/Ni mt0<Ni mt
section
variable {gs:List LT} {R:Nat} {mt0 bk0 lv0 mt bk lc mt2 bk2 ld:List Int} {i:Nat}
theorem Lv.len{b:Bool}(h:Lv (gL gs) R mt bk lc b):lc.length=gs.length/\LvR gs lc:=⟨h.ln.trans (Yc gs),λk a=>by have:=h.lo k (by rw [Yc];exact a);rwa [Yc]at this⟩
theorem rn_0(a:Mt (gL gs) R mt bk)(h:Lv (gL gs) R mt bk lc true):RnI gs R mt bk lc mt bk lc 0:=
 ⟨a,h.len.1,h.len.2,λk _ c b=>by rw [h.fr k (by rw [Yc];exact c) b];exact cL 0,.inl ⟨rfl,rfl,rdN_0⟩⟩
theorem Zls(h:RnI gs R mt0 bk0 lv0 mt bk lc i)(d:0<=gI mt i):RnI gs R mt0 bk0 lv0 mt bk lc (i+1):=
 ⟨h.m,h.l,h.r,λk a=>h.f k O,h.s.imp (λ⟨a,b,c⟩=>⟨a,b,rdN_k c (by rw [<-a];exact d)⟩) id⟩
theorem at_cnt(hi:i<gs.length)(c:gI mt i<0)(a:Mt (gL gs) R mt bk)(h:AT (gL gs) R mt bk lc mt2 bk2 ld i):Ni mt<Ni mt2:=
 (Eb (a.lm.trans h.x.lm.symm) (λk b d=>by
  have b:k<(gL gs).length:=by rw [<-a.lm];exact b
  by_cases e:k=i
  .subst e;exact h.a
  .exact(h.o k b e).2 d)).2 i (by rw [a.lm,Yc];exact hi) c h.a
theorem rn_aug{g:Bool×List Int×List Int×List Int}(hi:i<gs.length)(h:RnI gs R mt0 bk0 lv0 mt bk lc i)(n:gI mt i<0)(s:AgP gs R mt bk lc i g):RnI gs R mt0 bk0 lv0 g.2.1 g.2.2.1 g.2.2.2 (i+1):=by
 obtain⟨b,w,t,v⟩:=g;obtain⟨p,q,o⟩:=s;dsimp only at *;cases b with
 | false=>
  obtain⟨rfl,rfl,m⟩:=p rfl;refine⟨h.m,m.v.1.trans h.l,h.r.vs m.v,λk a d c=>?_,h.s.imp (λ⟨a,b,c⟩=>?_) id⟩
  .rw [o k d O c];exact h.f k O d c
  .subst a;subst b;exact⟨rfl,rfl,rdN_s c m⟩
 | true=>
  have f:=q rfl;have r:=at_cnt hi n h.m f;refine⟨f.x.mt n,f.v.1.trans h.l,h.r.vs f.v,λk a d c=>?_,.inr ?_⟩
  .have l:k≠i:=O;have j:gI mt k<0:=by refine Decidable.byContradiction λe=>?_;have:=(f.o k (by rw [Yc];exact d) l).2 O;omega
   rw [o k d l j];exact h.f k O d j
  .rcases h.s with⟨a,-,-⟩|u
   .rw [<-a];exact r
   .omega
theorem rn_end(d:Gv gs R)(e:Mt (gL gs) R mt0 bk0)(f:Lv (gL gs) R mt0 bk0 lv0 true)(h:RnI gs R mt0 bk0 lv0 mt bk lc i)(hi:gs.length<=i):Ni mt0<Ni mt:=by
 rcases h.s with⟨a,b,c⟩|h
 .exact(Zly (by rw [Yc];exact hi) d.gr e f c).elim
 .exact h
theorem Zl9{n:Nat}(h:gs.length=n):Mt (gL gs) R (List.replicate n (-1)) (List.replicate R (-1)):=by
 have e:∀(n i:Nat),gI (List.replicate n (-1)) i=-1:=λn i=>by rw [Zjk];split<;>rfl
 exact⟨by rw [bJ,Yc];exact h.symm,bJ,λk c=>by rw [e];omega,λk c=>by rw [e];omega,λa b _ _ q=>by rw [e]at q;omega,λa b _ _ q=>by rw [e]at q;omega,λk c q=>by rw [e]at q;omega⟩
end
theorem Zlq{gs:List LT}{R:Nat}{mt bk m:List Int}(g:Gv gs R)(a:Mt (gL gs) R mt bk)(l:Lv (gL gs) R mt bk m false):Ni mt=gs.length↔∃P,Pm (gL gs) R P:=by
 constructor
 .intro h;have c:=Znf (mt:=mt) (by rw [h,a.lm,Yc]);have b:mt.length=gs.length:=a.lm.trans (Yc gs);refine⟨λi=>(gI mt i).toNat,λi hi=>?_,λi j hi f e=>?_⟩
  .rw [Yc]at hi;have:=c i O;have d:=a.ed i (by rw [Yc];exact hi) this;rw [show((gI mt i).toNat:Int)=gI mt i by omega];exact d
  .rw [Yc]at hi f;have p:=c i O;have d:=c j O;have q:=(a.m1 i (by rw [Yc];exact hi)).2;have e:(gI mt i).toNat=(gI mt j).toNat:=e;have n:=a.mb i (gI mt i).toNat (by rw [Yc];exact hi) O O;have o:=a.mb j (gI mt i).toNat (by rw [Yc];exact f) O O;omega
 .rintro⟨P,k⟩;have h:=Zmd g.gr a l k;rw [Yc]at h;have b:mt.length=gs.length:=a.lm.trans (Yc gs);rw [<-b];exact Zkb λi hi=>h i O
end Go.Sky
namespace Go.Sky
open Go.Proofs
variable{listed:Array Bool}{ts:List Nat}{ops:Array Oper}
def Zgn(b:Nat)(c:SL)(m k l:Value)(a:List LT)(R:Nat)(g:Gv a R):∀d,AugC b c m k l a R d
 | 0=>λmt f p i h o j hi e n=>absurd (Zgb O e) O
 | d+1=>λmt f p i h o j hi e n=>ms_aug b c m k l a R d g (Zgn b c m k l a R g d) mt f p i h o j hi e n
def Zee(b:Nat)(e:SL)(m k l:Value)(a:List LT)(R:Nat)(mt d c:List Int)(i:Nat)(h:Gv a R)(j:Mt (gL a) R mt d)(o:c.length=a.length)(n:LvR a c)(hi:i<a.length)(f:0<=gI c i) :
  Zhp Try.prog 46 #[.pointer (some ⟨b,0,none⟩),.int .i64 (i:Int)] [Nd 1 (Qe (α:=List Int)) qL (Qu e) a] (srP b e R m k l mt d c) (G:=Bool×List Int×List Int×List Int) (λg=>AgP a R mt d c i g) (λg=> .bool g.1) (λg=>srP b e R m k l g.2.1 g.2.2.1 g.2.2.2):=
 Zgn b e m k l a R h (Ni c) mt d c i j o n hi f (aH _)
variable {P:Program} {N:Nat} {sc:Nat->Prop} {M:Nat->Prop} {env:Yd} {H:Hp} {Q:Exit->Act->World->Prop}
structure BAct (i:Nat) (A:Prop):Prop where h:A
def bq(i:Nat){A:Prop}(h:A):BAct i A:=⟨h⟩
theorem Ak {l:List Oper}  {n:Nat}  (i k:Nat) (a:(Region.noSelect l.toArray && Oj l.toArray ts [(i,k)] listed)=true)
  (h:LD P N sc M l.toArray (A P N sc M l.toArray ts Q n (Ns [(i,k)] listed)) [(i,k)] env H):A P N sc M l.toArray ts Q (n+1) listed env H:=
 Ic _ [(i,k)] h (by rw [a,Bool.true_and];show Nat.beq (1+n) (n+1)=true;rw [Nat.add_comm];exact Nat.beq_refl _)
theorem Dz    {n:Nat} (i:Nat) (c:((Region.ready .any ops listed == [i]) && !(Ox ops ts listed) && !([i]:List Nat).isEmpty)=true)
  (a:BAct i (Ax P N sc M ops ts Q n listed env H i)):A P N sc M ops ts Q (n+1) listed env H:=a_br [i] c λq b=>by
 rw [aY.1 b];exact a.h
theorem Dy    {n:Nat} (i j:Nat) (d:((Region.ready .any ops listed == [i,j]) && !(Ox ops ts listed) && !([i,j]:List Nat).isEmpty)=true)
  (b:BAct i (Ax P N sc M ops ts Q n listed env H i)) (c:BAct j (Ax P N sc M ops ts Q n listed env H j)):A P N sc M ops ts Q (n+1) listed env H:=a_br [i,j] d λq a=>by
 simp only [dA,List.not_mem_nil,or_false]at a;rcases a with rfl|rfl
 .exact b.h
 .exact c.h
theorem Zn4    {n:Nat} (i j k:Nat) (e:((Region.ready .any ops listed == [i,j,k]) && !(Ox ops ts listed) && !([i,j,k]:List Nat).isEmpty)=true)
  (b:BAct i (Ax P N sc M ops ts Q n listed env H i)) (c:BAct j (Ax P N sc M ops ts Q n listed env H j)) (d:BAct k (Ax P N sc M ops ts Q n listed env H k)):A P N sc M ops ts Q (n+1) listed env H:=a_br [i,j,k] e λq a=>by
 simp only [dA,List.not_mem_nil,or_false]at a;rcases a with rfl|rfl|rfl
 .exact b.h
 .exact c.h
 .exact d.h
end Go.Sky
namespace Go.Sky
open Go.Proofs.Try
open Go.Proofs
set_option synthInstance.maxHeartbeats 0
set_option synthInstance.maxSize 100000
set_option maxRecDepth 20000
set_option linter.unusedSimpArgs false
variable{k i:Nat}{xi:List Int}
theorem Ziz(l:SL)(b:List LT)(n:Nat)(B:Gv b n)(h1:1<=n):Cal prog 36 #[.agg #[Qu l,.int .i64 (n:Int)]] [Nd 1 (Qe (α:=List Int)) qL (Qu l) b] true (G:=Nat×Value×Value×Value×List Int×List Int×List Int) (λg=>Mt (gL b) n g.2.2.2.2.1 g.2.2.2.2.2.1/\Lv (gL b) n g.2.2.2.2.1 g.2.2.2.2.2.1 g.2.2.2.2.2.2 false) (λg=> .pointer (some ⟨g.1,0,none⟩)) (λg=>[Kc g.1 77 #[Qu l,.int .i64 (n:Int),g.2.1,g.2.2.1,g.2.2.2.1],Ou 1 Zo g.2.1 g.2.2.2.2.1,Ou 1 Zo g.2.2.2.1 g.2.2.2.2.2.2]):=by
 refine Yf func36 ntmps36 λw0 sc s P=>?_;have o:=B.ln;have W:=B.n2;refine go 2<|Lg (Iv 2) λb9 _=>go 3 ?_;refine jn (G:=Nat×Value×Value×Value) [] [0,1,2] (λq=>[(3,.pointer (some ⟨q.1,0,none⟩))]) (λq=>[(97,box q.1 77 #[Qu l,.int .i64 (n:Int),q.2.1,q.2.2.1,q.2.2.2]),(81,Yu 1 3 Zo q.2.1 (List.replicate n (-1))),(82,Yu 1 3 Zo q.2.2.1 (List.replicate n (-1))),(83,Yu 1 3 Zo q.2.2.2 (List.replicate n 0))]) (λq=>True) ?_ ?_
 .refine Fy (λ_=>False) [16]<|Ic 8 [(0,0),(2,0),(3,0),(4,0),(7,0),(8,0),(10,0),(11,0),(12,0)]<|go 10 ?_
  repeat' first|refine bq 1 ?_;refine Im rfl rfl (Od [(0,_)] 84 (enc:=Zo) [-1] rfl rfl ⟨rfl,rfl,aB⟩ Zu ti3 rfl rfl rfl rfl rfl pZ.cells rfl rfl s.h) (λv _=>?_)|refine bq 5 ?_;refine Im rfl rfl (Gy 81 (Hi (-1) b.length O O) rfl rfl rfl ⟨rfl,rfl,aB⟩ call33 (Ha 84 rfl rfl pZ Xj) rfl s.h) (λa0 _=>?_)|refine bq 6 ?_;refine Im rfl rfl (Od [(0,_)] 85 (enc:=Zo) [-1] rfl rfl ⟨rfl,rfl,aB⟩ Zu ti3 rfl rfl rfl rfl rfl pZ.cells rfl rfl s.h) (λa1 _=>?_)|refine bq 9 ?_;refine Im rfl rfl (Gy 82 (Hi (-1) n O O) rfl rfl rfl ⟨rfl,rfl,aB⟩ call33 (Ha 85 rfl rfl pZ Xj) rfl s.h) (λa2 _=>?_)|refine bq 13 ?_;refine Im rfl rfl (Ga 83 b.length 8 (enc:=Zo) 0 rfl rfl rfl rfl rfl Zu ti3 rfl pZ.cells pZ.pos rfl rfl rfl s.h) (λa3 _=>?_)|refine bq 15 ?_;refine aax (Iv 97) λR _=>?_|refine Zn4 1 6 13 O5 ?_ ?_ ?_|refine Dy 1 6 O5 ?_ ?_|refine Dz 1 O5 ?_|refine Dz 5 O5 ?_|refine Dz 9 O5 ?_|refine Dz 15 O5 ?_|refine Dy 5 6 O5 ?_ ?_|refine Dz 6 O5 ?_|refine Dy 1 13 O5 ?_ ?_|refine Dy 5 13 O5 ?_ ?_|refine Dy 9 13 O5 ?_ ?_|refine Dz 13 O5 ?_|refine Zn4 5 6 13 O5 ?_ ?_ ?_|refine Dy 6 13 O5 ?_ ?_|refine Ak 14 0 O5 ?_;refine Kx rfl rfl (Hy (Ik [(0,_),(1,_),(2,_),(3,_)] rfl ⟨rfl,rfl,rfl,rfl,rfl,rfl,rfl,rfl,aB⟩ (λa w hs=>Zkr ((Bj 81 rfl (Ze pZ)) a w hs) ((Bj 82 rfl (Ze pZ)) a w hs) ((Bj 83 rfl (Ze pZ)) a w hs)))) ?_;refine go 1 ?_|refine Ak 16 3 O5 ?_;refine go 2 ?_|refine Ie ?_ O5;exact x_j (_,_,_,_) aB ⟨rfl,aB⟩ ⟨rfl,(by rw [o];rfl),rfl,(by rw [o];rfl),aB⟩
 .rintro⟨H,u,t,j⟩ -;dsimp only;refine go 2 ?_;refine lp (G:=List Int×List Int×List Int) [3] [0,1,2] (λq=>[]) (λq=>[(97,box H 77 #[Qu l,.int .i64 (n:Int),u,t,j]),(81,Yu 1 3 Zo u q.1),(82,Yu 1 3 Zo t q.2.1),(83,Yu 1 3 Zo j q.2.2)]) (λq=>(Mt (gL b) n q.1 q.2.1)/\(q.2.2.length=b.length)) (λq=>b.length-Ni q.1) (_,_,_) ⟨Zl9 o,(by rw [bJ];omega)⟩ aB ⟨J,J,J,J,aB⟩ ?_;rintro⟨mt,I,Z⟩ ⟨y,D⟩;dsimp only at y D;dsimp only;have V:mt.length=b.length:=y.lm.trans (Yc b);refine go 4<|Qf (Xi 82 83 J J J J J J J)<|Qf (Xi 81 82 J J J J J J J)<|Qf (Xi 97 81 J J J J J J J)<|Qf (env':=[(3,_),(21,_)]) (H':=[(97,_),(0,_),(1,_),(2,_)]) (λa w hs=>hs.weaken ⟨J,J,aB⟩ ⟨J,J,J,J,aB⟩) ?_;refine tt (Za8 97 [] [_] [] (Zg3 H l u t j b n mt I Z B y D) J J J J K1 call45 J J O3 (Xu 1 J J J Xj) J s.h (λ_ _=>trivial)) (λ⟨re,e⟩ r=>?_);refine Qf (Xt 97 81 J J J)<|Qf (Xt 81 82 J J J)<|Qf (Xt 82 83 J J J)<|Qf (env':=[(3,_),(21,_),(22,_)]) (H':=[(97,_),(81,_),(82,_),(83,Yu 1 3 Zo j e),(0,_),(1,_),(2,_)]) (λa w hs=>hs.weaken ⟨J,J,J,aB⟩ ⟨J,J,J,J,J,J,J,aB⟩)<|go 2<|Ng J (λc=>?_) (λc=>?_)
  .refine go 14 ?_;refine lp (G:=Nat×List Int×List Int×List Int) [3,27] [0,97,1,2] (λq=>[(28,.int .i64 (q.1:Int))]) (λq=>[(81,Yu 1 3 Zo u q.2.1),(82,Yu 1 3 Zo t q.2.2.1),(83,Yu 1 3 Zo j q.2.2.2)]) (λq=>(q.1<=b.length)/\(RnI b n mt I e q.2.1 q.2.2.1 q.2.2.2 q.1)) (λq=>b.length-q.1) (0,mt,I,e) ⟨O1,(rn_0 y (by rw [<-c];exact r))⟩ K1 K3 ?_;rintro⟨i,h,M,Q⟩ ⟨hi,d⟩;dsimp only at hi d;dsimp only;have F:h.length=b.length:=d.m.lm.trans (Yc b);refine go 6<|Zy J (λz=>?_) (λz=>?_)
   .have p:i<b.length:=O;refine go 17 ?_;refine dt (Zm 81 i J J J J (Ze pZ) Zu Qz J O)<|go 4 ⟨O,?_⟩;refine Zy J (λf=>?_) (λf=>?_)
    .have m:gI h i<0:=by rw [Ov O];exact f
     refine go 3<|Qf (Xi 82 83 J J J J J J J)<|Qf (Xi 81 82 J J J J J J J)<|Qf (Xi 97 81 J J J J J J J)<|Qf (env':=[(3,_),(27,_),(28,_),(29,_),(30,_),(4,_),(31,_),(32,_),(33,_),(34,_),(35,_),(36,_),(37,_),(38,_),(39,_),(40,_)]) (H':=[(97,_),(0,_),(1,_),(2,_)]) (λa w hs=>hs.weaken ⟨J,J,J,J,J,J,J,J,J,J,J,J,J,J,J,J,aB⟩ ⟨J,J,J,J,aB⟩) ?_;refine tt (Za8 97 [] [_,_] [] (Zee H l u t j b n h M Q i B d.m d.l d.r p (d.f i (aH i) p m)) J J J J K2 call46 J J O3 (Xu 1 J J J Xj) J s.h (λ_ _=>trivial)) (λx N=>?_);refine Qf (Xt 97 81 J J J)<|Qf (Xt 81 82 J J J)<|Qf (Xt 82 83 J J J)<|Qf (env':=[(3,_),(27,_),(28,_),(29,_),(30,_),(4,_),(31,_),(32,_),(33,_),(34,_),(35,_),(36,_),(37,_),(38,_),(39,_),(40,_),(41,_)]) (H':=[(97,_),(81,Yu 1 3 Zo u x.2.1),(82,Yu 1 3 Zo t x.2.2.1),(83,Yu 1 3 Zo j x.2.2.2),(0,_),(1,_),(2,_)]) (λa w hs=>hs.weaken ⟨J,J,J,J,J,J,J,J,J,J,J,J,J,J,J,J,J,aB⟩ ⟨J,J,J,J,J,J,J,aB⟩)<|go 7 ⟨O,?_⟩;exact Yr (i+1,x.2.1,x.2.2.1,x.2.2.2) ⟨O1,rn_aug p d m N⟩ O1 K1 K3
    .have m:0<=gI h i:=by rw [Ov O];omega
     refine go 7 ⟨O,?_⟩;exact Yr (i+1,h,M,Q) ⟨O1,(Zls d O)⟩ O1 K1 K3
   .refine go 5 ?_;have Y:=rn_end B y (by rw [<-c];exact r) d O;have S:=Af h;have F:h.length=b.length:=d.m.lm.trans (Yc b);exact Yr (h,M,Q) ⟨d.m,d.l⟩ (by dsimp only;omega) aB K4
  .refine go 12<|Xr (Zbd 97 J J)<|Xr (Nm 81 J J pZ)<|Xr (Nm 83 J J pZ) ?_;exact Kq P (H,u,t,j,mt,I,e) results36 J ⟨y,by rw [<-c];exact r⟩ (gsm 97 (gsm 81 (gsm 83 Zh)))
theorem Zma(d:SL)(c:List LT)(n:Nat)(e:Gv c n)(j:1<=n):Cal prog 31 #[.agg #[Qu d,.int .i64 (n:Int)]] [Nd 1 (Qe (α:=List Int)) qL (Qu d) c] false (G:=Nat) (λg=>g<=n/\(g=n↔∃P,Pm (gL c) n P)) (λg=> .tuple #[.int .i64 (g:Int),.int .i64 0]) (λg=>[]):=by refine Yf func31 ntmps31 λr q p h=>?_;have b:=e.ln;refine go 2<|Lg (Iv 2) λl _=>go 8 ?_;refine cl 2 [1] (Zc3 d c n e) λ_ _=>go 9 ?_;refine cl 3 [1] (Ziz d c n e j) λf a=>go 3 ?_;refine cl 5 [4] (Zl8 f.2.2.2.2.1) λ_ _=>go 5 ?_;exact xe2 h (Ni f.2.2.2.2.1) results31 J ⟨by have o:=Af f.2.2.2.2.1;have m:=a.1.lm.trans (Yc c);omega,by rw [<-b];rw [<-b]at a;exact Zlq (by rw [b];exact e) a.1 a.2⟩ Zh
abbrev Kk (b:Bool):Value:= .bool b
def Lh(p:Int->Bool)(a:List Int)(k:Nat):List Int:=((List.range k).filter λj=>p (a.getD j 0)).map λ(j:Nat)=>(j:Int)
theorem Zd6{p:Int->Bool}{a:List Int}(h:p (a.getD k 0)=true):Lh p a (k+1)=Lh p a k ++ [(k:Int)]:=by unfold Lh;rw [gX,iG,fI];rw [show([k].filter λj=>p (a.getD j 0))=[k]from List.filter_cons_of_pos (p:=λj=>p (a.getD j 0)) h];rfl
theorem Zd7{p:Int->Bool}{a:List Int}(h:¬p (a.getD k 0)=true):Lh p a (k+1)=Lh p a k:=by unfold Lh;rw [gX,iG];rw [show([k].filter λj=>p (a.getD j 0))=[]from List.filter_cons_of_neg (p:=λj=>p (a.getD j 0)) h,List.append_nil]
theorem Zcl(p:Int->Bool)(a:List Int)(k:Nat):(Lh p a k).length<=k:=by unfold Lh;rw [cY];exact aM (jP _ _) (by rw [List.length_range];exact aH k)
theorem Zck{p:Int->Bool}{c:List Int}{x:Int} : x∈Lh p c k↔∃j:Nat,j<k/\p (c.getD j 0)=true/\x=(j:Int):=by
 unfold Lh;simp only [cQ,List.mem_filter,bR];constructor
 .rintro⟨j,⟨a,b⟩,rfl⟩;exact⟨j,a,b,rfl⟩
 .rintro⟨j,a,b,rfl⟩;exact⟨j,⟨a,b⟩,rfl⟩
def grL(p:Int->Bool)(cs:List LT):List (List Int):=cs.map λz=>Lh p z.2 z.2.length
structure GrI (p:Int->Bool) (cs zs:List LT) (i:Nat):Prop where
 e:gL zs=(grL p cs).take i
 l:zs.length=i
def gr_0{p:Int->Bool}{cs:List LT}:GrI p cs [] 0:=⟨rfl,rfl⟩
theorem gr_s{p:Int->Bool}{cs a:List LT}(h:GrI p cs a i)(hi:i<cs.length){d:SL}(c:xi=Lh p (cs.getD i Yt).2 (cs.getD i Yt).2.length):GrI p cs (a ++ [(d,xi)]) (i+1):=by
 have e:i<(grL p cs).length:=by unfold grL;rw [cY];exact hi
 refine⟨?_,by rw [aJ,h.l];rfl⟩;have b:(grL p cs)[i]? = some xi:=by unfold grL;rw [dI,c,aA,aF hi];rfl
 rw [iQ,b,<-h.e];show List.map _ _=_;rw [fI];rfl
theorem Zji{p:Int->Bool}{cs a:List LT}(h:GrI p cs a cs.length):gL a=grL p cs:=by rw [h.e,bZ (by unfold grL;rw [cY];exact aH _)]
section
variable {p:Int->Bool} {cs zs:List LT}
theorem Zek(cs:List LT)(hi:i<cs.length):(grL p cs).getD i []=Lh p (cs.getD i Yt).2 (cs.getD i Yt).2.length:=by unfold grL;rw [aA,dI,aF hi,aA,aF hi];rfl
theorem Zdc(p:Int->Bool)(a:List Int)(n:Nat):∀k,k<=n->IncT (Lh p a k) (n:Int)/\∀x∈Lh p a k,x<(k:Int)
 | 0,_=>⟨⟨λi hi=>absurd hi (aZ i),λi hi=>absurd hi (aZ _)⟩,λx b=>by cases b⟩
 | k+1,j=>by
  obtain⟨⟨e,f⟩,c⟩:=Zdc p a n k O;by_cases g:p (a.getD k 0)=true
  .rw [Zd6 g];have d:∀i,i<(Lh p a k ++ [(k:Int)]).length->(Lh p a k ++ [(k:Int)]).getD i 0=if i<(Lh p a k).length then(Lh p a k).getD i 0 else(k:Int):=λi hi=>by
    rw [aA];split
    .rename_i h;rw [aV h,aA]
    .rename_i h;rw [aJ,dO]at hi;rw [aR O,show i-(Lh p a k).length=0 by omega];rfl
   refine⟨⟨λi hi=>?_,λi hi=>?_⟩,λx b=>?_⟩
   .rw [d i hi];split
    .rename_i h;exact e i h
    .omega
   .rw [d i O,d (i+1) hi];rw [aJ,dO]at hi;rw [aK O];split
    .rename_i h;exact f i h
    .exact c _ (Ym _ O)
   .rcases bG.1 b with h|h
    .have:=c x h;omega
    .rw [aY.1 h];omega
  .rw [Zd7 g];exact⟨⟨e,f⟩,λx b=>by have:=c x b;omega⟩
theorem gr_gv(b:Cst cs)(h:gL zs=grL p cs):Gv zs cs.length:=by
 have c:zs.length=cs.length:=by have:=aU List.length h;rw [Yc]at this;rw [this];unfold grL;rw [cY]
 refine⟨c,b.n2,λi hi=>?_⟩;have a:=Ma zs i;rw [h,Zek cs O]at a;rw [<-a,b.ln i O];exact(Zdc p _ cs.length cs.length (aH _)).1
end
abbrev It (cs:List LT):List (List Int):=cs.map (·.2)
theorem Lc(cs:List LT)(r k:Nat):cC (It cs) r k=(cs.getD r Yt).2.getD k 0:=by show(gL cs |>.getD r []).getD k 0=_;rw [Ma]
theorem pm_pa{cs:List LT}{f:Int}(m:Cst cs):(∃P,Pm (grL (λx=>decide (x<=f)) cs) cs.length P)↔∃P,Pa (It cs) cs.length f P:=by
 have d:(grL (λx=>decide (x<=f)) cs).length=cs.length:=by unfold grL;rw [cY]
 constructor
 .rintro⟨P,h⟩;have n:∀i,i<cs.length->P i<cs.length/\cC (It cs) i (P i)<=f:=λi hi=>by have l:=h.e i (by rw [d];exact hi);rw [Zek cs hi,m.ln i hi]at l;obtain⟨j,a,b,c⟩:=Zck.1 l;have e:P i=j:=O;rw [e,Lc];exact⟨a,bB b⟩
  exact⟨P,λi hi=>(n i hi).1,λi j hi g e=>h.i i j (by rw [d];exact hi) (by rw [d];exact g) e,λi hi=>(n i hi).2⟩
 .rintro⟨P,h⟩;refine⟨P,λi hi=>?_,λi j hi g e=>h.i i j (by rw [<-d];exact hi) (by rw [<-d];exact g) e⟩;rw [d]at hi;rw [Zek cs hi,m.ln i hi];exact Zck.2 ⟨P i,h.lt i hi,aQ (by rw [<-Lc];exact h.c i hi),rfl⟩
end Go.Sky
namespace Go.Sky
open Go.Proofs
variable{b:Nat}{ks:List Int}{o:Oper}{w0:World}{M0:Nat->Prop}{et k:TypeId}
def pBo:Enc Try.prog 4 1 Kk:=Enc.flat Try.sizeOf4 Try.isAgg4 (λ_=>rfl)
@[reducible,instance] def encBoI:EncT Try.prog 4 1 Kk:=⟨pBo⟩
open Go.Proofs.Try
set_option synthInstance.maxHeartbeats 0
set_option synthInstance.maxSize 100000
set_option maxRecDepth 20000
set_option linter.unusedSimpArgs false
theorem Zi0(B:SL)(a:List LT)(n:Nat)(x:Gv a n)(V:1<=n):Cal prog 18 #[.agg #[Qu B,.int .i64 (n:Int)]] [Nd 1 (Qe (α:=List Int)) qL (Qu B) a] false (G:=SL×SL) (λg=>True) (λg=> .tuple #[.agg #[Qu g.1,Qu g.2],.int .i64 0]) (λg=>[]):=by
 refine Yf func18 ntmps18 λw0 sc m M=>?_;have W:=x.ln;have a1:=x.n2;refine go 2<|Lg (Iv 2) λb9 _=>Lg (Oy 3) λQ _=>go 7 ?_;refine cl 3 [1] (Zc3 B a n x) λ_ _=>go 9 ?_;refine cl 4 [1] (Ziz B a n x V) λgr F=>go 5<|Lg (Oy 7) λe _=>go 6 ?_;refine tt (Ga 8 n 1 (enc:=Kk) false J J J J J Ao ti4 J pBo.cells pBo.pos J J J m.h) λv _=>go 5 ?_;have a0:=F.2.len.1;refine go 10<|Yg (Ka 70 1 3 Zo)<|Yg (Ka 71 1 3 Zo) ?_;refine lp (G:=Nat×Value×Value×List Int×List Int×List Bool) [1,2,5,6,25,26] [0,1,2,3,4,5,6] (λq=>[(27,.int .i64 (q.1:Int))]) (λq=>[(7,box e 28 #[q.2.1,q.2.2.1]),(70,Yu 1 3 Zo q.2.1 q.2.2.2.1),(71,Yu 1 3 Zo q.2.2.1 q.2.2.2.2.1),(8,Yu 1 4 Kk v q.2.2.2.2.2)]) (λq=>(q.1<=a.length)/\(q.2.2.2.1.length<=q.1)/\(q.2.2.2.2.1=[])/\(q.2.2.2.2.2.length=n)) (λq=>a.length-q.1) (0,_,_,[],[],List.replicate n false) ⟨O1,aH 0,rfl,bJ⟩ K1 K4 ?_;rintro⟨i,vl,vr,xl,P,rb⟩ ⟨hi,hx,D,h⟩;dsimp only at hi hx D h;dsimp only;refine go 6<|Zy J (λp=>?_) (λp=>?_)
 .have c:i<a.length:=O;refine go 7 ?_;refine dt (Zm 6 i J J J J Zn Zu Qz J O)<|go 12 ⟨O,?_⟩;refine Zy J (λs=>?_) (λs=>?_)
  .refine go 5 ?_;refine tt (Od [(0,_)] 9 (enc:=Zo) [_] J J K2 Zu ti3 J J J J J pZ.cells J J m.h) (λa4 _=>?_);refine tt (Ms 70 9 8 J J J J J J O3 J (Ze pZ) Zu ti3 J pZ J J J (by simp;omega) O3 J m.h) (λa5 _=>?_);refine go 12 ⟨O,?_⟩;exact Yr (i+1,_,_,xl ++ [(i:Int)],P,rb) ⟨O1,(by rw [aJ];simp only [dO];omega),D,h⟩ O1 K1 K4
  .refine go 3<|Yg (Nv 1 72 J J (Ym i (d:=Yt) c)) ?_;refine Yy (Pr (i:=72) J Zn) λa3=>go 4 ?_;refine dt (Zm 1 i J J J J Yl Mp Ge J c)<|dt (Xk 1 Yt J J J Yl pS c)<|go 5 ?_;refine lp (G:=Nat×List Bool) [1,2,5,6,25,26,27,44,45] [0,7,70,71,1,2,3,4,5,6,72] (λq=>[(46,.int .i64 (q.1:Int))]) (λq=>[(8,Yu 1 4 Kk v q.2)]) (λq=>(q.1<=(a.getD i Yt).2.length)/\(q.2.length=n)) (λq=>(a.getD i Yt).2.length-q.1) (0,rb) ⟨O1,h⟩ K1 K1 ?_;rintro⟨j,R⟩ ⟨Y,l⟩;dsimp only at Y l;dsimp only;refine go 6<|Zy J (λt=>?_) (λt=>?_)
   .have f:j<(a.getD i Yt).2.length:=O;obtain⟨r,hr,a2⟩:=x.edge c f;refine go 6 ?_;refine dt (Zm 72 j J J J J Zn Zu Qz J f)<|go 7 ⟨f,?_⟩;refine dt (Zm 8 r J J J J (Ze pBo) Ao sizeOf4 hr O)<|tt (Nl 8 (enc:=Kk) (z:=true) J J J J J J pBo J m.h) (λ_ _=>?_);refine go 7 ⟨O,?_⟩;exact Yr (j+1,R.set r true) ⟨O1,(by rw [aS];exact l)⟩ O1 K1 K1
   .refine go 10 ⟨O,?_⟩;exact Yr (i+1,_,_,xl,P,R) ⟨O1,(by dsimp only;omega),D,l⟩ O1 K1 K4
 .obtain rfl:i=a.length:=O;refine go 14 ?_;refine lp (G:=Nat×Value×Value×List Int) [2,5,55,56] [0,8,1,2,3,4,5,6] (λq=>[(57,.int .i64 (q.1:Int))]) (λq=>[(7,box e 28 #[q.2.1,q.2.2.1]),(70,Yu 1 3 Zo q.2.1 xl),(71,Yu 1 3 Zo q.2.2.1 q.2.2.2)]) (λq=>(q.1<=rb.length)/\(q.2.2.2.length<=q.1)) (λq=>rb.length-q.1) (0,_,_,P) ⟨O1,(by rw [D];exact aH 0)⟩ K1 K3 ?_;rintro⟨k,a8,a9,S⟩ ⟨Z,N⟩;dsimp only at Z N;dsimp only;refine go 6<|Zy J (λu=>?_) (λu=>?_)
  .have y:k<rb.length:=O;refine go 7 ?_;refine dt (Zm 8 k J J J J (Ze pBo) Ao sizeOf4 J y)<|dt (Xk 8 false J J J (Ze pBo) pBo y)<|go 9 ?_;refine Ng J (λw=>?_) (λw=>?_)
   .refine go 4 ?_;refine tt (Od [(0,_)] 10 (enc:=Zo) [_] J J K2 Zu ti3 J J J J J pZ.cells J J m.h) (λa6 _=>?_);refine tt (Ms 71 10 8 J J J J J J O3 J (Ze pZ) Zu ti3 J pZ J J J (by simp;omega) O3 J m.h) (λa7 _=>?_);refine go 9 ⟨O,?_⟩;exact Yr (k+1,_,_,S ++ [(k:Int)]) ⟨O1,(by rw [aJ];simp only [dO];omega)⟩ O1 K1 K3
   .refine go 7 ⟨O,?_⟩;exact Yr (k+1,_,_,S) ⟨O1,(by dsimp only;omega)⟩ O1 K1 K3
  .refine go 13 ?_;refine Zk4 (Pd 70 J (Ze pZ)) (λs1 H=>?_);refine Zk4 (Pd 71 J (Ze pZ)) (λs2 I=>?_);subst H;subst I;exact xe2 M (s1,s2) results18 J aB Zh
theorem bn_le(e:Nat)(a c:Int):Ow prog 32 #[.int .i64 c,.pointer (some ⟨e,0,none⟩)] [Kc e 3 #[.int .i64 a]] (.bool (decide (c<=a))):=by refine Yf func32 ntmps32 λw0 g f d=>go 14 ?_;exact Kq d () results32 J aB Zh
theorem bn_lt(e:Nat)(a c:Int):Ow prog 20 #[.int .i64 c,.pointer (some ⟨e,0,none⟩)] [Kc e 3 #[.int .i64 a]] (.bool (decide (c<a))):=by refine Yf func20 ntmps20 λw0 g f d=>go 14 ?_;exact Kq d () results20 J aB Zh
theorem Zdt(v:Value)(cs:List LT)(t:Nat)(c:Int)(B:Cst cs):Cal prog 19 #[v,.func (.func 32) #[] #[.pointer (some ⟨t,0,none⟩)]] [Nd 1 (Qe (α:=List Int)) qL v cs,Kc t 3 #[.int .i64 c]] true (G:=SL×List LT) (λg=>gL g.2=grL (λx=>decide (x<=c)) cs) (λg=> .agg #[Qu g.1,.int .i64 (cs.length:Int)]) (λg=>[Nd 1 (Qe (α:=List Int)) qL (Qu g.1) g.2]):=by
 refine Yf func19 ntmps19 λw0 sc r D=>?_;have P:=B.n1;have Q:=B.n2;refine go 2<|Lg (Oy 3) λZ _=>go 6 ?_;refine dt (Ik [(1,_)] J K2 (λa w hs=>b55_1 ((Qq J) a w hs)))<|Lg (Oy 4) λn _=>go 12 ?_;refine Yg (Ka 70 1 24 (Qe (α:=List Int)))<|Yg (Mx qL 71)<|lp (G:=Nat×Value×List LT) [1,4,5,14,15] [0,1,2,3] (λq=>[(16,.int .i64 (q.1:Int))]) (λq=>[(4,box n 55 #[q.2.1,.int .i64 (cs.length:Int)]),(70,Yu 1 24 (Qe (α:=List Int)) q.2.1 q.2.2),(71,Gm qL q.2.2)]) (λq=>(q.1<=cs.length)/\(GrI (λx=>decide (x<=c)) cs q.2.2 q.1)) (λq=>cs.length-q.1) (0,_,[]) ⟨O1,gr_0⟩ K1 K3 ?_;rintro⟨i,vo,M⟩ ⟨hi,h⟩;dsimp only at hi h;dsimp only;refine go 6<|Zy J (λu=>?_) (λu=>?_)
 .have e:i<cs.length:=O;refine go 5<|Yg (Nv 1 73 J J (Ym i (d:=Yt) e))<|go 1 ?_;refine dt (Zm 1 i J J J J Yl Mp Ge J e)<|dt (Xk 1 Yt J J J Yl pS e)<|go 10 ?_;refine Yy (Pr (i:=73) J Zn) λR=>go 7 ?_;refine Yg (Ka 72 1 3 Zo)<|lp (G:=Nat×Value×List Int) [1,4,5,14,15,16,20,21] [0,4,70,71,1,2,3,73] (λq=>[(22,.int .i64 (q.1:Int)),(8,q.2.1)]) (λq=>[(72,Yu 1 3 Zo q.2.1 q.2.2)]) (λq=>(q.1<=(cs.getD i Yt).2.length)/\(q.2.2=Lh (λx=>decide (x<=c)) (cs.getD i Yt).2 q.1)) (λq=>(cs.getD i Yt).2.length-q.1) (0,_,[]) ⟨O1,rfl⟩ K2 K1 ?_;rintro⟨j,vi,s⟩ ⟨N,f⟩;dsimp only at N f;dsimp only;refine go 6<|Zy J (λy=>?_) (λy=>?_)
  .have p:j<(cs.getD i Yt).2.length:=O;refine go 7 ?_;refine dt (Zm 73 j J J J J Zn Zu Qz J p)<|go 9 ⟨p,?_⟩;refine tt (Md 4 [] [_] [_] (bn_le t c ((cs.getD i Yt).2.getD j 0)) J J J J K1 call32 (Xu 2 J J J Xj) J r.h) λ_ _=>go 2 ?_;refine Ng J (λl=>?_) (λl=>?_)
   .have m:=l;refine go 3 ?_;refine tt (Od [(0,_)] 5 (enc:=Zo) [_] J J K2 Zu ti3 J J J J J pZ.cells J J r.h) (λv _=>?_);refine tt (Ms 72 5 8 J J J J J J O3 J (Ze pZ) Zu ti3 J pZ J J J (by rw [f];have h9:=Zcl (λx=>decide (x<=c)) (cs.getD i Yt).2 j;have h8:=B.ln i e;simp only [bF,cZ];omega) O3 J r.h) (λV _=>?_);refine go 8 ⟨O,?_⟩;exact Yr (j+1,_,s ++ [(j:Int)]) ⟨O1,by rw [Zd6 m,f]⟩ O1 K2 K1
   .have m:=l;refine go 7 ⟨O,?_⟩;exact Yr (j+1,_,s) ⟨O1,(by rw [Zd7 (by rw [m];decide),f])⟩ O1 K2 K1
  .obtain rfl:j=(cs.getD i Yt).2.length:=O;refine go 5 ?_;refine Zep (Pd 72 J (Ze pZ)) (λI F=>?_);subst F;refine Yg (Nm 72 J J pZ)<|go 4 ?_;refine tt (Od [(0,_)] 6 (enc:=(Qe (α:=List Int))) [(I,s)] J J K2 Mp ti24 J J J J J pS.cells J J r.h) (λW _=>?_);refine tt (Ms 70 6 24 J J J J J J O3 J (Ze pS) Mp ti24 J pS J J J (by have:=h.l;simp only [bF,cZ];omega) O3 J r.h) (λY _=>?_);refine go 9 ⟨O,?_⟩;exact Xr (Nn (q:=qL) (z:=(I,s)) 71 72 71 J J J J J)<|Yr (i+1,_,M ++ [(I,s)]) ⟨O1,gr_s h e f⟩ O1 K1 K3
 .obtain rfl:i=cs.length:=O;refine go 12 ?_;refine Zk4 (Pd 70 J (Ze pS)) (λS H=>?_);subst H;exact Xr (Nm 70 J J pS)<|Xr (Iy 70 71 78 J J J J)<|Kq D (S,M) results19 J (Zji h) (gsm 78 Zh)
theorem Zds(v:Value)(cs:List LT)(t:Nat)(c:Int)(B:Cst cs):Cal prog 19 #[v,.func (.func 20) #[] #[.pointer (some ⟨t,0,none⟩)]] [Nd 1 (Qe (α:=List Int)) qL v cs,Kc t 3 #[.int .i64 c]] true (G:=SL×List LT) (λg=>gL g.2=grL (λx=>decide (x<c)) cs) (λg=> .agg #[Qu g.1,.int .i64 (cs.length:Int)]) (λg=>[Nd 1 (Qe (α:=List Int)) qL (Qu g.1) g.2]):=by
 refine Yf func19 ntmps19 λw0 sc r D=>?_;have P:=B.n1;have Q:=B.n2;refine go 2<|Lg (Oy 3) λZ _=>go 6 ?_;refine dt (Ik [(1,_)] J K2 (λa w hs=>b55_1 ((Qq J) a w hs)))<|Lg (Oy 4) λn _=>go 12 ?_;refine Yg (Ka 70 1 24 (Qe (α:=List Int)))<|Yg (Mx qL 71)<|lp (G:=Nat×Value×List LT) [1,4,5,14,15] [0,1,2,3] (λq=>[(16,.int .i64 (q.1:Int))]) (λq=>[(4,box n 55 #[q.2.1,.int .i64 (cs.length:Int)]),(70,Yu 1 24 (Qe (α:=List Int)) q.2.1 q.2.2),(71,Gm qL q.2.2)]) (λq=>(q.1<=cs.length)/\(GrI (λx=>decide (x<c)) cs q.2.2 q.1)) (λq=>cs.length-q.1) (0,_,[]) ⟨O1,gr_0⟩ K1 K3 ?_;rintro⟨i,vo,M⟩ ⟨hi,h⟩;dsimp only at hi h;dsimp only;refine go 6<|Zy J (λu=>?_) (λu=>?_)
 .have e:i<cs.length:=O;refine go 5<|Yg (Nv 1 73 J J (Ym i (d:=Yt) e))<|go 1 ?_;refine dt (Zm 1 i J J J J Yl Mp Ge J e)<|dt (Xk 1 Yt J J J Yl pS e)<|go 10 ?_;refine Yy (Pr (i:=73) J Zn) λR=>go 7 ?_;refine Yg (Ka 72 1 3 Zo)<|lp (G:=Nat×Value×List Int) [1,4,5,14,15,16,20,21] [0,4,70,71,1,2,3,73] (λq=>[(22,.int .i64 (q.1:Int)),(8,q.2.1)]) (λq=>[(72,Yu 1 3 Zo q.2.1 q.2.2)]) (λq=>(q.1<=(cs.getD i Yt).2.length)/\(q.2.2=Lh (λx=>decide (x<c)) (cs.getD i Yt).2 q.1)) (λq=>(cs.getD i Yt).2.length-q.1) (0,_,[]) ⟨O1,rfl⟩ K2 K1 ?_;rintro⟨j,vi,s⟩ ⟨N,f⟩;dsimp only at N f;dsimp only;refine go 6<|Zy J (λy=>?_) (λy=>?_)
  .have p:j<(cs.getD i Yt).2.length:=O;refine go 7 ?_;refine dt (Zm 73 j J J J J Zn Zu Qz J p)<|go 9 ⟨p,?_⟩;refine tt (Md 4 [] [_] [_] (bn_lt t c ((cs.getD i Yt).2.getD j 0)) J J J J K1 call20 (Xu 2 J J J Xj) J r.h) λ_ _=>go 2 ?_;refine Ng J (λl=>?_) (λl=>?_)
   .have m:=l;refine go 3 ?_;refine tt (Od [(0,_)] 5 (enc:=Zo) [_] J J K2 Zu ti3 J J J J J pZ.cells J J r.h) (λv _=>?_);refine tt (Ms 72 5 8 J J J J J J O3 J (Ze pZ) Zu ti3 J pZ J J J (by rw [f];have h9:=Zcl (λx=>decide (x<c)) (cs.getD i Yt).2 j;have h8:=B.ln i e;simp only [bF,cZ];omega) O3 J r.h) (λV _=>?_);refine go 8 ⟨O,?_⟩;exact Yr (j+1,_,s ++ [(j:Int)]) ⟨O1,by rw [Zd6 m,f]⟩ O1 K2 K1
   .have m:=l;refine go 7 ⟨O,?_⟩;exact Yr (j+1,_,s) ⟨O1,(by rw [Zd7 (by rw [m];decide),f])⟩ O1 K2 K1
  .obtain rfl:j=(cs.getD i Yt).2.length:=O;refine go 5 ?_;refine Zep (Pd 72 J (Ze pZ)) (λI F=>?_);subst F;refine Yg (Nm 72 J J pZ)<|go 4 ?_;refine tt (Od [(0,_)] 6 (enc:=(Qe (α:=List Int))) [(I,s)] J J K2 Mp ti24 J J J J J pS.cells J J r.h) (λW _=>?_);refine tt (Ms 70 6 24 J J J J J J O3 J (Ze pS) Mp ti24 J pS J J J (by have:=h.l;simp only [bF,cZ];omega) O3 J r.h) (λY _=>?_);refine go 9 ⟨O,?_⟩;exact Xr (Nn (q:=qL) (z:=(I,s)) 71 72 71 J J J J J)<|Yr (i+1,_,M ++ [(I,s)]) ⟨O1,gr_s h e f⟩ O1 K1 K3
 .obtain rfl:i=cs.length:=O;refine go 12 ?_;refine Zk4 (Pd 70 J (Ze pS)) (λS H=>?_);subst H;exact Xr (Nm 70 J J pS)<|Xr (Iy 70 71 78 J J J J)<|Kq D (S,M) results19 J (Zji h) (gsm 78 Zh)
open Go Go.MapKept Go.Maps
variable {P:Program} {N:Nat} {sc:Nat->Prop} {env env':Yd} {H H':Hp} {M:Nat->Prop}
def Br(ks:List Int)(k:Int):List Int:=if k∈ks then ks else ks ++ [k]
def msE(a:Array MapEntry)(n:Nat)(ks:List Int):Prop:=Stamped a n/\a.toList.map (λe=>(e.key,e.val))=ks.map λk=>(Value.int .i64 k,Value.bool true)
def msi(b:Nat)(ks:List Int):Pc:=
 {own:=true,fp:=λk=>k=b,holds:=λw=>∃a n,w.heap[b]? = some (.map a n)/\msE a n ks
  lt:=λw k h f=>by subst f;obtain⟨_,_,h,_⟩:=h;exact(aL.1 h).1
  stable:=λw i h e=>by obtain⟨a,n,c,d⟩:=h;exact⟨a,n,(e.block b (aL.1 c).1 (λg=>g rfl)).trans c,d⟩ }
def mri(b:Nat)(ks:List Int):Pc:={ msi b ks with own:=false }
theorem Zh8(i:Nat)(hi:lk H i=some (msi b ks))(g:Nat.beq i 0=false):∀a w,Sat N sc env H a w->Sat N sc env ((i,mri b ks)::H) a w:=λa w hs=>by
 have h:i≠0:=λe=>by subst e;cases g
 exact hs.add i (mri b ks) (show(msi b ks).holds w from hs.hold i _ hi) (λj n l m _ c d f=>hs.sep i j _ n (λe=>l e.symm) hi m rfl c d f) (λc d=>hs.scope i _ h hi c d)
instance clIM {a:Option Nat} : ClI (.map a) [.map a]:=⟨rfl⟩
instance roiS {b:Nat} {ks:List Int} : RoI (mri b ks):=⟨rfl⟩
theorem t_smk  {t:TypeId} {d i:Nat}   (j:o.op= .makeMap t none) (h:o.dst=some d) (f:Nat.blt d N=true)
  (c:lk H 0=some (keep w0 M0)) (m:∀b,w0.heap.size<=b->sc b) :
  T P N sc M o env H (G:=Nat) (λ_=>True) (λb=>(d,.map (some b))::env) (λb=>(i,msi b [])::H):=λa w hs K Q e=>by
 have l:(execOp a.eval o).run P w= .ok (.value (.map (some w.heap.size))) (w.alloc (.map #[] 0)):=by simp only [execOp,j,Sem.run_bind,Option.map_none];rfl
 unfold Oper.wp;rw [l];show K (a.put o.dst _) _;rw [h];exact e w.heap.size _ _ aB ((hs.new c m i (msi w.heap.size []) (.map #[] 0) ⟨#[],0,heap_alloc_new w _,stamped_empty 0,rfl⟩ (λb g=>g)).put d _ f) (Chg.alloc _ _ _)
theorem Zef{α β:Type}{a:Array α}{j:Nat}{e:α}{f:α->α}{g:α->β}(h:a[j]? = some e)(d:g (f e)=g e):(a.modify j f).toList.map g=a.toList.map g:=by
 apply eK;intro i;simp only [dI,Array.getElem?_toList,Array.getElem?_modify];split
 .rename_i c;subst c;rw [h];simp [d]
 .rfl
def isTru:Value->Bool
 | .bool b=>b
 | _=>false
def Zjc:∀{v:Value},isTru v=true->v= .bool true
 | .bool true,_=>rfl
theorem t_sins  {t kt:TypeId} {x y z:Operand} {i:Nat} {k:Int} {v:Value}    (ho:o.op= .mapUpdate t x y z) (hd:o.dst=none)
  (hx:ev env x=some (.map (some b))) (hy:ev env y=some (.int .i64 k)) (hz:ev env z=some v) (hv:isTru v=true) (hH:lk H i=some (msi b ks)) (W:Nat.beq i 0=false) (g:P.underlying t=some (.map kt et)) (h:P.underlying kt=some (.int .i64))
  (h0:lk H 0=some (keep w0 M0)) (hw:∀b,w0.heap.size<=b->sc b) (hM:M b) :
  T P N sc M o env H (G:=Unit) (λ_=>True) (λ_=>env) (λ_=>(i,msi b (Br ks k))::H):=λa w hs K Q hK=>by
 obtain rfl:v= .bool true:=Zjc hv;have hi:i≠0:=λe=>by subst e;cases W
 obtain⟨c,n,s,B,F⟩:∃c n,w.heap[b]? = some (.map c n)/\msE c n ks:=hs.hold i _ hH;have a2:b<w.heap.size:=(aL.1 s).1;have f:∀e∈c.toList,∃a∈ks,e.key= .int .i64 a/\e.val= .bool true:=λe g=>by have:(e.key,e.val)∈c.toList.map (λe=>(e.key,e.val)):=cQ.2 ⟨e,g,rfl⟩;rw [F]at this;obtain⟨a,S,d⟩:=cQ.1 this;cases e;simp only [kL]at d;exact⟨a,S,d.1.symm,d.2.symm⟩
 have a1:∀e∈c.toList,IsKey (.int .i64) e.key:=λe g=>by obtain⟨a,_,d,_⟩:=f e g;rw [d];exact rfl
 have hc:∀(l:Obj) (I:Nat->Prop),I b->Chg I w { w with heap:=w.heap.setIfInBounds b l }:=λl I R=>
  ⟨rfl,rfl,rfl,O6,λk h hn=>by have:b≠k:=λe=>hn (e▸R);simp [this]⟩
 have m:∀l,(∃c n,l= .map c n/\msE c n (Br ks k))->(execOp a.eval o).run P w= .ok .skip { w with heap:=w.heap.setIfInBounds b l }->Oper.wp P o a w K Q:=by rintro l ⟨a4,n',rfl,hE⟩ hr;unfold Oper.wp;rw [hr];show K (a.put o.dst _) _;rw [hd];exact hK () _ _ aB ((hs.upd hH rfl hi (q:=msi b (Br ks k)) (hc _ (λk=>k=b) rfl) ⟨_,_,by simp only [Array.getElem?_setIfInBounds,a2,kB],hE⟩ (λk h=> .inl h) h0 hw).put_none undef) (hc _ _ hM)
 rcases findNow_spec (show IsKey (.int .i64) (.int .i64 k)from rfl) c.toList 0 a1 with⟨d,p⟩|⟨j,e,d,p,r⟩
 .refine m (.map (c.push ⟨.int .i64 k,.bool true,n⟩) (n+1)) ⟨_,_,rfl,stamped_push B p,?_⟩ ?_
  .have a3:k ∉ ks:=λY=>by
    have:(Value.int .i64 k,Value.bool true)∈c.toList.map (λe=>(e.key,e.val)):=by rw [F];exact cQ.2 ⟨k,Y,rfl⟩
    obtain⟨e,g,D⟩:=cQ.1 this;simp only [kL]at D;exact p e g D.1
   unfold Br;rw [aG a3,Array.toList_push,fI,F,fI];rfl
  .simp [execOp,ho,hs.ev hx,hs.ev hy,hs.ev hz,Instr.mapUpdate,run_underlying g,Go.MapKept.run_getObj_map s,run_checkKey h (show IsKey (.int .i64) (.int .i64 k)from rfl),run_findKey h d,Go.MapKept.run_setObj_map _ s]
 .have Z:c[j]? = some e:=by simpa using p
  have V:e∈c.toList:=fP p;obtain⟨a',S,D,h5⟩:=f e V;have a0:k∈ks:=by rw [D]at r;cases r;exact S
  refine m (.map (c.modify j λe=>{ e with key:= .int .i64 k,val:= .bool true }) n) ⟨_,_,rfl,stamped_modify B _ _ (λ_ _=>rfl) (λe' _ u=>by rw [Z]at u;cases u;exact r.symm),?_⟩ ?_
  .unfold Br;rw [aK a0,<-F];exact Zef Z (by simp [r,h5])
  .simp [execOp,ho,hs.ev hx,hs.ev hy,hs.ev hz,Instr.mapUpdate,run_underlying g,Go.MapKept.run_getObj_map s,run_checkKey h (show IsKey (.int .i64) (.int .i64 k)from rfl),run_findKey h d,Go.MapKept.run_setObj_map _ s,Z,r,run_keyThatStays (show IsKey (.int .i64) (.int .i64 k)from rfl)]
abbrev RT:Value->Option (DataW Unit×List MemPlace):=λ_=>some (.nil,[])
theorem Ziq{w:World}(h:(mri b ks).holds w)(u:P.underlying k=some (.int .i64))(z:ks.length<=maxLen)(y:∀x∈ks,(Lit.int .i64 x).wf=true) :
  ∃D:DataW Unit,w.ownsMap P k RT b ks.length D/\Maps.size D=ks.length/\(intKeys D).Perm ks:=by
 obtain⟨c,n,v,q,m⟩:∃c n,w.heap[b]? = some (.map c n)/\msE c n ks:=h;have j:c.size=ks.length:=by have:=aU List.length m;simpa using this
 have f:∀e∈c.toList,∃a∈ks,e.key= .int .i64 a:=λe g=>by have:(e.key,e.val)∈c.toList.map (λe=>(e.key,e.val)):=cQ.2 ⟨e,g,rfl⟩;rw [m]at this;obtain⟨a,i,d⟩:=cQ.1 this;simp only [kL]at d;exact⟨a,i,d.1.symm⟩
 have l:∀e∈c.toList,∀a∈ks,e.key= .int .i64 a->WideElems.rd P k RT e=some (.int .i64 a,.nil):=λe g a i d=>by
  have:keyOf P k (.int .i64 a)=some (.int .i64 a):=by simp [keyOf,u,mapKey,y a i]
  unfold WideElems.rd;rw [d,this];rfl
 refine⟨_,⟨c,n,v,⟨O,q,λe g=>?_⟩,O,rfl⟩,?_,?_⟩
 .obtain⟨a,i,d⟩:=f e g;exact⟨_,l e g a i d⟩
 .show(List.foldr DataW.insert [] _).length=_;rw [(WideShapes.sorted_perm _).length_eq];simp [j]
 .show((List.foldr DataW.insert [] _).map λp=>intOf p.1).Perm ks;refine((WideShapes.sorted_perm _).map _).trans ?_;have:(c.toList.map (WideElems.rg P k RT)).map (λp=>intOf p.1)=ks:=by
   have r:∀e∈c.toList,Value.int .i64 (intOf (WideElems.rg P k RT e).1)=e.key:=λe g=>by obtain⟨a,i,d⟩:=f e g;rw [WideElems.rg_of (l e g a i d),d];rfl
   have s:((c.toList.map (WideElems.rg P k RT)).map (λp=>intOf p.1)).map (Value.int .i64)=ks.map (Value.int .i64):=by
    rw [gJ,gJ];have t:c.toList.map (λe=>e.key)=ks.map (Value.int .i64):=by have:=aU (List.map Prod.fst) m;rw [gJ,gJ]at this;exact this
    rw [<-t];exact kD r
   exact(List.map_inj_right (λa b h=>by cases h;rfl)).1 s
  rw [this]
end Go.Sky

