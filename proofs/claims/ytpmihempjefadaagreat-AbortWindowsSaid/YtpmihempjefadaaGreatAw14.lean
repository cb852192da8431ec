/- Rules, arithmetic and contracts: part 15. No conditions but those that each theorem names. -/
import Derived.Test.YtpmihempjefadaaGreatAw13
set_option linter.all false
set_option maxHeartbeats 4000000
namespace Go.Sky
open Go.Proofs.Tryz
open Go.Proofs
set_option synthInstance.maxHeartbeats 0
set_option synthInstance.maxSize 100000
set_option maxRecDepth 20000
set_option linter.unusedSimpArgs false
variable{p:Ze->Bool}{i id:Nat}{d:Ze}{ops:List Oper}{y x c:Code}{zs:List Ze}
theorem Zde(fr N e:Int){vx vy vz:Value}(x y z:List Int)(s:Mdh e x y z):Cal prog 97 #[.int .i64 fr,.int .i64 N,.agg #[vx,vy,vz],wv e] [Ys 2 wv vx x,Ys 2 wv vy y,Ys 2 wv vz z] false (G:=SL×SL×SL) (λg=>True) (λg=> .tuple #[.agg #[.int .i64 fr,.int .i64 N,.int .i64 (mdO e (Fk e x y z)),Xo g.1,Xo g.2.1,Xo g.2.2],.bool (decide (e/(Fk e x y z)<=4294967296))]) (λg=>[Ys 1 Xf (Xo g.1) (mdL e (Fk e x y z) x),Ys 1 Xf (Xo g.2.1) (mdL e (Fk e x y z) y),Ys 1 Xf (Xo g.2.2) (mdL e (Fk e x y z) z)]):=by
 refine Zd func97 ntmps97 λw0 sc hw b0=>?_;have ho:=s.o;have Y:=s.b;obtain⟨V,a7,a8⟩:=s.g;have W:bl (Fk e x y z).natAbs<=1000:=s.fc 3 0;have a9:0<=e/(Fk e x y z):=kS (eK ho) (eK V);refine go 2<|Zz (Zu 4) λbx _=>Zz (Zu 5) λa2 _=>Zz (Zx 6) λa3 _=>go 6<|Zz (Zx 7) λF _=>go 11 ?_;refine lp (G:=Nat) [0,1,6,7,8,10,24] [0,1,2,3,4,5,6] (λi=>[(25,.int .i64 (i:Int))]) (λi=>[(7,box F 176 (wc (Ll e (Kw i x y z))))]) (λi=>i<=3) (λi=>3-i) 0 O1 K1 K1 ?_;rintro i hi;have a0:=s.fc i;have a1:=s.l i;refine go 6<|Zc J (λP=>?_) (λP=>?_)
 .refine go 5<|Zr (Zg2 i 1 2 3 50 J J J J J J)<|go 1 ?_;refine dt (Znn i J J J underlying173 sizeOf133 isAgg133 J)<|go 11 ?_;refine lp (G:=Nat) [0,1,6,7,8,10,24,25,28,29] [0,1,2,3,4,5,6,50] (λk=>[(30,.int .i64 (k:Int))]) (λk=>[(7,box F 176 (wc (Ll (Ll e (Kw i x y z)) ((Ye i x y z).take k))))]) (λk=>k<=(Ye i x y z).length) (λk=>(Ye i x y z).length-k) 0 O1 K1 K1 ?_;rintro k hk;refine go 6<|Zc J (λQ=>?_) (λQ=>?_)
  .refine go 8 ⟨O2,O2,?_⟩;refine Zz (Zx 8) λa4 _=>go 6 ?_;refine cl 8 [] (Zoa (Ll (Ll e (Kw i x y z)) ((Ye i x y z).take k)) ((Ye i x y z).getD k 0) (aB (a0 k) O3) (aB (s.s i k) O3)) λ_ _=>?_;refine go 8 ⟨O,?_⟩;exact Yl (k+1) O1 O1 K1 ⟨by rw [Zhg O];rfl,aA⟩
  .obtain rfl:k=(Ye i x y z).length:=O;rw [bT];refine go 10 ⟨O,?_⟩;exact Yl (i+1) O1 O1 K1 ⟨by rw [Zcr x y z O,Eb];rfl,aA⟩
 .obtain rfl:i=3:=O;refine go 9 ?_;refine dt (Xp [(0,_),(1,_)] J K4 (λa w hs=>Ynu ((Zl J) a w hs) ((Zl J) a w hs)))<|Zz (Zx 9) λm _=>go 7 ?_;refine cl 9 [] (Zg1 e (Fk e x y z) (aB Y O3) (aB W O3) O) λ_ _=>Zz (Zx 10) λa5 _=>go 5<|Pd (λ_=>False) [(0,0),(1,1),(2,1),(3,0)]<|go 1<|Qk (Zv 10 [] (Zn 4294967296 ⟨O3,O3⟩)) λ_ _=>Qk (Zv 10 [] (Ze8 (e/(Fk e x y z)) 4294967296 (aB (bl_dlq Y V (eK ho)) O3) O3)) λ_ _=>go 3<|Zc J (λo=>?_) (λo=>?_)
  .have l:¬e/(Fk e x y z)<=4294967296:=Ydo.1 o;refine go 9 ?_;exact Yce (.inl J) ((none,0,0),(none,0,0),(none,0,0)) fr0 (λa w hs=>Zu8 hs results97 (Gw 6 J J isAgg137 Zbx J) J) (by rw [mdO_f l,aK l]) aA J (Lg (Yfa l) (Lg (Yfa l) (Lg (Yfa l) Za)))
  .have l:e/(Fk e x y z)<=4294967296:=cN.1 λh=>o (Ydo.2 h);refine go 5 ?_;refine cl 10 [] (Zqx (e/(Fk e x y z)) O) λ_ _=>go 13 ?_;refine dt (Xp [(0,_),(1,_),(2,_)] J K6 (λa w hs=>Yim ((Zl J) a w hs) ((Zl J) a w hs) ((Zl J) a w hs)))<|go 4 ?_;refine Zr (Qa 9 (q:=box m 137 (C6 (.int .i64 fr) (.int .i64 N) (.int .i64 (e/(Fk e x y z))) (fz []))) (aN (box m 137) (show _=(C6 (.int .i64 fr) (.int .i64 N) (.int .i64 (e/(Fk e x y z))) (fz []))from J)) J J)<|Zr (On qC 71)<|lp (G:=Nat×List (SL×List Int)) [6,8,10,15,59] [0,7,1,2,3,4,5,6,10] (λq=>[(60,.int .i64 (q.1:Int))]) (λq=>[(9,box m 137 (C6 (.int .i64 fr) (.int .i64 N) (.int .i64 (e/(Fk e x y z))) (fz q.2))),(71,Hf qC q.2)]) (λq=>(q.1<=3)/\(q.2.length=q.1)/\(∀t,t<q.1->(q.2.getD t Z0).2=Cf (Ye t x y z) (Fk e x y z))/\(∀z∈q.2,∀b,(Xo z.1).ownBlock=some b->w0.heap.size<=b)) (λq=>3-q.1) (0,[]) ⟨O1,rfl,λt Z=>absurd Z (cK t),λz hz=>nomatch hz⟩ K1 K2 ?_;rintro⟨i,zs⟩ ⟨hi,n,B,u⟩;dsimp only at hi n B u;dsimp only;have a1:=s.l i;refine go 6<|Zc J (λR=>?_) (λR=>?_)
   .refine go 7 ?_;refine dt (Yv ( .pointer (some ⟨m,3+i,none⟩)) (Znn i J J J underlying260 sizeOf259 isAgg259 J) (p3_sel O))<|go 6 ?_;refine Zr (Zg2 i 1 2 3 52 J J J J J J)<|Zr (Hb 60 1 3 Xf)<|go 2 ?_;refine dt (Gs i J J J underlying173 sizeOf133 J)<|dt (Zlp 4 J J J isAgg133 (c3_get O))<|go 5 ?_;refine lp (G:=Nat×Value) [6,8,10,15,18,59,60,66,67] [0,71,7,1,2,3,4,5,6,10,52] (λq=>[(68,.int .i64 (q.1:Int))]) (λq=>[(9,box m 137 (C6 (.int .i64 fr) (.int .i64 N) (.int .i64 (e/(Fk e x y z))) (upd (fz zs) i q.2))),(60,Ol 1 3 Xf q.2 (((Ye i x y z).take q.1).map (· / (Fk e x y z))))]) (λq=>q.1<=(Ye i x y z).length) (λq=>(Ye i x y z).length-q.1) (0,_) O1 K1 ⟨by rw [Zwj (λj _=>fz_upd n j)];rfl,by rw [eX];rfl,aA⟩ ?_;rintro⟨k,vr⟩ hk;dsimp only at hk;dsimp only;refine go 6<|Zc J (λS=>?_) (λS=>?_)
    .refine go 8 ⟨O2,O2,?_⟩;refine Zz (Zx 11) λa6 _=>go 7 ?_;refine cl 11 [] (Zg1 ((Ye i x y z).getD k 0) (Fk e x y z) (aB (s.s i k) O3) (aB W O3) O) λ_ _=>cl 11 [] (Zqx ((Ye i x y z).getD k 0/(Fk e x y z)) (s.fit l O k)) λ_ _=>go 11 ?_;refine dt (Zlp 9 J J J isAgg40 (Yh9 O))<|go 1 ?_;refine tt (Oe [(0,_)] 12 (enc:=Xf) ([(Ye i x y z).getD k 0/(Fk e x y z)]:List Int) J J K2 Le ti3 J J J J J pZ.cells J J hw.h) (λv _=>?_);refine tt (Fr 60 12 8 J J J J J J O3 J (Yo pZ) Le ti3 J pZ J J J O9 O3 J hw.h) λb1 _=>go 1 ?_;refine tt (t_st6 9 i J J J J J O3 Zqt O (Ok 60 J (Yo pZ)) J hw.h aA) (λ_ _=>?_);refine go 7 ⟨O,?_⟩;exact Yl (k+1,_) O1 O1 K1 ⟨J,by rw [<-Yfc O];rfl,aA⟩
    .obtain rfl:k=(Ye i x y z).length:=O;rw [bT];refine go 9 ?_;refine dt (Zlp 9 J J J isAgg40 (Yh9 O))<|go 4 ?_;refine Zc J (λr=>?_) (λr=>?_)
     .have H:(Ye i x y z).length=0:=by simpa using r
      refine go 2 ?_;refine tt (Oe [(0,_)] 13 (enc:=Xf) ([0]:List Int) J J K2 Le ti3 J J J J J pZ.cells J J hw.h) λb2 _=>go 1 ?_;refine tt (t_st6 9 i J J J J J O3 Zqt O (Ok 13 J (Yo pZ)) J hw.h aA) (λ_ _=>?_);refine go 7 ⟨O,?_⟩;refine Ycd (f_new 13 J J J) (λI=>?_);refine Xg (Na 13 J J pZ)<|Znu (Ml 13 J Zk) (λD M=>?_);subst M;exact Xg (Qa 13 (q:=Ys 1 Xf (Xo D) (Cf (Ye i x y z) (Fk e x y z))) (aN (Ys 1 Xf (Xo D)) (dvL_0 H).symm) J J)<|Xg (Qs (q:=qC) (z:=(D,Cf (Ye i x y z) (Fk e x y z))) 71 13 71 J J J J J)<|Yl (i+1,zs ++ [(D,Cf (Ye i x y z) (Fk e x y z))]) ⟨O1,by rw [bE,n];rfl,λt Z=>Zsg (f:=λt=>Cf (Ye t x y z) (Fk e x y z)) n B rfl Z,Ygd u I⟩ O1 K1 ⟨by rw [Zwj (λj _=>Zyv (c:=Cf (Ye i x y z) (Fk e x y z)) n j)];rfl,rfl,aA⟩
     .have H:(Ye i x y z).length≠0:=by simpa using r
      refine go 7 ⟨O,?_⟩;refine Ycd (f_new 60 J J J) (λI=>?_);refine Xg (Na 60 J J pZ)<|Znu (Ml 60 J Zk) (λD M=>?_);subst M;exact Xg (Qa 60 (q:=Ys 1 Xf (Xo D) (Cf (Ye i x y z) (Fk e x y z))) (aN (Ys 1 Xf (Xo D)) (dvL_n H).symm) J J)<|Xg (Qs (q:=qC) (z:=(D,Cf (Ye i x y z) (Fk e x y z))) 71 60 71 J J J J J)<|Yl (i+1,zs ++ [(D,Cf (Ye i x y z) (Fk e x y z))]) ⟨O1,by rw [bE,n];rfl,λt Z=>Zsg (f:=λt=>Cf (Ye t x y z) (Fk e x y z)) n B rfl Z,Ygd u I⟩ O1 K1 ⟨by rw [Zwj (λj _=>Zyv (c:=Cf (Ye i x y z) (Fk e x y z)) n j)];rfl,rfl,aA⟩
   .obtain rfl:i=3:=O;refine go 6 ?_;obtain⟨s1,s2,s3,rfl⟩:=mds_of n B;refine Zr (Zbh (q:=qC) 71 81 (s1,Cf x (Fk e x y z)) J J O8 J)<|Zr (Qa 81 (q:=Ys 1 Xf (Xo s1) (mdL e (Fk e x y z) x)) (aN (Ys 1 Xf (Xo s1)) (Zm9 l).symm) J J)<|Zr (Zbh (q:=qC) 71 82 (s2,Cf y (Fk e x y z)) J J O8 J)<|Zr (Qa 82 (q:=Ys 1 Xf (Xo s2) (mdL e (Fk e x y z) y)) (aN (Ys 1 Xf (Xo s2)) (Zm9 l).symm) J J)<|Zr (Zbh (q:=qC) 71 83 (s3,Cf z (Fk e x y z)) J J O8 J)<|Zr (Qa 83 (q:=Ys 1 Xf (Xo s3) (mdL e (Fk e x y z) z)) (aN (Ys 1 Xf (Xo s3)) (Zm9 l).symm) J J)<|Zr (Qa 9 (q:=box m 137 #[.int .i64 fr,.int .i64 N,.int .i64 (e/(Fk e x y z)),Xo s1,Xo s2,Xo s3]) J J J)<|go 7 ?_;exact Yce (.inl J) (s1,s2,s3) (fr3 u) (λa w hs=>Zu8 hs results97 (Gw 6 J J isAgg137 Zbx J) J) (by rw [mdO_t l,aI l]) aA J (Gk 81 J J J (Gk 82 J J J (Gk 83 J J J Za)))
abbrev Zhs:=(Int×Int×Int)×List Int×List Int×List Int
def Dn(g:Ze):Zhs:=(g.1,g.2.1.2,g.2.2.1.2,g.2.2.2.2)
abbrev cA (fr:Int) (g:Ze):Int:=max fr g.1.1
abbrev cB (a:Int) (g:Ze):Int:=min a g.1.2.1
abbrev cX (fr a:Int) (g:Ze) (c:List Int):List Int:=Nl c (cA fr g-g.1.1) (cB a g-cA fr g) (g.1.2.1-g.1.1)
abbrev cO (g:Ze):Int:=g.1.2.2*(g.1.2.1-g.1.1)^5
def cG(fr a:Int)(g:Ze):Int:=Fk (cO g) (cX fr a g g.2.1.2) (cX fr a g g.2.2.1.2) (cX fr a g g.2.2.2.2)
def Li(fr a:Int)(g:Ze):Bool:=decide (cA fr g<cB a g)
def Zgj(fr a:Int)(g:Ze):Bool:=decide (cO g/cG fr a g<=4294967296)
def Zv9(fr a:Int)(g:Ze):Zhs:=((cA fr g,cB a g,mdO (cO g) (cG fr a g)),mdL (cO g) (cG fr a g) (cX fr a g g.2.1.2),mdL (cO g) (cG fr a g) (cX fr a g g.2.2.1.2),mdL (cO g) (cG fr a g) (cX fr a g g.2.2.2.2))
def MdG(fr a:Int)(g:Ze):Prop:=Mdh (cO g) (cX fr a g g.2.1.2) (cX fr a g g.2.2.1.2) (cX fr a g g.2.2.2.2)
theorem fl_get{ps:List Ze}(hi:i<ps.length)(b:p (ps.getD i d)=true):(ps.filter p)[((ps.take i).filter p).length]? = some (ps.getD i d):=by
 have h:=fH i ps;have a:ps.drop i=ps.getD i d::ps.drop (i+1):=by rw [aE,aL hi,fC];exact eG hi
 conv=>lhs;arg 1;rw [<-h,a]
 rw [fO,eR b];simp
theorem fl_t{ps:List Ze}(hi:i<ps.length)(a:p (ps.getD i d)=true):((ps.take (i+1)).filter p).length=((ps.take i).filter p).length+1:=by rw [Ps d _ _ hi,fO,eR a,bE];rfl
theorem fl_f{ps:List Ze}(hi:i<ps.length)(a:p (ps.getD i d)=false):((ps.take (i+1)).filter p).length=((ps.take i).filter p).length:=by rw [Ps d _ _ hi,fO,gE (by rw [a];exact bD),bE];rfl
def Zm1{d:Int}(h:1<=d/\d<=3600000):bl (d^5).natAbs<=132:=Znq (Zlz O) 5 (aJ _)
theorem Yhr{W:Nat}{H:Hp}{j k l:SL}{f g l3:List Int}(h:∀p∈[Ys 1 Xf (Xo j) f,Ys 1 Xf (Xo k) g,Ys 1 Xf (Xo l) l3],∀b,p.fp b->W<=b)(i:Nat)(n:lk H i=some (Ys 1 Xf (Xo j) f))(o:lk H (i+1)=some (Ys 1 Xf (Xo k) g))(q:lk H (i+2)=some (Ys 1 Xf (Xo l) l3)) :
  ∀p∈[Ys 1 Xf (Xo j) f,Ys 1 Xf (Xo k) g,Ys 1 Xf (Xo l) l3],p.own=false/\(∀b,p.fp b->W<=b)/\∃i m,lk H i=some m/\∀w,m.holds w->p.holds w:=λp e=>by
 have a:=h p e;simp only [aZ,dJ,gF]at e;rcases e with rfl|rfl|rfl
 .exact⟨rfl,a,_,_,n,λ_ h=>h⟩
 .exact⟨rfl,a,_,_,o,λ_ h=>h⟩
 .exact⟨rfl,a,_,_,q,λ_ h=>h⟩
theorem cut_b{fr b:Int}{g:Ze}(a:SgG g)(h:Li fr b g=true):(cA fr g-g.1.1).natAbs<=3600000/\(cB b g-cA fr g).natAbs<=3600000/\Mr (cA fr g-g.1.1)/\Mr (cB b g-cA fr g):=by have k:=cD h;have e:=a.t1;have f:=a.t2;have j:=a.t3;unfold cA cB at *;exact⟨O,O,⟨O,O⟩,⟨O,O⟩⟩
theorem Yan(v:Value)(ps:List Ze)(Q R S:Nat)(fr a:Int)(I:∀g∈ps,SgG g)(hM:∀g∈ps,Li fr a g=true->MdG fr a g):Zun prog 314 [.pointer (some ⟨Q,0,none⟩),.pointer (some ⟨R,0,none⟩),.pointer (some ⟨S,0,none⟩)] [Oz Q 31 #[v],Oz R 3 #[.int .i64 fr],Oz S 3 #[.int .i64 a],Qi 6 Pz qG v ps] (α:=Ze) (G:=SL×SL×SL) (ps.filter (Li fr a)) (λc g=>[.agg #[.int .i64 (cA fr c),.int .i64 (cB a c),.int .i64 (mdO (cO c) (cG fr a c)),Xo g.1,Xo g.2.1,Xo g.2.2],.bool (Zgj fr a c)]) (λc g=>[Ys 1 Xf (Xo g.1) (mdL (cO c) (cG fr a c) (cX fr a c c.2.1.2)),Ys 1 Xf (Xo g.2.1) (mdL (cO c) (cG fr a c) (cX fr a c c.2.2.1.2)),Ys 1 Xf (Xo g.2.2) (mdL (cO c) (cG fr a c) (cX fr a c c.2.2.2.2))]):=by
 refine Zqf func314 J ntmps314 J K4 ?_;intro l M JI Jx w0 sc hw w t k F hY;simp only [Qf,Yg];have N:=Hw.mk hw;refine Lh (Ev (i:=4) J Yf) λa3=>go 8 ?_;refine lp (G:=Nat×World) [0,2,3,12,13] [1,2,3,4] (λq=>[(14,.int .i64 (q.1:Int))]) (λq=>[(0,Zt q.2 (λ_=>False))]) (λq=>(q.1<=ps.length)/\(JI ((ps.take q.1).filter (Li fr a)).length q.2)/\(w0.heap.size<=q.2.heap.size)) (λq=>ps.length-q.1) (0,w0) ⟨O1,F,aJ _⟩ K1 K1 ?_;rintro⟨i,W⟩ ⟨hi,r,D⟩;dsimp only at hi r D;dsimp only;have d2:=Yfw N D;refine go 6<|Zc J (λn=>?_) (λn=>?_)
 .refine go 5 ?_;have f:=I _ (Zi (d:=G0) (show i<ps.length by omega));have c9:=f.t1;have d0:=f.t2;have d1:=f.t3;have c2:=f.o1;have H:=f.o2;refine Zr (Gm (ps.getD i G0) ((ps.getD i G0).2.1) 4 51 J J Zi O8)<|Zr (Gm (ps.getD i G0) ((ps.getD i G0).2.2.1) 4 52 J J Zi O8)<|Zr (Gm (ps.getD i G0) ((ps.getD i G0).2.2.2) 4 53 J J Zi O8)<|go 2 ⟨O2,?_⟩;refine dt (Of 4 G0 J J J Yf pG O2)<|Zz (Zx 5) λbx _=>go 4 ?_;refine Pd (λ_=>False) [(0,0),(1,0),(2,0),(3,0),(4,0),(5,0),(6,0),(7,0),(8,0),(9,3)]<|go 3 ?_;refine Qb J J (Pq (Zb1 J J J))<|go 3 ?_;refine Qb J J (Pq (Znl J J J))<|go 12 ?_;refine Zc J (λo=>?_) (λo=>?_)
  .have j:Li fr a (ps.getD i G0)=false:=aK (by unfold cA cB;omega);refine go 8 ⟨O,?_⟩;exact Yl (i+1,W) ⟨O1,by rw [fl_f O j];exact r,D⟩ O1 K1 K1
  .have j:Li fr a (ps.getD i G0)=true:=aI (by unfold cA cB;omega);have h:=hM _ (Zi (d:=G0) (show i<ps.length by omega)) j;obtain⟨z,B,c7,c8⟩:=cut_b f j;refine go 12 ⟨O,?_⟩;refine jn (G:=SL×SL×SL×Nat) [0,2,3,12,13,14] [0,1,2,3,4,51,52,53,5] (λq=>[(10,.pointer (some ⟨q.2.2.2,0,none⟩)),(11,.bool (Zgj fr a (ps.getD i G0)))]) (λq=>[(90,Ys 1 Xf (Xo q.1) (mdL (cO (ps.getD i G0)) (cG fr a (ps.getD i G0)) (cX fr a (ps.getD i G0) (ps.getD i G0).2.1.2))),(91,Ys 1 Xf (Xo q.2.1) (mdL (cO (ps.getD i G0)) (cG fr a (ps.getD i G0)) (cX fr a (ps.getD i G0) (ps.getD i G0).2.2.1.2))),(92,Ys 1 Xf (Xo q.2.2.1) (mdL (cO (ps.getD i G0)) (cG fr a (ps.getD i G0)) (cX fr a (ps.getD i G0) (ps.getD i G0).2.2.2.2))),(93,box q.2.2.2 137 #[.int .i64 (cA fr (ps.getD i G0)),.int .i64 (cB a (ps.getD i G0)),.int .i64 (mdO (cO (ps.getD i G0)) (cG fr a (ps.getD i G0))),Xo q.1,Xo q.2.1,Xo q.2.2.1])]) (λq=>(∀p∈[Ys 1 Xf (Xo q.1) (mdL (cO (ps.getD i G0)) (cG fr a (ps.getD i G0)) (cX fr a (ps.getD i G0) (ps.getD i G0).2.1.2)),Ys 1 Xf (Xo q.2.1) (mdL (cO (ps.getD i G0)) (cG fr a (ps.getD i G0)) (cX fr a (ps.getD i G0) (ps.getD i G0).2.2.1.2)),Ys 1 Xf (Xo q.2.2.1) (mdL (cO (ps.getD i G0)) (cG fr a (ps.getD i G0)) (cX fr a (ps.getD i G0) (ps.getD i G0).2.2.2.2))],∀b,p.fp b->W.heap.size<=b)) ?_ ?_
   .refine Ng [5] [24]<|Zw 11 [(0,0),(1,0),(2,0),(3,0),(4,0),(5,0),(6,0),(7,0),(8,0),(9,0),(10,0),(12,0),(13,0),(15,0)]<|go 15 ⟨O,O,?_⟩;refine Nm 10 11 22 ?_ ?_
    .refine Iy (Zv 6 [51,52,53] (Zhy ((cA fr (ps.getD i G0))-(ps.getD i G0).1.1) ((cB a (ps.getD i G0))-(cA fr (ps.getD i G0))) ((ps.getD i G0).1.2.1-(ps.getD i G0).1.1) f z B ⟨O,O⟩)) λ⟨s,d3,d4⟩ _=>?_;refine Nm 9 14 22 ?_ ?_
     .refine Iy (Zv 8 [] (Zn (ps.getD i G0).1.2.2)) λ_ _=>?_;refine Nm 8 16 22 ?_ ?_
      .refine Iy (Zv 8 [] (Ff ((ps.getD i G0).1.2.1-(ps.getD i G0).1.1) 5 (aB (Zlz O) O3) O3 O3)) λ_ _=>?_;refine Nm 7 17 22 ?_ ?_
       .refine Iy (Zv 8 [] (Bi (ps.getD i G0).1.2.2 (((ps.getD i G0).1.2.1-(ps.getD i G0).1.1)^5) (aB (Ey ⟨O,O⟩) O3) (aB (Zm1 ⟨O,O⟩) O3))) λ_ _=>?_;refine Nm 6 18 22 ?_ ?_
        .refine Iy (Yah 90 [6,7,8] (Zde (cA fr (ps.getD i G0)) (cB a (ps.getD i G0)) (cO (ps.getD i G0)) (cX fr a (ps.getD i G0) (ps.getD i G0).2.1.2) (cX fr a (ps.getD i G0) (ps.getD i G0).2.2.1.2) (cX fr a (ps.getD i G0) (ps.getD i G0).2.2.2.2) h)) λ⟨d5,d6,d7⟩ ⟨_,e⟩=>?_;refine Zw 0 [(19,0),(20,0),(21,0),(22,1),(23,1),(24,3)]<|go 3 ?_;refine Qk (Nx 93) λV ho=>go 3<|Yq ?_;exact Gd (_,_,_,_) e K2 K4
        .refine Iy (Nx 93) λY H=>?_;refine Zw 0 [(18,1),(19,0),(20,0),(21,0),(23,1),(24,3)]<|Qk (Yah 90 [6,7,8] (Zde (cA fr (ps.getD i G0)) (cB a (ps.getD i G0)) (cO (ps.getD i G0)) (cX fr a (ps.getD i G0) (ps.getD i G0).2.1.2) (cX fr a (ps.getD i G0) (ps.getD i G0).2.2.1.2) (cX fr a (ps.getD i G0) (ps.getD i G0).2.2.2.2) h)) λ⟨d8,d9,e0⟩ ⟨_,e⟩=>go 6 ?_;exact Yq<|Gd (_,_,_,_) e K2 K4
       .refine Iy (Nx 93) λZ c3=>?_;refine Zw 0 [(17,1),(18,1),(19,0),(20,0),(21,0),(23,1),(24,3)]<|Qk (Zv 8 [] (Bi (ps.getD i G0).1.2.2 (((ps.getD i G0).1.2.1-(ps.getD i G0).1.1)^5) (aB (Ey ⟨O,O⟩) O3) (aB (Zm1 ⟨O,O⟩) O3))) λ_ _=>Qk (Yah 90 [6,7,8] (Zde (cA fr (ps.getD i G0)) (cB a (ps.getD i G0)) (cO (ps.getD i G0)) (cX fr a (ps.getD i G0) (ps.getD i G0).2.1.2) (cX fr a (ps.getD i G0) (ps.getD i G0).2.2.1.2) (cX fr a (ps.getD i G0) (ps.getD i G0).2.2.2.2) h)) λ⟨a4,a5,a6⟩ ⟨_,e⟩=>go 6 ?_;exact Yq<|Gd (_,_,_,_) e K2 K4
      .refine Iy (Nx 93) λa0 c4=>?_;refine Zw 0 [(16,1),(17,1),(18,1),(19,0),(20,0),(21,0),(23,1),(24,3)]<|Qk (Zv 8 [] (Ff ((ps.getD i G0).1.2.1-(ps.getD i G0).1.1) 5 (aB (Zlz O) O3) O3 O3)) λ_ _=>Qk (Zv 8 [] (Bi (ps.getD i G0).1.2.2 (((ps.getD i G0).1.2.1-(ps.getD i G0).1.1)^5) (aB (Ey ⟨O,O⟩) O3) (aB (Zm1 ⟨O,O⟩) O3))) λ_ _=>Qk (Yah 90 [6,7,8] (Zde (cA fr (ps.getD i G0)) (cB a (ps.getD i G0)) (cO (ps.getD i G0)) (cX fr a (ps.getD i G0) (ps.getD i G0).2.1.2) (cX fr a (ps.getD i G0) (ps.getD i G0).2.2.1.2) (cX fr a (ps.getD i G0) (ps.getD i G0).2.2.2.2) h)) λ⟨a7,a8,a9⟩ ⟨_,e⟩=>go 6 ?_;exact Yq<|Gd (_,_,_,_) e K2 K4
     .refine Iy (Nx 93) λa1 c5=>?_;refine Zw 0 [(14,1),(16,1),(17,1),(18,1),(19,0),(20,0),(21,0),(23,1),(24,3)]<|Qk (Zv 8 [] (Zn (ps.getD i G0).1.2.2)) λ_ _=>Qk (Zv 8 [] (Ff ((ps.getD i G0).1.2.1-(ps.getD i G0).1.1) 5 (aB (Zlz O) O3) O3 O3)) λ_ _=>Qk (Zv 8 [] (Bi (ps.getD i G0).1.2.2 (((ps.getD i G0).1.2.1-(ps.getD i G0).1.1)^5) (aB (Ey ⟨O,O⟩) O3) (aB (Zm1 ⟨O,O⟩) O3))) λ_ _=>Qk (Yah 90 [6,7,8] (Zde (cA fr (ps.getD i G0)) (cB a (ps.getD i G0)) (cO (ps.getD i G0)) (cX fr a (ps.getD i G0) (ps.getD i G0).2.1.2) (cX fr a (ps.getD i G0) (ps.getD i G0).2.2.1.2) (cX fr a (ps.getD i G0) (ps.getD i G0).2.2.2.2) h)) λ⟨b0,b4,b5⟩ ⟨_,e⟩=>go 6 ?_;exact Yq<|Gd (_,_,_,_) e K2 K4
    .refine Iy (Nx 93) λa2 c6=>?_;refine Zw 0 [(11,1),(14,1),(16,1),(17,1),(18,1),(19,0),(20,0),(21,0),(23,1),(24,3)]<|Qk (Zv 9 [51,52,53] (Zhy ((cA fr (ps.getD i G0))-(ps.getD i G0).1.1) ((cB a (ps.getD i G0))-(cA fr (ps.getD i G0))) ((ps.getD i G0).1.2.1-(ps.getD i G0).1.1) f z B ⟨O,O⟩)) λ⟨b6,b7,b8⟩ _=>Qk (Zv 11 [] (Zn (ps.getD i G0).1.2.2)) λ_ _=>Qk (Zv 11 [] (Ff ((ps.getD i G0).1.2.1-(ps.getD i G0).1.1) 5 (aB (Zlz O) O3) O3 O3)) λ_ _=>Qk (Zv 11 [] (Bi (ps.getD i G0).1.2.2 (((ps.getD i G0).1.2.1-(ps.getD i G0).1.1)^5) (aB (Ey ⟨O,O⟩) O3) (aB (Zm1 ⟨O,O⟩) O3))) λ_ _=>Qk (Yah 90 [9,10,11] (Zde (cA fr (ps.getD i G0)) (cB a (ps.getD i G0)) (cO (ps.getD i G0)) (cX fr a (ps.getD i G0) (ps.getD i G0).2.1.2) (cX fr a (ps.getD i G0) (ps.getD i G0).2.2.1.2) (cX fr a (ps.getD i G0) (ps.getD i G0).2.2.2.2) h)) λ⟨b9,c0,c1⟩ ⟨_,e⟩=>go 6 ?_;exact Yq<|Gd (_,_,_,_) e K2 K4
   .rintro⟨s1,s2,s3,bj⟩ e;dsimp only at e;dsimp only;refine go 1<|Ybt ?_;refine Pu (Hg J J) J<|Pu (d_lbw (i:=93) J J J isAgg137 Zbx J) J<|Pu (Hg J J) J<|Zsj [_,_] [_,_,_,_] (ps.getD i G0) (s1,s2,s3) hY (fl_get O j) r D w J J J J J K2 J J (Yhr e 90 J J J) K4 K4 (λP m u=>?_) (λP m u=>?_)
    .simp only [Yg];refine Pu (dF (Yz J J) J) J<|Ch<|go 9 ⟨O,?_⟩;exact Yl (i+1,P) ⟨O1,by rw [fl_t O j];exact m,u⟩ O1 K1 K1
    .simp only [Yg];refine Pu (dT (Yz J J) J) J<|Ch<|go 7 ?_;exact Za9 (.inl J) J J t k (.inr m)
 .obtain rfl:i=ps.length:=O;rw [bT]at r;exact go 4<|Za9 (.inr J) J J t k (.inl r)
open Go.RowKit Below
variable {P:Program} {N:Nat} {sc:Nat->Prop} {env env':Qj} {H H':Hp} {Q Q':Exit->Act->World->Prop} {l:Nat}
def ER(P:Program)(N:Nat)(sc:Nat->Prop)(l:Nat)(c:Code)(Q:Exit->Act->World->Prop)(env:Qj)(H:Hp):Prop:=
 ∀a w,Sat N sc env H a w->c.wpIn (Fence.wide.inRound l) 0 P Q a w
def ndB(o:Oper):Bool:=match o.op with
 | .defer _=>false
 | _=>true
theorem Zdn(h:ops.all ndB=true):Zix ops:=λo b c a=>by have:=bF.1 h o b;unfold ndB at this;rw [a]at this;cases this
def Zpx(b:ops.all ndB=true)(h:L P N sc ops.toArray ops (Ir (Exit.then (λa w=>y.wpIn (Fence.wide.inRound l) 0 P Q a w) Q)) env H):ER P N sc l (.seq (.region id ops.toArray false) y) Q env H:=
 λa w hs=>wpIn_seq (Yd7 (Zdn b) h hs)
def Zpw(b:ops.all ndB=true)(h:L P N sc ops.toArray ops (Ir Q) env H):ER P N sc l (.region id ops.toArray false) Q env H:=
 λa w hs=>Yd7 (Zdn b) h hs
def Yjg(h:ER P N sc l y Q env H):X N sc .normal (Ir (Exit.then (λa w=>y.wpIn (Fence.wide.inRound l) 0 P Q a w) Q)) env H:=λa w hs=>h a w hs
def Yjh(h:∀a w,Sat N sc env H a w->Q .normal a w):X N sc .normal (Ir Q) env H:=λa w hs=>h a w hs
def Qy(h:ER P N sc l x (Exit.then (λa w=>y.wpIn (Fence.wide.inRound l) 0 P Q a w) Q) env H):ER P N sc l (.seq x y) Q env H:=λa w hs=>wpIn_seq (h a w hs)
def Lu(h:ER P N sc l c (Exit.inBlock id Q) env H):ER P N sc l (.block id c) Q env H:=λa w hs=>wpIn_block (h a w hs)
theorem Zcv{c:Operand}{b:Bool}(e:ev env c=some (.bool b))(g:b=true->ER P N sc l x Q env H)(f:b=false->ER P N sc l y Q env H):ER P N sc l (.cond c x y) Q env H:=λa w hs=>by
 cases b with
 | true=>exact wpIn_cond_true (hs.ev e) (g rfl a w hs)
 | false=>exact wpIn_cond_false (hs.ev e) (f rfl a w hs)
def Zpu(h:∀a w,Sat N sc env H a w->Q .normal a w):ER P N sc l .skip Q env H:=λa w hs=>wpIn_skip (h a w hs)
def Zvx(h:∀a w,Sat N sc env H a w->Q .ret a w):ER P N sc l .ret Q env H:=λa w hs=>wpIn_ret (h a w hs)
def Zbs(b:∀a w,Sat N sc env H a w->Sat N sc env' H' a w)(h:ER P N sc l c Q env' H'):ER P N sc l c Q env H:=λa w hs=>h a w (b a w hs)
def Pi{e:Exit}(b:∀a w,Sat N sc env H a w->Sat N sc env' H' a w)(h:X N sc e Q env' H'):X N sc e Q env H:=λa w hs=>h a w (b a w hs)
theorem Zfi{β:Type}(i k:Nat)(enc:β->Value)(q:β->Pc):∀a w,Sat N sc env H a w->Sat N sc env ((i,Qi k enc q (.slice none 0 0) [])::H) a w:=λa w hs=>
 hs.add i _ ⟨Bd k enc w,λz f=>by cases f⟩ (λh j _ _ Lf b e g=>by
  rcases e with e|⟨z,f,_⟩
  .exact absurd rfl e.1
  .cases f) (λb e=>by
  rcases e with e|⟨z,f,_⟩
  .exact absurd rfl e.1
  .cases f)
theorem Yge{a:Hp}{g:Ze}(i j:Nat)(h:lk a i=some (Hf qG zs))(k:lk a j=some (Ys 1 Xf (Xo g.2.1.1) g.2.1.2))(m:lk a (j+1)=some (Ys 1 Xf (Xo g.2.2.1.1) g.2.2.1.2))(n:lk a (j+2)=some (Ys 1 Xf (Xo g.2.2.2.1) g.2.2.2.2)) :
  ∀b,(Hf qG (zs ++ [g])).fp b->∃j q,lk a j=some q/\q.fp b:=λb ⟨z,o,e⟩=>by
 rcases cW.1 o with q|q
 .exact⟨i,_,h,z,q,e⟩
 .rw [bZ.1 q]at e;obtain⟨c,f,e⟩:=e;simp only [aZ,dJ,gF]at f;rcases f with rfl|rfl|rfl
  .exact⟨j,_,k,e⟩
  .exact⟨j+1,_,m,e⟩
  .exact⟨j+2,_,n,e⟩
end Go.Sky
namespace Go.Sky
variable{k b c off:Nat}{zs:List Ze}{x y:Operand}{v:Value}{r:List Value}{xs:List Int}{w0 w:World}{M0:Nat->Prop}{a:Act}{o:Oper}{t tb:TypeId}{kd:IntKind}{m:Int}
theorem Ygp{l n p q s u d e f g h j:Value}:Instr.fill (λi=>some (i*6,6)) ((List.range (1*6)).map ((Value.agg #[l,n,p,q,s,u]).cells[· % (Value.agg #[l,n,p,q,s,u]).cells.size]!)).toArray [(0,.agg #[d,e,f,g,h,j])]=some #[d,e,f,g,h,j]:=by
 simp [Instr.fill,Value.cells,List.range,List.range.loop]
 try rfl
def Pp(fr d:Int)(ps:List Ze):Bool:=(ps.filter (Li fr d)).all (Zgj fr d)
def Cz(fr d:Int)(ps:List Ze):List Zhs:=if Pp fr d ps=true then(ps.filter (Li fr d)).map (Zv9 fr d)else []
def Zd5(fr d:Int)(ps:List Ze):Int:=if Pp fr d ps=true then 0 else 7
def Zu1(fr d:Int)(x:Ze)(g:SL×SL×SL):Ze:=((cA fr x,cB d x,mdO (cO x) (cG fr d x)),(g.1,mdL (cO x) (cG fr d x) (cX fr d x x.2.1.2)),(g.2.1,mdL (cO x) (cG fr d x) (cX fr d x x.2.2.1.2)),(g.2.2,mdL (cO x) (cG fr d x) (cX fr d x x.2.2.2.2)))
def Ybz(fr d:Int)(ps:List Ze)(k:Nat)(zs:List Ze):Prop:=zs.map Dn=((ps.filter (Li fr d)).take k).map (Zv9 fr d)/\((ps.filter (Li fr d)).take k).all (Zgj fr d)=true
theorem Zn6{α:Type}{xs:List α}{x:α}(h:xs[k]? = some x):xs.take (k+1)=xs.take k ++ [x]:=by rw [jA,h];rfl
theorem cutI_0(fr d:Int)(ps:List Ze):Ybz fr d ps 0 []:=⟨by rw [eX];rfl,by rw [eX];rfl⟩
theorem cutI_s{fr d:Int}{ps:List Ze}{x:Ze}{g:SL×SL×SL}(h:Ybz fr d ps k zs)(e:(ps.filter (Li fr d))[k]? = some x)(j:Zgj fr d x=true):Ybz fr d ps (k+1) (zs ++ [Zu1 fr d x g]):=by
 obtain⟨f,i⟩:=h;refine⟨?_,?_⟩
 .rw [Zn6 e,eE,eE,f];rfl
 .rw [Zn6 e,List.all_append,i];simp [j]
theorem cutI_l{fr d:Int}{ps:List Ze}(h:Ybz fr d ps k zs)(e:k<=ps.length):zs.length<=ps.length:=by have:=aN List.length h.1;rw [aW,aW,aS]at this;have:=gQ (Li fr d) ps;omega
theorem cut_no{fr d:Int}{ps:List Ze}{x:Ze}(f:(ps.filter (Li fr d))[k]? = some x)(e:Zgj fr d x=false):Pp fr d ps=false:=by
 unfold Pp;cases hb:(ps.filter (Li fr d)).all (Zgj fr d)with
 | false=>rfl
 | true=>
  have:=bF.1 hb x (dU f);rw [e]at this;cases this
theorem cutI_e{fr d:Int}{ps:List Ze}(h:Ybz fr d ps (ps.filter (Li fr d)).length zs):zs.map Dn=Cz fr d ps/\Zd5 fr d ps=0:=by obtain⟨f,e⟩:=h;rw [bT]at f e;exact⟨by unfold Cz Pp;rw [aF e];exact f,by unfold Zd5 Pp;rw [aF e]⟩
theorem cut_f{fr d:Int}{ps:List Ze}(h:Pp fr d ps=false):([]:List Ze).map Dn=Cz fr d ps/\Zd5 fr d ps=7:=by unfold Cz Zd5;rw [aD (by rw [h];exact bD),aD (by rw [h];exact bD)];exact⟨rfl,rfl⟩
def spF(ps:List Ze):Int:=(ps.getD 0 G0).1.1
def spL(ps:List Ze):Int:=(ps.getD (ps.length-1) G0).1.2.1
open Go.Proofs.Tryz
open Go.Proofs
set_option synthInstance.maxHeartbeats 0
set_option synthInstance.maxSize 100000
set_option maxRecDepth 20000
set_option linter.unusedSimpArgs false
theorem Ydg{ps:List Ze}{fr i:Int}:Cal prog 257 #[v,.int .i64 fr,.int .i64 i] [Qi 6 Pz qG v ps] true (G:=Nat×Nat×Nat) (λg=>True) (λg=> .func (.func 314) #[] #[.pointer (some ⟨g.1,0,none⟩),.pointer (some ⟨g.2.1,0,none⟩),.pointer (some ⟨g.2.2,0,none⟩)]) (λg=>[Oz g.1 31 #[v],Oz g.2.1 3 #[.int .i64 fr],Oz g.2.2 3 #[.int .i64 i]]):=by refine Zd func257 ntmps257 λw0 n l d=>?_;refine Ztb (Ml 1 J Yf) (λp e=>?_);subst e;refine go 2<|Zz (Zu 2) λj _=>Zz (Zu 3) λf _=>Zz (Zu 4) λh _=>go 5 ?_;refine dt (Zgf [] [_,_,_] J aA K3)<|go 4 ?_;exact Xg (Zce 2 J J)<|Xg (Zce 3 J J)<|Xg (Zce 4 J J)<|Yx d (_,_,_) results257 J aA (Kd 2 (Kd 3 (Kd 4 Za)))
@[reducible,instance] def encGI:EncT prog 137 6 Pz:=⟨pG⟩
theorem Zuw{ps:List Ze}{fr d:Int}(V:∀g∈ps,SgG g)(hM:∀g∈ps,Li fr d g=true->MdG fr d g)(a0:ps.length<=256):Cal prog 185 #[v,.int .i64 fr,.int .i64 d] [Qi 6 Pz qG v ps] true (G:=Value×List Ze) (λg=>g.2.map Dn=Cz fr d ps) (λg=> .tuple #[g.1,.int .i64 (Zd5 fr d ps)]) (λg=>[Qi 6 Pz qG g.1 g.2]):=by
 refine Zdy func185 J ntmps185 J K1 ?_;intro w0 sc M I;have M:=Hw.mk M;simp only [Qf,Yg];refine go 2<|Zz (Zx 2) λu _=>Zz (Zx 3) λe _=>go 8 ?_;refine cl 4 [1] Ydg λ⟨b,F,H⟩ _=>go 3<|Zr (Hb 70 6 137 Pz)<|Zr (On qG 73) ?_;refine e_rfi ([Oz b 31 #[v],Oz F 3 #[.int .i64 fr],Oz H 3 #[.int .i64 d],Qi 6 Pz qG v ps]) w0 (λ(_:Nat) (n:Value×List Ze)=>[(0,Zt w0 (λ_=>False)),(1,Qi 6 Pz qG v ps),(2,box u 31 #[n.1]),(3,box e 26 #[.int .i64 0]),(70,Ol 6 137 Pz n.1 n.2),(73,Hf qG n.2)]) (λk n=>Ybz fr d ps k n.2) (λ(_:Unit)=>[(0,Zt w0 (λ_=>False)),(2,box u 31 #[.slice none 0 0]),(3,box e 26 #[.int .i64 7])]) (λ_=>Pp fr d ps=false) (.slice none 0 0,[]) J (by intro s w;first|exact enters_of func314 O6 rfl s w|exact call314 s w) (Yan v ps b F H fr d V hM) ?_ (λ_ _=>J) J M.h J (cutI_0 fr d ps) K6 (λ_ _=>⟨J,J⟩) (λ_=>⟨J,J⟩) (λk x f n W j l Mf Wa=>?_) J (λn j D od=>?_) (λ_ N=>?_)
 .intro p Z;simp only [aZ,dJ,gF]at Z;rcases Z with rfl|rfl|rfl|rfl
  .exact⟨J,4,J⟩
  .exact⟨J,5,J⟩
  .exact⟨J,6,J⟩
  .exact⟨J,1,J⟩
 .obtain⟨B,zs⟩:=n;have S:k<=ps.length:=aB (eU (cI.1 W).1) (gQ _ _);have a1:zs.length<=ps.length:=cutI_l j S;refine Zbs (env':=[(15,.bool (Zgj fr d x)),(14,.agg #[.int .i64 (cA fr x),.int .i64 (cB d x),.int .i64 (mdO (cO x) (cG fr d x)),Xo f.1,Xo f.2.1,Xo f.2.2]),(6,.pointer (some ⟨u,0,none⟩)),(7,.pointer (some ⟨e,0,none⟩))]) (H':=[(92,Zt Wa Mf),(100,Ys 1 Xf (Xo f.1) (mdL (cO x) (cG fr d x) (cX fr d x x.2.1.2))),(101,Ys 1 Xf (Xo f.2.1) (mdL (cO x) (cG fr d x) (cX fr d x x.2.2.1.2))),(102,Ys 1 Xf (Xo f.2.2) (mdL (cO x) (cG fr d x) (cX fr d x x.2.2.2.2))),(0,Zt w0 (λ_=>False)),(1,Qi 6 Pz qG v ps),(2,box u 31 #[B]),(3,box e 26 #[.int .i64 0]),(70,Ol 6 137 Pz B zs),(73,Hf qG zs)]) (λa w hs=>hs.weaken ⟨J,J,J,J,aA⟩ ⟨J,J,J,J,J,J,J,J,J,J,aA⟩)<|Zpx J<|Zz (Zx 8) λY _=>go 1 ?_;refine go 1 ?_;refine Yjg<|Zpw J<|go 1 ?_;refine go 1 ?_;refine Yjh λa w hs=>⟨J,[(8,.pointer (some ⟨Y,0,none⟩)),(9,.bool (Zgj fr d x)),(6,.pointer (some ⟨u,0,none⟩)),(7,.pointer (some ⟨e,0,none⟩))],[(8,box Y 137 #[.int .i64 (cA fr x),.int .i64 (cB d x),.int .i64 (mdO (cO x) (cG fr d x)),Xo f.1,Xo f.2.1,Xo f.2.2]),(100,Ys 1 Xf (Xo f.1) (mdL (cO x) (cG fr d x) (cX fr d x x.2.1.2))),(101,Ys 1 Xf (Xo f.2.1) (mdL (cO x) (cG fr d x) (cX fr d x x.2.2.1.2))),(102,Ys 1 Xf (Xo f.2.2) (mdL (cO x) (cG fr d x) (cX fr d x x.2.2.2.2))),(0,Zt w0 (λ_=>False)),(1,Qi 6 Pz qG v ps),(2,box u 31 #[B]),(3,box e 26 #[.int .i64 0]),(70,Ol 6 137 Pz B zs),(73,Hf qG zs)],J,(λq h=>by cases h;rfl),⟨.inl J,.inr (λb i=>⟨100,_,J,i⟩),.inr (λb i=>⟨101,_,J,i⟩),.inr (λb i=>⟨102,_,J,i⟩),.inr (λb i=>⟨0,_,J,i⟩),.inr (λb i=>⟨1,_,J,i⟩),.inl J,.inl J,.inl J,.inr (λb i=>⟨73,_,J,i⟩),aA⟩,hs.weaken ⟨J,J,J,J,aA⟩ ⟨J,J,J,J,J,J,J,J,J,J,J,aA⟩,λWb _=>?_⟩;refine Lu<|Qy<|Zpx J<|go 2 ?_;refine go 1 ?_;refine Yjg<|Zcv J (λR=>?_) (λR=>?_)
  .refine Zpx J<|go 2 ?_;refine go 1 ?_;exact Yjg<|Zvx λa w hs=>Or.inr ⟨J,(),cut_no W (Xw R),⟨.inr (λb i=>⟨0,_,J,i⟩),.inl J,.inl J,aA⟩,[],hs.weaken aA ⟨J,J,J,J,aA⟩⟩
  .refine Zpu<|Zpw J<|go 2 ?_;refine tt (Oe [(0,_)] 12 (enc:=Pz) [(Zu1 fr d x f)] J J K2 Zfb ti137 J J Ygp J J pG.cells J J M.h) (λv2 _=>?_);refine tt (Fr 70 12 96 J J J J J J O3 J (Yo pG) Zfb ti137 J pG J J J O9 O3 J M.h) λv3 _=>go 2 ?_;exact Xg (On qC 71)<|Xg (Qs (q:=qC) (z:=(Zu1 fr d x f).2.1) 71 100 71 J J J J J)<|Xg (Qs (q:=qC) (z:=(Zu1 fr d x f).2.2.1) 71 101 71 J J J J J)<|Xg (Qs (q:=qC) (z:=(Zu1 fr d x f).2.2.2) 71 102 71 J J J J J)<|Xg (Qs (q:=qG) (z:=(Zu1 fr d x f)) 73 71 73 J J J J J)<|Yjh λa w hs=>Or.inl ⟨J,(v3,zs ++ [(Zu1 fr d x f)]),cutI_s j W (Qm R),⟨.inr (λb i=>⟨0,_,J,i⟩),.inr (λb i=>⟨1,_,J,i⟩),.inl J,.inl J,.inl J,.inr (Yge 73 100 J J J J),aA⟩,[],hs.weaken aA ⟨J,J,J,J,J,J,J,aA⟩⟩
 .obtain⟨B,zs⟩:=n;obtain⟨P,Q⟩:=cutI_e j;refine go 3 ?_;refine go 1 ?_;refine Yjh λa w hs=>⟨J,[(6,.pointer (some ⟨u,0,none⟩)),(7,.pointer (some ⟨e,0,none⟩))],[(0,Zt w0 (λ_=>False)),(1,Qi 6 Pz qG v ps),(2,box u 31 #[B]),(3,box e 26 #[.int .i64 0]),(70,Ol 6 137 Pz B zs),(73,Hf qG zs)],J,⟨⟨_,J,J,λ_ h=>h⟩,⟨_,J,J,λ_ h=>h⟩,⟨_,J,J,λ_ h=>h⟩,⟨_,J,J,λ_ h=>h⟩,⟨_,J,J,λ_ h=>h⟩,⟨_,J,J,λ_ h=>h⟩,aA⟩,hs.weaken ⟨J,J,aA⟩ ⟨J,J,J,J,J,J,J,aA⟩,?_⟩;exact Xg (Na 70 J J pG)<|Xg (Dz 70 73 72 J J J J)<|Nn I (B,zs) results185 (by rw [Q]) P (Kd 72 Za)
 .exact Xg (Zfi 72 6 Pz qG)<|Nn I (.slice none 0 0,[]) results185 (by rw [(cut_f N).2]) (cut_f N).1 (Kd 72 Za)
open Go.RowKit Below
variable {P:Program} {N:Nat} {sc:Nat->Prop} {env env':Qj} {H H':Hp} {Q Q':Exit->Act->World->Prop} {M:Nat->Prop}
def wcr(l:List Int)(r:List Value):Array Value:=(l.map (Value.int .i64) ++ r).toArray
theorem Zji(l:List Int)(r:List Value):(wcr l r).size=l.length+r.length:=by simp [wcr]
theorem Yjk{l:List Int}{j:Nat}(h:j<l.length):(wcr l r)[j]? = some (.int .i64 (l.getD j 0)):=by simp [wcr,cT,h,aE]
theorem Yjj{l:List Int}{j:Nat}{v:Int}(h:j<l.length):Gq (wcr l r) j [.int .i64 v]=wcr (l.set j v) r:=by
 unfold Gq wcr;congr 1;rw [jW,aF h,eE,cQ,nK,List.map_drop];have d:j<=(l.map (Value.int .i64)).length:=by rw [aW];omega
 have e:j+1<=(l.map (Value.int .i64)).length:=by rw [aW];omega
 simp only [dM,mO,bR];rw [fF d,fZ e];simp
theorem Zwi(l:List Int):cellsOf Xf l=l.map (Value.int .i64):=by
 induction l with
 | nil=>rfl
 | cons x l d=>rw [show cellsOf Xf (x::l)=(Xf x).cells.toList ++ cellsOf Xf l from rfl,d];rfl
theorem f_obox{e:TypeId}(i:Nat)(hi:lk H i=some (Ol 1 e Xf v xs))(z:xs≠[]):∀a w,Sat N sc env H a w->∃y:Nat×Nat×List Value,
  v= .slice (some ⟨y.1,0,none⟩) xs.length y.2.1/\xs.length+y.2.2.length=y.2.1/\y.2.1<=maxLen/\w.heap[y.1]? = some (.cells (wcr xs y.2.2) e (0,0)):=λa w hs=>by
 have l:w.ownsRow 0 e 1 v xs.length (cellsOf Xf xs):=hs.hold i _ hi;rcases l.2 with⟨rfl,s⟩|⟨g,h,d,rfl,B,q,u,n,j,f⟩
 .exact absurd (aG s) z
 .rw [jV]at j f;refine⟨(g,h,d.toList.drop xs.length),rfl,?_,n,?_⟩
  .show xs.length+(d.toList.drop xs.length).length=h;have p:d.toList.length=h:=by rw [eA];exact j
   rw [eH,p];omega
  .show w.heap[g]? = some (.cells (wcr xs (d.toList.drop xs.length)) e (0,0));rw [show wcr xs (d.toList.drop xs.length)=d by unfold wcr;rw [<-Zwi,<-f,fH]]
   exact q
theorem s_obox {e:TypeId}      (i:Nat) (hi:lk H i=some (Ol 1 e Xf (.slice (some ⟨b,0,none⟩) xs.length c) xs)) (d:Nat.beq i 0=false) (f:lk H 0=some (Zt w0 M0)) (j:∀b,w0.heap.size<=b->sc b)
    (hs:Sat N sc env H a w) (g:w.heap[b]? = some (.cells (wcr xs r) e (0,0))):Sat N sc env ((i,box b e (wcr xs r))::H) a w:=
 hs.upd hi rfl (λe=>by subst e;simp at d) (Chg.refl _ w) g (λk h=> .inl (by show some b=some k;rw [show k=b from h])) f j
theorem e_obox {f:Code} {e:TypeId}     (i:Nat) (hi:lk H i=some (Ol 1 e Xf v xs)) (d:Nat.beq i 0=false) (s:xs≠[]) (g:lk H 0=some (Zt w0 M0)) (q:∀b,w0.heap.size<=b->sc b)
  (h:∀(b c:Nat) (r:List Value),v= .slice (some ⟨b,0,none⟩) xs.length c->xs.length+r.length=c->c<=maxLen->E P N sc f Q env ((i,box b e (wcr xs r))::H)):E P N sc f Q env H:=λa w hs=>by
 obtain⟨⟨b,c,r⟩,p,j,l,n⟩:=f_obox i hi s a w hs;subst p;exact h b c r rfl j l a w (s_obox i hi d g q hs n)
theorem Ykk{e:TypeId}(i:Nat)(hi:lk H i=some (box b e (wcr xs r)))(d:Nat.beq i 0=false)(g:xs.length+r.length=c)(l:c<=maxLen)(f:lk H 0=some (Zt w0 M0))(n:∀b,w0.heap.size<=b->sc b) :
  ∀a w,Sat N sc env H a w->Sat N sc env ((i,Ol 1 e Xf (.slice (some ⟨b,0,none⟩) xs.length c) xs)::H) a w:=λa w hs=>by
 have h:w.heap[b]? = some (.cells (wcr xs r) e (0,0)):=hs.hold i _ hi;refine hs.upd hi rfl (λe=>by subst e;simp at d) (Chg.refl _ w) ?_ (λk j=> .inl (by cases j;rfl)) f n;refine⟨by rw [Zwi,aW,jV],.inr ⟨b,c,_,rfl,bI _,h,O,l,by rw [Zji,jV];exact g,?_⟩⟩;rw [Zwi,jV];show((xs.map (Value.int .i64)) ++ r).take xs.length=_;rw [fF (by rw [aW];exact aJ _),cC (by rw [aW];exact aJ _)]
theorem Zad (i:Nat)   {e:TypeId} {n:Nat}   (h:o.op= .indexAddr t x y) (l:ev env x=some (.slice (some ⟨b,off,none⟩) n c)) (p:ev env y=some (.int kd m))
  (j:P.underlying t=some (.slice e)) (g:∀w,(sizeOf e).run P w= .ok 1 w) (d:m=(i:Int)) (f:i<n):Mt P N sc o env H (.pointer (some ⟨b,off+i,none⟩)):=λa w hs=>by
 subst d;simp [execOp,h,hs.ev l,hs.ev p,Instr.indexAt,asIntOf,run_underlying j,g,f,Pw]
theorem Zp2   {e:TypeId} {d:Option Addr} {n:Nat} (f:o.op= .call { callee:= .builtin .len,args:=#[x],argTypes:=#[t] })
  (h:ev env x=some (.slice d n c)) (g:P.underlying t=some (.slice e)):Mt P N sc o env H (.int .i64 (n:Int)):=λa w hs=>by
 simp [execOp,f,resolve,hs.ev h,invoke,builtin,Builtin.len_,run_underlying g,goInt]
def Zcz (i:Nat){j:Nat}{l:List Int}(f:o.op= .load t x)(h:ev env x=some (.pointer (some ⟨b,j,none⟩)))(d:lk H i=some (box b tb (wcr l r)))(g:∀w,(isAgg t).run P w= .ok false w)(e:j<l.length) :
  Mt P N sc o env H (.int .i64 (l.getD j 0)):=Zlp _ f h d g (Yjk e)
theorem Zq6 (i:Nat)    {j:Nat} {l:List Int}  {v:Int}   (q:o.op= .store t x y) (h:o.dst=none)
  (B:ev env x=some (.pointer (some ⟨b,j,none⟩))) (D:ev env y=some (.int .i64 v)) (f:lk H i=some (box b tb (wcr l r))) (d:i≠0) (p:∀w,(sizeOf t).run P w= .ok 1 w) (n:j<l.length)
  (e:lk H 0=some (Zt w0 M0)) (z:∀b,w0.heap.size<=b->sc b) (g:M b) :
  T P N sc M o env H (G:=Unit) (λ_=>True) (λ_=>env) (λ_=>(i,box b tb (wcr (l.set j v) r))::H):=by
 rw [<-Yjj n];exact Zhu [.int .i64 v] q h B D f d rfl p rfl (by rw [Zji];simp;omega) (λu s=>Zl (by rw [bZ.1 s];rfl)) rfl e z g
theorem Yhk (i:Nat)   {e:TypeId} {n:Nat}   (p:o.op= .slice t x (some y) none none) (s:ev env x=some (.slice (some ⟨b,off,none⟩) n c)) (u:ev env y=some (.int kd m))
  (q:P.underlying t=some (.slice e)) (h:∀w,(sizeOf e).run P w= .ok 1 w) (d:m=(i:Int)) (j:i<n) (l:n<=c):Mt P N sc o env H (.slice (some ⟨b,off+i,none⟩) (n-i) (c-i)):=λa w hs=>by
 subst d;have f:i<=n:=O;have g:i<c:=O;simp [execOp,p,hs.ev s,hs.ev u,Instr.sliceAt,Instr.slice,Instr.sliceBounds,Instr.sliceBound,asIntOf,run_underlying q,h,f,g,l,Pw];intro z;omega
theorem d_prew   {e:TypeId} {n i:Nat}   (j:o.op= .slice t x none (some y) none) (p:ev env x=some (.slice (some ⟨b,0,none⟩) n c)) (q:ev env y=some (.int kd m))
  (l:P.underlying t=some (.slice e)) (h:∀w,(sizeOf e).run P w= .ok 1 w) (d:m=(i:Int)) (f:i<=n) (s:n<=c):Mt P N sc o env H (.slice (some ⟨b,0,none⟩) i c):=λa w hs=>by
 subst d;have g:i<=c:=O;simp [execOp,j,hs.ev p,hs.ev q,Instr.sliceAt,Instr.slice,Instr.sliceBounds,Instr.sliceBound,asIntOf,run_underlying l,h,f,g,Pw]
theorem t_clw   {j:TypeId} {i lo n B:Nat} {l:List Int}   
  (V:o.op= .call { callee:= .builtin .clear,args:=#[x],argTypes:=#[t] }) (R:o.dst=none)
  (hx:ev env x=some (.slice (some ⟨b,lo,none⟩) n B))  (p:lk H i=some (box b tb (wcr l r))) (f:i≠0)
  (hn:0<n) (S:lo+n=l.length) (W:P.underlying t=some (.slice j)) (z:∀w,(sizeOf j).run P w= .ok 1 w)
  (hz:∀w,(zeroValue j).run P w= .ok (.int .i64 0) w)
  (D:lk H 0=some (Zt w0 M0)) (Z:∀b,w0.heap.size<=b->sc b) (I:M b) :
  T P N sc M o env H (G:=Unit) (λ_=>True) (λ_=>env) (λ_=>(i,box b tb (wcr (l.take lo) (List.replicate n (Value.int .i64 0) ++ r)))::H):=λa w hs K Q F=>by
 have s:w.heap[b]? = some (.cells (wcr l r) tb (0,0)):=hs.hold i _ p;have h:(Builtin.zeroCells (Value.int .i64 0).cells n).toList=List.replicate n (Value.int .i64 0):=by
  apply gL
  .simp [Builtin.zeroCells,Value.cells]
  .intro i h2 h3;simp [Builtin.zeroCells,Value.cells,mV]
 have d:=run_storeCells_at P b lo tb (List.replicate n (Value.int .i64 0)) 0 (wcr l r) w s (by rw [Zji,aT];omega) (λu Y=>by rw [List.eq_of_mem_replicate Y];rfl);simp only [fR,aT]at d;have e:((wcr l r).toList.take lo ++ List.replicate n (Value.int .i64 0) ++ (wcr l r).toList.drop (lo+n)).toArray=wcr (l.take lo) (List.replicate n (Value.int .i64 0) ++ r):=by unfold wcr;congr 1;show((l.map (Value.int .i64) ++ r).take lo ++ _) ++ (l.map (Value.int .i64) ++ r).drop (lo+n)=_;rw [fF (by rw [aW];omega),fZ (by rw [aW];omega),kE (by rw [aW];omega),nK,iS,dW]
 rw [e]at d;obtain⟨m,rfl⟩:∃m,n=m+1:=⟨n-1,O⟩;have g:(execOp a.eval o).run P w= .ok (.value (.tuple #[])) (w.setRow b (wcr (l.take lo) (List.replicate (m+1) (Value.int .i64 0) ++ r))):=by simp only [execOp,V,resolve,invoke,builtin];simp [hs.ev hx,Builtin.clear_,run_underlying W,hz,h,d]
 unfold Oper.wp;rw [g];show K (a.put o.dst _) _;rw [R];exact F () _ _ aA ((hs.upd p rfl f (q:=box b tb (wcr (l.take lo) (List.replicate (m+1) (Value.int .i64 0) ++ r))) (Hm (M:=λk=>k=b) rfl) (setRow_heap w b _ _ tb _ s) (λk z=> .inl z) D Z).put_none _) (Hm I)
theorem Ykt{fn:Func}(hs:Sat N sc env H a w)(d:fn.results=#[]):(results fn a.tmps).run P w= .ok (.tuple #[]) w:=by simp [results,d]
end Go.Sky
namespace Go.Sky
variable{i m k:Nat}{x b a d ov M x0 x1 x2 x3 G o:Int}{xs p c q:List Int}{r:List Value}{t u:Rat}
def Srt(l:List Int)(n:Nat):Prop:=∀p q,p<q->q<n->l.getD p 0<=l.getD q 0
def Sst(l:List Int)(n:Nat):Prop:=∀p q,p<q->q<n->l.getD p 0<l.getD q 0
def Yi4(l:List Int)(i j:Nat):Prop:=∀p q,p<q->q<=i->q≠j->l.getD p 0<=l.getD q 0
def Sam(l m:List Int):Prop:=m.length=l.length/\∀x,x∈m↔x∈l
def Sam.rfl'(l:List Int):Sam l l:=⟨rfl,λ_=>oP⟩
def Cv{l:List Int}{j:Nat}{v:Int}(hi:i<l.length):(l.set i v).getD j 0=if j=i then v else l.getD j 0:=Zhf hi
def swp(l:List Int)(j:Nat):List Int:=(l.set j (l.getD (j-1) 0)).set (j-1) (l.getD j 0)
theorem Zym(l:List Int)(j:Nat):(swp l j).length=l.length:=by simp [swp]
theorem Za1{l:List Int}{j:Nat}(e:j<l.length)(f:1<=j)(k:Nat):(swp l j).getD k 0=if k=j-1 then l.getD j 0 else if k=j then l.getD (j-1) 0 else l.getD k 0:=by unfold swp;rw [Cv (by rw [bX];omega),Cv e]
theorem Fz{l:List Int} : x∈l↔∃k,k<l.length/\l.getD k 0=x:=by
 constructor
 .intro h;obtain⟨k,f,e⟩:=eD.1 h;exact⟨k,f,by rw [aE,aL f];exact e⟩
 .rintro⟨k,f,rfl⟩;exact Zi f
theorem Zxm{l:List Int}{j:Nat}(f:j<l.length)(g:1<=j):Sam l (swp l j):=⟨Zym l j,λx=>by
 rw [Fz,Fz,Zym];constructor
 .rintro⟨k,h,e⟩;rw [Za1 f g]at e;by_cases a:k=j-1
  .rw [aF a]at e;exact⟨j,f,e⟩
  .rw [aD a]at e;by_cases b:k=j
   .rw [aF b]at e;exact⟨j-1,O,e⟩
   .rw [aD b]at e;exact⟨k,h,e⟩
 .rintro⟨k,h,e⟩;by_cases a:k=j-1
  .exact⟨j,f,by rw [Za1 f g,aD O,aF rfl,<-a];exact e⟩
  .by_cases b:k=j
   .exact⟨j-1,O,by rw [Za1 f g,aF rfl,<-b];exact e⟩
   .exact⟨k,h,by rw [Za1 f g,aD a,aD b];exact e⟩⟩
def Sam.trans{l m n:List Int}(h:Sam l m)(e:Sam m n):Sam l n:=⟨e.1.trans h.1,λx=>(e.2 x).trans (h.2 x)⟩
def srtx_0{l:List Int}(h:Srt l i):Yi4 l i i:=λp q e f g=>h p q e O
theorem Zrc{l:List Int}{j:Nat}(h:Yi4 l i j)(g:j<l.length)(f:1<=j)(v:j<=i)(w:l.getD j 0<l.getD (j-1) 0):Yi4 (swp l j) i (j-1):=λp q n e s=>by
 rw [Za1 g f,Za1 g f,aD s];by_cases a:q=j
 .rw [aF a];by_cases b:p=j-1
  .rw [aF b];omega
  .rw [aD b,aD O];exact h p (j-1) O O O
 .rw [aD a];by_cases b:p=j-1
  .rw [aF b];exact h j q O e a
  .rw [aD b];by_cases c:p=j
   .rw [aF c];exact h (j-1) q O e a
   .rw [aD c];exact h p q n e a
theorem Yc6{l:List Int}{j:Nat}(h:Yi4 l i j)(n:j<=i)(f:j=0\/(1<=j/\¬l.getD j 0<l.getD (j-1) 0)):Srt l (i+1):=λp q e g=>by
 by_cases a:q=j
 .rcases f with b|⟨b,c⟩
  .omega
  .subst a;by_cases d:p=q-1
   .subst d;omega
   .have:=h p (q-1) O O O;omega
 .exact h p q e O a
def srt_1(l:List Int):Srt l 1:=λp q e f=>O
structure Cmp (xs zs:List Int):Prop where
 s:Sst zs zs.length
 m:∀x,x∈zs↔x∈xs
theorem Yc5{l:List Int}{n:Nat}(h:Srt l n)(g:∀q,1<=q->q<n->l.getD q 0≠l.getD (q-1) 0):Sst l n:=λp q j f=>by
 have s:=g q O f;have v:=h (q-1) q O f;rcases nQ (show p<=q-1 by omega)with e|e
 .have:=h p (q-1) e O;omega
 .subst e;omega
def Ym9{l:List Int}(h:Srt l l.length)(e:∀q,1<=q->q<l.length->l.getD q 0≠l.getD (q-1) 0):Cmp l l:=⟨Yc5 h e,λx=>oP⟩
structure Cml (xs l:List Int) (m k:Nat):Prop where
 k1:1<=k
 km:k<m
 ml:m<=xs.length
 ll:l.length=xs.length
 r:∀q,m<=q+1->l.getD q 0=xs.getD q 0
 s:Sst l k
 e:∀x,(∃p,p<k/\l.getD p 0=x)↔∃p,p<m/\xs.getD p 0=x
 z:l.getD (k-1) 0=xs.getD (m-1) 0
theorem cml_0(hs:Srt xs xs.length)(h:∀q,1<=q->q<k->xs.getD q 0≠xs.getD (q-1) 0)(j:1<=k)(l:k<xs.length)(g:xs.getD k 0=xs.getD (k-1) 0):Cml xs xs (k+1) k:=
 ⟨j,O,O,rfl,λq _=>rfl,Yc5 (λp q f e=>hs p q f O) h,λx=>by
  constructor
  .rintro⟨p,f,e⟩;exact⟨p,O,e⟩
  .rintro⟨p,f,e⟩;by_cases a:p=k
   .subst a;exact⟨p-1,O,by rw [<-g];exact e⟩
   .exact⟨p,O,e⟩,by rw [show k+1-1=k by omega];exact g.symm⟩
theorem cml_eq{l:List Int}(h:Cml xs l m k)(w:m<xs.length)(j:l.getD m 0=l.getD (m-1) 0):Cml xs l (m+1) k:=by
 have f:=h.r m O;have g:=h.r (m-1) (by have:=h.k1;have:=h.km;omega);have s:=h.k1;have v:=h.km;refine⟨h.k1,O,w,h.ll,λq y=>h.r q O,h.s,λx=>(h.e x).trans ⟨?_,?_⟩,?_⟩
 .rintro⟨p,n,e⟩;exact⟨p,O,e⟩
 .rintro⟨p,n,e⟩;by_cases a:p=m
  .subst a;exact⟨p-1,O,by rw [<-e,<-f,<-g];exact j.symm⟩
  .exact⟨p,O,e⟩
 .rw [h.z,show m+1-1=m by omega,<-f,<-g];exact j.symm
theorem cml_ne{l:List Int}(hs:Srt xs xs.length)(h:Cml xs l m k)(v:m<xs.length)(F:l.getD m 0≠l.getD (m-1) 0):Cml xs (l.set k (l.getD m 0)) (m+1) (k+1):=by
 have j:=h.r m O;have w:=h.k1;have y:=h.km;have D:=h.r (m-1) O;have z:=h.ll;have e:k<l.length:=O;have B:xs.getD (m-1) 0<xs.getD m 0:=by have:=hs (m-1) m O v;omega
 refine⟨O,O,v,by rw [bX];exact h.ll,λq H=>?_,λp q n f=>?_,λx=>?_,?_⟩
 .rw [Cv e,aD O];exact h.r q O
 .rw [Cv e,Cv e,aD (show p≠k by omega)];by_cases a:q=k
  .rw [aF a,j];have I:=h.z;rcases nQ (show p<=k-1 by omega)with g|g
   .have:=h.s p (k-1) g O;omega
   .subst g;omega
  .rw [aD a];exact h.s p q n O
 .constructor
  .rintro⟨p,n,f⟩;rw [Cv e]at f;by_cases a:p=k
   .rw [aF a,j]at f;exact⟨m,O,f⟩
   .rw [aD a]at f;obtain⟨q,g,s⟩:=(h.e x).1 ⟨p,O,f⟩;exact⟨q,O,s⟩
  .rintro⟨p,n,f⟩;by_cases a:p=m
   .exact⟨k,O,by rw [Cv e,aF rfl,j,<-a];exact f⟩
   .obtain⟨q,g,s⟩:=(h.e x).2 ⟨p,O,f⟩;exact⟨q,O,by rw [Cv e,aD O];exact s⟩
 .rw [show k+1-1=k by omega,Cv e,aF rfl,show m+1-1=m by omega];exact j
theorem Zi0{l:List Int}{p:Nat}(h:p<k):(l.take k).getD p 0=l.getD p 0:=by rw [aE,aE,mA h]
theorem cml_e{l:List Int}(h:Cml xs l xs.length k):Cmp xs (l.take k):=by
 have n:=h.km;have j:=h.ll;have g:(l.take k).length=k:=by rw [aS];omega
 refine⟨λp q f e=>?_,λx=>?_⟩
 .rw [g]at e;rw [Zi0 O,Zi0 e];exact h.s p q f e
 .rw [Fz,Fz,<-h.e x,g];constructor
  .rintro⟨p,f,e⟩;rw [Zi0 f]at e;exact⟨p,f,e⟩
  .rintro⟨p,f,e⟩;exact⟨p,f,by rw [Zi0 f];exact e⟩
def Zk4(x:Int):List Int->List Int
 | []=>[x]
 | y::l=>if x<y then x::y::l else if x=y then y::l else y::Zk4 x l
def Inc:List Int->Prop
 | []=>True
 | x::l=>(∀y∈l,x<y)/\Inc l
theorem Zku{x z:Int} : ∀{l:List Int},z∈Zk4 x l↔z=x\/z∈l
 | []=>by simp [Zk4]
 | y::l=>by
  unfold Zk4;split
  .simp
  .split
   .rename_i h;subst h;simp
   .rw [aZ,Zku,aZ];constructor
    .rintro(h|h|h)
     .exact .inr (.inl h)
     .exact .inl h
     .exact .inr (.inr h)
    .rintro(h|h|h)
     .exact .inr (.inl h)
     .exact .inl h
     .exact .inr (.inr h)
theorem Zsu{x:Int} : ∀{l:List Int},Inc l->Inc (Zk4 x l)
 | [],_=>⟨λy h=>(nomatch h),aA⟩
 | y::l,h=>by
  unfold Zk4;split
  .rename_i f;exact⟨λz e=>by
    rcases aZ.1 e with rfl|e
    .exact f
    .have:=h.1 z e;omega,h⟩
  .split
   .exact h
   .refine⟨λz e=>?_,Zsu h.2⟩;rcases Zku.1 e with rfl|e
    .omega
    .exact h.1 z e
def Zrd(l:List Int):List Int:=l.foldr Zk4 []
def Zk6:∀(l:List Int),Inc (Zrd l)
 | []=>trivial
 | x::l=>Zsu (Zk6 l)
theorem Zkt{z:Int} : ∀{l:List Int},z∈Zrd l↔z∈l
 | []=>oP
 | x::l=>by show z∈Zk4 x (Zrd l)↔_;rw [Zku,Zkt,aZ]
theorem Yfu:∀{l m:List Int},Inc l->Inc m->(∀x,x∈l↔x∈m)->l=m
 | [],[],_,_,_=>rfl
 | [],y::m,_,_,h=>absurd ((h y).2 (cE ..)) (λh=>nomatch h)
 | x::l,[],_,_,h=>absurd ((h x).1 (cE ..)) (λh=>nomatch h)
 | x::l,y::m,hl,hm,h=>by
  have e:x=y:=by
   have j:=(h x).1 (cE ..);have g:=(h y).2 (cE ..);rcases aZ.1 j with f|f
   .exact f
   .rcases aZ.1 g with n|n
    .exact n.symm
    .have:=hm.1 x f;have:=hl.1 y n;omega
  subst e;rw [Yfu hl.2 hm.2 λz=>by
   have j:=h z;rw [aZ,aZ]at j;constructor
   .intro g;rcases j.1 (.inr g)with f|f
    .subst f;have:=hl.1 z g;omega
    .exact f
   .intro g;rcases j.2 (.inr g)with f|f
    .subst f;have:=hm.1 z g;omega
    .exact f]
theorem Zyr:∀{l:List Int},Sst l l.length->Inc l
 | [],_=>trivial
 | x::l,h=>⟨λy e=>by obtain⟨k,j,rfl⟩:=Fz.1 e;exact h 0 (k+1) O O9,Zyr λp q f g=>h (p+1) (q+1) O O9⟩
theorem Yhy{ys zs:List Int}(f:Sam xs ys)(e:Cmp ys zs):zs=Zrd xs:=
 Yfu (Zyr e.s) (Zk6 xs) λx=>by rw [e.m,f.2,Zkt]
theorem Zw9:∀{l:List Int},Inc l->Sst l l.length
 | [],_=>λp q _ h=>absurd h (cK _)
 | x::l,h=>λp q e f=>by
  match p,q,e with
  | 0,q+1,_=>
   show x<l.getD q 0;exact h.1 _ (Zi (by simp at f;omega))
  | p+1,q+1,e=>exact Zw9 h.2 p q O (by simp at f;omega)
def Ylx(j:Nat):j=0\/1<=j:=O
theorem hd_s(h:∀q,1<=q->q<k->xs.getD q 0≠xs.getD (q-1) 0)(f:¬xs.getD k 0=xs.getD (k-1) 0):∀q,1<=q->q<k+1->xs.getD q 0≠xs.getD (q-1) 0:=λq g j=>by
 rcases aC.1 j with e|e
 .exact h q g e
 .subst e;exact f
open Go.Proofs.Tryz
open Go.Proofs
set_option synthInstance.maxHeartbeats 0
set_option synthInstance.maxSize 100000
set_option maxRecDepth 20000
set_option linter.unusedSimpArgs false
theorem Ym8:Xj prog 410 #[.int .i64 x] [] (.bool false):=by refine Zd func410 ntmps410 λj g f e=>go 9 ?_;refine kf (aK (λh=>h J))<|go 4 ?_;exact Yx e () results410 J aA Za
theorem Yh0{y:Int}:Xj prog 392 #[.int .i64 x,.int .i64 y] [] (.bool (decide (x<y))):=by refine Zd func392 ntmps392 λh g f e=>go 8 ?_;refine cl 0 [] Ym8 λ_ _=>go 14 ?_;exact Yx e () results392 J aA Za
theorem Yb4(x:Nat)(f:x<U):Xj prog 370 #[.int .u64 (x:Int)] [] (.int .i64 (bl x:Int)):=by refine Zd func370 ntmps370 λj h g e=>go 12 ?_;refine cl 0 [] (Zt7 f) λ_ _=>go 4 ?_;exact Yx e () results370 J aA Za
theorem sl_ins{b c:Nat}(Q:1<=xs.length)(S:xs.length<=12):Zda prog 386 #[.slice (some ⟨b,0,none⟩) xs.length c,.int .i64 0,.int .i64 (xs.length:Int)] [] false b 3 (wcr xs r) (G:=List Int) (λg=>Sam xs g/\Srt g g.length) (λg=> .tuple #[]) (λg=>wcr g r) (λg=>[]):=by
 refine El func386 J ntmps386 J aA ?_;intro W V s P;have s:=Hw.mk s;simp only [Qf,Yg];refine go 8 ⟨O,?_⟩;refine lp (G:=Nat×List Int) [0,1,2] [0] (λq=>[(6,.int .i64 (q.1:Int))]) (λq=>[(1,box b 3 (wcr q.2 r))]) (λq=>(1<=q.1)/\(q.1<=xs.length)/\(Sam xs q.2)/\(Srt q.2 q.1)) (λq=>xs.length-q.1) (1,xs) ⟨O1,O1,Sam.rfl' xs,srt_1 xs⟩ K1 K1 ?_;rintro⟨i,l⟩ ⟨H,I,B,hs⟩;dsimp only at H I B hs;dsimp only;have N:=B.1;refine go 8<|Zc J (λD=>?_) (λD=>?_)
 .refine go 11 ?_;refine lp (G:=Nat×List Int) [0,1,2,6] [0] (λq=>[(7,.int .i64 (q.1:Int))]) (λq=>[(1,box b 3 (wcr q.2 r))]) (λq=>(q.1<=i)/\(Sam xs q.2)/\(Yi4 q.2 i q.1)) (λq=>q.1) (i,l) ⟨aJ _,B,srtx_0 hs⟩ K1 K1 ?_;rintro⟨j,m⟩ ⟨v,e,z⟩;dsimp only at v e z;dsimp only;have R:=e.1;refine go 2 ?_;rcases Ylx j with f|f
  .refine Pd (λ_=>False) [(0,0),(1,0),(2,0),(3,0),(4,2),(5,2),(6,2),(7,2),(8,2),(9,2),(10,2),(11,2),(12,2),(13,2),(14,0)]<|go 2 ?_;refine Qb J J (Pq (dF (Zts J J J) (vB (aK O))))<|go 26 ⟨O,?_⟩;exact Yl (i+1,m) ⟨O1,O1,e,Yc6 z v (.inl f)⟩ O1 K1 K1
  .refine Pd (λ_=>False) [(0,0),(1,0),(2,0),(3,0),(4,0),(5,0),(6,0),(7,0),(8,0),(9,0),(10,0),(11,0),(12,0),(13,1),(14,0)]<|go 2 ?_;refine Qb J J (Pq (dT (Zts J J J) (vB (aI O))))<|go 3 ?_;refine r0g (Pq (Yv ( .pointer (some ⟨b,j,none⟩)) (Zad j J J J Le Dx O O) (by rw [bR]))) J J J J J<|r0g (Pq (Yv ( .int .i64 (m.getD j 0)) (Zcz 1 J J J iA3 O) (aN (λq=>Value.int .i64 (m.getD q 0)) O))) J J J J J<|go 3 ⟨O,?_⟩;refine r0g (Pq (Yv ( .pointer (some ⟨b,j-1,none⟩)) (Zad (j-1) J J J Le Dx O O) (by rw [bR]))) J J J J J<|r0g (Pq (Yv ( .int .i64 (m.getD (j-1) 0)) (Zcz 1 J J J iA3 O) (aN (λq=>Value.int .i64 (m.getD q 0)) O))) J J J J J<|Af J J J J J (Oj 1 Yh0 J J J K2 call392 Zs J s.h) λ_ _=>go 3 ?_;refine Zc J (λn=>?_) (λn=>?_)
   .have y:=n;refine go 4<|Ng [] [17] ?_;refine Zw 6 [(0,0),(1,0),(2,0),(3,0),(4,0),(5,0),(6,0),(7,0),(8,0),(10,0),(11,0),(12,0)]<|go 8 ⟨O,O,?_⟩;refine Qb J J (Ft (Yv ( .pointer (some ⟨b,j-1,none⟩)) (Zad (j-1) J J J Le Dx O O) (by rw [bR])) aA)<|go 2 ?_;refine Qb J J (Ft (Yv ( .pointer (some ⟨b,j,none⟩)) (Zad j J J J Le Dx O O) (by rw [bR])) aA)<|go 1 ?_;refine Nm 5 9 13 ?_ ?_
    .refine Zaf J J (Ak (Yv ( .int .i64 (m.getD (j-1) 0)) (Zcz 1 J J J iA3 O) (aN (λq=>Value.int .i64 (m.getD q 0)) O)) J) (λ_ _=>?_);refine Zw 0 [(13,1),(14,0),(15,1),(16,0),(17,3)]<|Bm J (Ak (Yv ( .int .i64 (m.getD j 0)) (Zcz 1 J J J iA3 O) (aN (λq=>Value.int .i64 (m.getD q 0)) O)) J) (λ_ _=>?_);refine Qb J J (Ft (Yv ( .pointer (some ⟨b,j,none⟩)) (Zad j J J J Le Dx O O) (by rw [bR])) aA)<|Bm J (Zq6 1 J J J J J O3 Dx O J s.h (λ_ h=>nomatch h)) (λ_ _=>?_);refine Qb J J (Ft (Yv ( .pointer (some ⟨b,j-1,none⟩)) (Zad (j-1) J J J Le Dx O O) (by rw [bR])) aA)<|r3' J (Zq6 1 J J J J J O3 Dx (by rw [bX];omega) J s.h aA) λ_ _=>go 1 ?_;refine Yq<|go 7 ⟨O,?_⟩;exact Yl (j-1,swp m j) ⟨O1,e.trans (Zxm O O),Zrc z O f v y⟩ O1 ⟨(aN (λq:Int=>some (Value.int .i64 q)) (show(j:Int)-1=((j-1:Nat):Int) by omega)),aA⟩ K1
    .refine Zaf J J (Ak (Yv ( .int .i64 (m.getD j 0)) (Zcz 1 J J J iA3 O) (aN (λq=>Value.int .i64 (m.getD q 0)) O)) J) (λ_ _=>?_);refine Zw 0 [(9,1),(14,0),(15,1),(16,0),(17,3)]<|Bm J (Ak (Yv ( .int .i64 (m.getD (j-1) 0)) (Zcz 1 J J J iA3 O) (aN (λq=>Value.int .i64 (m.getD q 0)) O)) J) (λ_ _=>?_);refine Qb J J (Ft (Yv ( .pointer (some ⟨b,j,none⟩)) (Zad j J J J Le Dx O O) (by rw [bR])) aA)<|Bm J (Zq6 1 J J J J J O3 Dx O J s.h (λ_ h=>nomatch h)) (λ_ _=>?_);refine Qb J J (Ft (Yv ( .pointer (some ⟨b,j-1,none⟩)) (Zad (j-1) J J J Le Dx O O) (by rw [bR])) aA)<|r3' J (Zq6 1 J J J J J O3 Dx (by rw [bX];omega) J s.h aA) λ_ _=>go 1 ?_;refine Yq<|go 7 ⟨O,?_⟩;exact Yl (j-1,swp m j) ⟨O1,e.trans (Zxm O O),Zrc z O f v y⟩ O1 ⟨(aN (λq:Int=>some (Value.int .i64 q)) (show(j:Int)-1=((j-1:Nat):Int) by omega)),aA⟩ K1
   .have F:=n;refine go 11 ⟨O,?_⟩;exact Yl (i+1,m) ⟨O1,O1,e,Yc6 z v (.inr ⟨f,F⟩)⟩ O1 K1 K1
 .obtain rfl:i=xs.length:=O;refine go 4 ?_;exact Ez (.inr J) P l (λa w hs=>Ykt hs results386) J ⟨B,by rw [N];exact hs⟩ 1 J J J J Za
theorem sl_pdq{b c:Nat}{l:Int}(f:1<=xs.length)(s:xs.length<=12):Zda prog 369 #[.slice (some ⟨b,0,none⟩) xs.length c,.int .i64 0,.int .i64 (xs.length:Int),.int .i64 l] [] false b 3 (wcr xs r) (G:=List Int) (λg=>Sam xs g/\Srt g g.length) (λg=> .tuple #[]) (λg=>wcr g r) (λg=>[]):=by refine El func369 J ntmps369 J aA ?_;intro y v j h;have j:=Hw.mk j;simp only [Qf,Yg];refine go 11 ?_;refine lp (G:=Nat) [0] [0,1] (λk=>[(1,.int .i64 0),(2,.int .i64 (xs.length:Int))]) (λk=>[]) (λk=>True) (λk=>k) 0 aA K2 aA ?_;rintro k -;refine go 13 ⟨O,?_⟩;refine kt (aI O)<|go 8 ?_;refine tt (Qn 1 1 (sl_ins f s) J J J K3 call386 J O3 Zs J j.h aA) λn e=>go 7 ?_;exact Ez (.inl J) h n (λa w hs=>Ykt hs results369) J e 1 J J J J Za
theorem Yj8{b c:Nat}(f:1<=xs.length)(n:xs.length<=12):Zda prog 347 #[.slice (some ⟨b,0,none⟩) xs.length c] [] false b 3 (wcr xs r) (G:=List Int) (λg=>Sam xs g/\Srt g g.length) (λg=> .tuple #[]) (λg=>wcr g r) (λg=>[]):=by refine El func347 J ntmps347 J aA ?_;intro v s j h;have j:=Hw.mk j;simp only [Qf,Yg];refine go 3 ?_;refine dt (Zp2 J J Le)<|go 7 ?_;refine dt (Yv ( .int .u64 (xs.length:Int)) (Zv7 J J uT3 underlying319 (by simp only [U];omega)) J)<|cl 1 [] (Yb4 xs.length (by simp only [U];omega)) λ_ _=>?_;refine tt (Qn 1 1 (sl_pdq f n) J J J K4 call369 J O3 Zs J j.h aA) λl e=>go 1 ?_;exact Ez (.inr J) h l (λa w hs=>Ykt hs results347) J e 1 J J J J Za
theorem sl_cmp{b c:Nat}(Z:2<=xs.length)(hl:xs.length<=12)(a0:xs.length<=c)(s:Srt xs xs.length):Zda prog 348 #[.slice (some ⟨b,0,none⟩) xs.length c] [] false b 3 (wcr xs r) (G:=List Int×List Value) (λg=>Cmp xs g.1/\g.1.length+g.2.length=xs.length+r.length) (λg=> .slice (some ⟨b,0,none⟩) g.1.length c) (λg=>wcr g.1 g.2) (λg=>[]):=by
 refine El func348 J ntmps348 J aA ?_;intro w0 sc B z;have B:=Hw.mk B;simp only [Qf,Yg];refine go 9 ?_;refine dt (Zp2 J J Le)<|kf (aK O)<|go 12 ?_;refine lp (G:=Nat) [0] [0,1] (λk=>[(3,.int .i64 (k:Int))]) (λk=>[]) (λk=>(1<=k)/\(k<=xs.length)/\(∀q,1<=q->q<k->xs.getD q 0≠xs.getD (q-1) 0)) (λk=>xs.length-k) 1 ⟨O1,O1,λq P Q=>absurd Q O⟩ K1 aA ?_;rintro k ⟨H,S,D⟩;refine go 5 ?_;refine dt (Zp2 J J Le)<|go 3 ?_;refine Zc J (λv=>?_) (λv=>?_)
 .refine go 5<|Pd (λ_=>False) [(0,0),(1,0),(2,0),(3,0),(4,0),(5,0),(6,0),(7,0),(8,0),(9,0)]<|go 2 ?_;refine Qb J J (Pq (Yv ( .pointer (some ⟨b,k,none⟩)) (Zad k J J J Le Dx O O) (by rw [bR])))<|Qb J J (Pq (Yv ( .int .i64 (xs.getD k 0)) (Zcz 1 J J J iA3 O) (aN (λq=>Value.int .i64 (xs.getD q 0)) O)))<|go 3 ⟨O,?_⟩;refine Qb J J (Pq (Yv ( .pointer (some ⟨b,k-1,none⟩)) (Zad (k-1) J J J Le Dx O O) (by rw [bR])))<|Qb J J (Pq (Yv ( .int .i64 (xs.getD (k-1) 0)) (Zcz 1 J J J iA3 O) (aN (λq=>Value.int .i64 (xs.getD q 0)) O)))<|go 3 ?_;refine Zc J (λe=>?_) (λe=>?_)
  .have R:=e;refine go 4 ?_;refine dt (Yv ( .slice (some ⟨b,k,none⟩) (xs.length-k) (c-k)) (Yhk k J J J Le Dx J O O) (by rw [bR]))<|go 10 ?_;refine lp (G:=Nat×Nat×List Int) [0,4] [0] (λq=>[(5,.int .i64 (q.1:Int)),(3,.int .i64 (q.2.1:Int))]) (λq=>[(1,box b 3 (wcr q.2.2 r))]) (λq=>(1<=q.1)/\(Cml xs q.2.2 (k+q.1) q.2.1)) (λq=>xs.length-k-q.1) (1,k,xs) ⟨O1,cml_0 s D H O R⟩ K2 K1 ?_;rintro⟨j,kk,l⟩ ⟨F,h⟩;dsimp only at F h;dsimp only;have a1:=h.ll;have V:=h.k1;have W:=h.km;have Y:=h.ml;refine go 5 ?_;refine dt (Zp2 J J Le)<|go 3 ?_;refine Zc J (λy=>?_) (λy=>?_)
   .refine go 5<|Pd (λ_=>False) [(0,0),(1,0),(2,0),(3,0),(4,0),(5,0),(6,0),(7,0),(8,0),(9,0)]<|go 2 ?_;refine Qb J J (Pq (Zad j J J J Le Dx O O))<|Qb J J (Pq (Yv ( .int .i64 (l.getD (k+j) 0)) (Zcz 1 J J J iA3 O) (aN (λq=>Value.int .i64 (l.getD q 0)) O)))<|go 3 ⟨O,?_⟩;refine Qb J J (Pq (Zad (j-1) J J J Le Dx O O))<|Qb J J (Pq (Yv ( .int .i64 (l.getD (k+j-1) 0)) (Zcz 1 J J J iA3 O) (aN (λq=>Value.int .i64 (l.getD q 0)) O)))<|go 3 ?_;refine Zc J (λf=>?_) (λf=>?_)
    .have n:=f;refine go 6 ?_;refine dt (Zad j J J J Le Dx O O)<|dt (Yv ( .int .i64 (l.getD (k+j) 0)) (Zcz 1 J J J iA3 O) (aN (λq=>Value.int .i64 (l.getD q 0)) O))<|dt (Yv ( .pointer (some ⟨b,kk,none⟩)) (Zad kk J J J Le Dx J O) (by rw [bR]))<|tt (Zq6 1 J J J J J O3 Dx O J B.h aA) (λ_ _=>?_);refine go 14 ⟨O,O,?_⟩;exact Yl (j+1,kk+1,l.set kk (l.getD (k+j) 0)) ⟨O1,cml_ne (m:=k+j) s h O n⟩ O1 K2 K1
    .have n:=f;refine go 8 ⟨O,?_⟩;exact Yl (j+1,kk,l) ⟨O1,cml_eq (m:=k+j) h O (iD.1 n)⟩ O1 K2 K1
   .obtain I:k+j=xs.length:=O;rw [I]at h;refine go 9 ?_;refine dt (Yv ( .slice (some ⟨b,kk,none⟩) (xs.length-kk) (c-kk)) (Yhk kk J J J Le Dx J O O) (by rw [bR]))<|tt (t_clw (i:=1) J J J J O3 O O Le Dx (λw=>zeroValue3 w) J B.h aA) λ_ _=>go 6 ?_;refine dt (d_prew (i:=kk) J J J Le Dx J O O)<|go 9 ?_;exact Ez (.inl J) z (l.take kk,List.replicate (xs.length-kk) (.int .i64 0) ++ r) (λa w hs=>Fc hs results348 J) (by rw [aS,dY O]) ⟨cml_e h,O9⟩ 1 J J J J Za
  .have N:=e;refine go 8 ⟨O,?_⟩;exact Yl (k+1) ⟨O1,O1,hd_s D N⟩ O1 K1 aA
 .refine go 12 ?_;exact Ez (.inl J) z (xs,r) (λa w hs=>Fc hs results348 J) J ⟨Ym9 s (λq P Q=>D q P O),J⟩ 1 J J J J Za
def Hr(f:Nat->Rat):Nat->Rat
 | 0=>0
 | n+1=>Hr f n+f n
def Nq(f:Nat->Rat)(n:Nat):Hr f (n+1)=Hr f n+f n:=rfl
theorem Mo{f g:Nat->Rat} : ∀n,(∀i,i<n->f i=g i)->Hr f n=Hr g n
 | 0,_=>rfl
 | n+1,h=>by rw [Nq,Nq,Mo n λi hi=>h i O,h n O]
theorem Dc(f:Nat->Rat):∀n,Hr f (n+1)=f 0+Hr (λi=>f (i+1)) n
 | 0=>by show 0+f 0=f 0+0;grind
 | n+1=>by rw [Nq,Dc f n,Nq];grind
theorem Zka(f g:Nat->Rat):∀n,Hr (λi=>f i+g i) n=Hr f n+Hr g n
 | 0=>by show(0:Rat)=0+0;grind
 | n+1=>by rw [Nq,Nq,Nq,Zka f g n];grind
theorem Fw(c:Rat)(f:Nat->Rat):∀n,Hr (λi=>c*f i) n=c*Hr f n
 | 0=>by show(0:Rat)=c*0;grind
 | n+1=>by rw [Nq,Nq,Fw c f n];grind
theorem Zlu(n:Nat):Px n 0=1:=by cases n<;>rfl
def chz_s(n k:Nat):Px (n+1) (k+1)=Px n k+Px n (k+1):=rfl
theorem Yig{u w:Rat}(h:u+w=1):∀n,Hr (λj=>(Px n j:Rat)*(u^j*w^(n-j))) (n+1)=1
 | 0=>by rw [Dc];show((Px 0 0:Nat):Rat)*(u^0*w^0)+0=1;rw [Zlu,eO,eO];push_cast;grind
 | n+1=>by
  have e:=Yig h n;rw [Dc];have f:Hr (λi=>(Px (n+1) (i+1):Rat)*(u^(i+1)*w^(n+1-(i+1)))) (n+1)=Hr (λi=>u*((Px n i:Rat)*(u^i*w^(n-i)))) (n+1)+Hr (λi=>(Px n (i+1):Rat)*(u^(i+1)*w^(n-i))) (n+1):=by rw [<-Zka];refine Mo _ λi hi=>?_;rw [chz_s,show n+1-(i+1)=n-i by omega,dX];push_cast;grind
  have g:Hr (λi=>(Px n (i+1):Rat)*(u^(i+1)*w^(n-i))) (n+1)=Hr (λi=>(Px n (i+1):Rat)*(u^(i+1)*w^(n-i))) n:=by rw [Nq,Zlt n (n+1) O];push_cast;grind
  have l:w*Hr (λj=>(Px n j:Rat)*(u^j*w^(n-j))) (n+1)=w^(n+1)+Hr (λi=>(Px n (i+1):Rat)*(u^(i+1)*w^(n-i))) n:=by
   rw [<-Fw,Dc,Zlu];congr 1
   .rw [iM,eO,dX];push_cast;grind
   .refine Mo _ λi hi=>?_;rw [show n-i=(n-(i+1))+1 by omega,dX w];grind
  rw [f,g,Fw,e];rw [e]at l;rw [Zlu,eO,iM];push_cast;grind
def Iu(d:Nat)(c:List Int)(j:Nat):Int:=Yb (λi=>cf c i*(Px (d-i) (j-i):Int)) (j+1)
theorem brS_0(d:Nat)(a:Int)(c:List Int):Iu d (a::c) 0=a:=by unfold Iu;rw [Yk,Hl];show 0+a*((Px (d-0) (0-0):Nat):Int)=a;rw [show 0-0=0 from rfl,Zlu];omega
theorem brS_s(d:Nat)(a:Int)(c:List Int)(j:Nat):Iu (d+1) (a::c) (j+1)=a*(Px (d+1) (j+1):Int)+Iu d c j:=by unfold Iu;rw [Mz];congr 1;refine Yy λi hi=>?_;rw [show d+1-(i+1)=d-i by omega,show j+1-(i+1)=j-i by omega];rfl
theorem Ynm(d j:Nat):Iu d [] j=0:=by unfold Iu;exact(Zgy (m:=0) (bI _) λi _ _=>by rw [show cf [] i=0 from rfl,dC]).trans (Hl _)
theorem bern{u w:Rat}(h:u+w=1):∀(d:Nat) (c:List Int),c.length<=d+1->Hr (λj=>(Iu d c j:Rat)*(u^j*w^(d-j))) (d+1)=Zb c u
 | d,[],_=>by
  rw [Mo (g:=λ_=>0) (d+1) λi hi=>by rw [Ynm];push_cast;grind];show Hr (λ_=>0) (d+1)=0;have:∀n,Hr (λ_=>0) n=0:=λn=>by
   induction n with
   | zero=>rfl
   | succ n f=>rw [Nq,f];grind
  exact this _
 | 0,[a],_=>by rw [Nq,brS_0];show 0+(a:Rat)*(u^0*w^0)=(a:Rat)+u*0;rw [eO,eO];grind
 | 0,a::b::c,hl=>by simp at hl
 | d+1,a::c,hl=>by
  have f:=bern h d c (by simpa using hl);have e:=Yig h (d+1);rw [Dc]at e;rw [Dc,brS_0];have l:Hr (λi=>(Iu (d+1) (a::c) (i+1):Rat)*(u^(i+1)*w^(d+1-(i+1)))) (d+1)=(a:Rat)*Hr (λi=>(Px (d+1) (i+1):Rat)*(u^(i+1)*w^(d+1-(i+1)))) (d+1)+u*Hr (λj=>(Iu d c j:Rat)*(u^j*w^(d-j))) (d+1):=by rw [<-Fw,<-Fw,<-Zka];refine Mo _ λi hi=>?_;rw [brS_s,show d+1-(i+1)=d-i by omega,dX];push_cast;grind
  rw [l,f];show _=(a:Rat)+u*Zb c u;rw [Zlu]at e;push_cast at e ⊢;grind
theorem Dt(a:Int):∀(c:List Int) (i:Nat),cf (c.map λx=>a*x) i=a*cf c i
 | [],i=>by rw [iQ,show cf [] i=0 from rfl,eC]
 | x::c,0=>rfl
 | x::c,i+1=>Dt a c i
theorem Zu7(c:List Int)(a b e:Int)(u:Rat):Zb (mk (c.length+1) λt=>cf c t*a+(if t=0 then e else cf c (t-1)*b)) u=Zb c u*((a:Rat)+(b:Rat)*u)+(e:Rat):=by
 have h:Zb (mk (c.length+1) λt=>cf c t*a+(if t=0 then e else cf c (t-1)*b)) u=Zb (Mb (c.map λx=>a*x) (e::c.map λx=>b*x)) u:=Nd u _ _ λi=>by
  rw [My,Dt,Lv]
  match i with
  | 0=>rw [aF O,aF rfl];show cf c 0*a+e=a*cf c 0+e;rw [dV]
  | i+1=>
   show _=a*cf c (i+1)+cf (c.map λx=>b*x) i;rw [Dt];by_cases hi:i<c.length
   .rw [aF O,aD O,fN,dV,dV (cf c i)]
   .rw [aD O,Yn (p:=c) (i:=i+1) O,Yn (p:=c) (i:=i) O];omega
 rw [h,Xd,Zg];show _+((e:Rat)+u*Zb (c.map λx=>b*x) u)=_;rw [Zg];grind
theorem Zrv(p:List Int)(a b d:Int){t u:Rat}(f:t*(d:Rat)=(a:Rat)+(b:Rat)*u):∀j,j+1<=p.length->Zb (Mx p a b d j) u=(d:Rat)^j*Zb (p.drop (p.length-1-j)) t
 | 0,h=>by
  have e:p.drop (p.length-1-0)=[cf p (p.length-1)]:=by rw [iM,eG O,iP O];congr 1;unfold cf;rw [aE,aL O];rfl
  rw [Dj,e,eO,Ph,Ph];grind
 | j+1,h=>by
  have g:=Zrv p a b d f j O;have e:p.drop (p.length-1-(j+1))=cf p (p.length-2-j)::p.drop (p.length-1-j):=by rw [eG O,show p.length-1-(j+1)+1=p.length-1-j by omega];congr 1;unfold cf;rw [aE,aL O];show p[p.length-1-(j+1)]=p[p.length-2-j];congr 1;omega
  rw [Yb1,Zu7,g,e,<-f];show _=(d:Rat)^(j+1)*((cf p (p.length-2-j):Rat)+t*Zb (p.drop (p.length-1-j)) t);rw [dX];push_cast;rw [dX];generalize (d:Rat)^j=D;grind
theorem Zj8(a b d:Int)(f:t*(d:Rat)=(a:Rat)+(b:Rat)*u)(e:p.length≠0):Zb (Ks p a b d) u=(d:Rat)^(p.length-1)*Zb p t:=by unfold Ks;rw [aD e,Nd u (tzl _) _ (λi=>Ij _ i),Zrv p a b d f (p.length-1) O,lB,lM]
def Yhj:List Int->List Int
 | []=>[]
 | a::p=>a::0::Yhj p
theorem Zoi(x:Rat):∀p:List Int,Zb (Yhj p) x=Zb p (x*x)
 | []=>rfl
 | a::p=>by show(a:Rat)+x*(((0:Int):Rat)+x*Zb (Yhj p) x)=(a:Rat)+x*x*Zb p (x*x);rw [Zoi x p];push_cast;grind
theorem Zwh:∀(p:List Int) (i:Nat),cf (Yhj p) (2*i)=cf p i
 | [],i=>rfl
 | a::p,0=>rfl
 | a::p,i+1=>by show cf (0::Yhj p) (2*i+1)=cf p i;exact Zwh p i
theorem sq_nn(x:Rat):0<=x*x:=by
 rcases(show 0<=x\/x<=0 by grind)with h|h
 .exact aM h h
 .have:=aM (show 0<=-x by grind) (show 0<=-x by grind);grind
theorem Zru(h:∀x:Rat,0<=x->Zb p x=Zb q x)(i:Nat):cf p i=cf q i:=by rw [<-Zwh p,<-Zwh q];exact Mi (λx=>by rw [Zoi,Zoi];exact h _ (sq_nn x)) _
theorem Ziu(f:Nat->Int)(x:Rat):∀n,Zb (mk n f) x=Hr (λj=>(f j:Rat)*x^j) n
 | 0=>rfl
 | n+1=>by rw [Yli,Zrt,Ziu f x n,Yt,Nq]
def NN(p:List Int):Prop:=∀i,0<=cf p i
theorem NN.smul{c:Int}(e:0<=c)(h:NN p):NN (p.map λa=>c*a):=λi=>by rw [Dt];exact dS e (h i)
theorem NN.add(e:NN p)(f:NN q):NN (Mb p q):=λi=>by rw [My];exact Int.add_nonneg (e i) (f i)
theorem NN.lmul{q:List Int}(e:NN q):∀{p:List Int},NN p->NN (lmul p q)
 | [],_=>λi=>by show 0<=cf [] i;rw [show cf [] i=0 from rfl];exact fE _
 | c::p,h=>NN.add (NN.smul (h 0) e) λi=>by
  match i with
  | 0=>exact fE _
  | i+1=>exact NN.lmul e (p:=p) (λj=>h (j+1)) i
def lpw(l:List Int):Nat->List Int
 | 0=>[1]
 | k+1=>lmul l (lpw l k)
theorem Zof(l:List Int)(x:Rat):∀k,Zb (lpw l k) x=Zb l x^k
 | 0=>by rw [eO];show((1:Int):Rat)+x*0=1;push_cast;grind
 | k+1=>by rw [show lpw l (k+1)=lmul l (lpw l k)from rfl,Zp,Zof l x k,dX,kF]
theorem NN.lpw{l:List Int}(h:NN l):∀k,NN (lpw l k)
 | 0=>λi=>by
  show 0<=cf [1] i
  match i with
  | 0=>exact Int.one_nonneg
  | i+1=>exact fE _
 | k+1=>NN.lmul (NN.lpw h k) h
theorem NN.two(e:0<=a)(f:0<=b):NN [a,b]:=λi=>by
 match i with
 | 0=>exact e
 | 1=>exact f
 | i+2=>exact fE _
def sQ(f:Nat->Int)(W:Nat->List Int):Nat->List Int
 | 0=>[]
 | k+1=>Mb (sQ f W k) ((W k).map λa=>f k*a)
theorem Zu5(f:Nat->Int)(W:Nat->List Int)(x:Rat):∀k,Zb (sQ f W k) x=Hr (λi=>(f i:Rat)*Zb (W i) x) k
 | 0=>rfl
 | k+1=>by rw [show sQ f W (k+1)=Mb (sQ f W k) ((W k).map λa=>f k*a)from rfl,Xd,Zu5 f W x k,Zg,Nq]
theorem sQ_le{f g:Nat->Int}{W:Nat->List Int}{B:Int}(l:∀i,NN (W i)):∀k,(∀i,i<k->((f i).natAbs:Int)<=B*g i)->∀j,((cf (sQ f W k) j).natAbs:Int)<=B*cf (sQ g W k) j
 | 0,_,j=>by show((cf [] j).natAbs:Int)<=B*cf [] j;rw [show cf [] j=0 from rfl];simp
 | k+1,h,j=>by
  have y:=sQ_le l k (λi hi=>h i O) j;have n:=h k O;show((cf (Mb (sQ f W k) ((W k).map λa=>f k*a)) j).natAbs:Int)<=B*cf (Mb (sQ g W k) ((W k).map λa=>g k*a)) j;rw [My,My,Dt,Dt,kN,<-eZ];have v:=l k j;have w:((f k*cf (W k) j).natAbs:Int)<=B*g k*cf (W k) j:=by rw [cH];push_cast;have e:((cf (W k) j).natAbs:Int)=cf (W k) j:=O;rw [e];exact fD n v
  generalize B*g k*cf (W k) j=t at *;generalize f k*cf (W k) j=s at *;generalize B*cf (sQ g W k) j=r at *;omega
theorem Zkp(a b:Rat):∀n:Nat,(a*b)^n=a^n*b^n
 | 0=>by rw [eO,eO,eO];grind
 | n+1=>by rw [dX,dX,dX,Zkp a b n];grind
theorem Yaa(a:Rat)(m:Nat):∀n:Nat,a^(m+n)=a^m*a^n
 | 0=>by rw [fR,eO];grind
 | n+1=>by rw [<-fX,dX,dX,Yaa a m n];grind
theorem Yih{U V S:Rat}(h:U+V=S)(n:S≠0){d:Nat}(l:c.length<=d+1):Hr (λj=>(Iu d c j:Rat)*(U^j*V^(d-j))) (d+1)=S^d*Zb c (U/S):=by
 rw [<-bern (u:=U/S) (w:=V/S) (by rw [<-h];grind) d c l,<-Fw];refine Mo _ λj s=>?_;have e:U^j=S^j*(U/S)^j:=by rw [<-Zkp];congr 1;grind
 have f:V^(d-j)=S^(d-j)*(V/S)^(d-j):=by rw [<-Zkp];congr 1;grind
 have g:S^d=S^j*S^(d-j):=by rw [<-Yaa];congr 1;omega
 rw [e,f,g];grind
theorem Zz4{U V S:Rat}(h:U+V=S)(l:S≠0)(d:Nat):Hr (λj=>(Px d j:Rat)*(U^j*V^(d-j))) (d+1)=S^d:=by
 have:=Yig (u:=U/S) (w:=V/S) (by rw [<-h];grind) d;rw [<-Rat.mul_one (S^d),<-this,<-Fw];refine Mo _ λj n=>?_;have e:U^j=S^j*(U/S)^j:=by rw [<-Zkp];congr 1;grind
 have f:V^(d-j)=S^(d-j)*(V/S)^(d-j):=by rw [<-Zkp];congr 1;grind
 have g:S^d=S^j*S^(d-j):=by rw [<-Yaa];congr 1;omega
 rw [e,f,g];grind
theorem Zxr(a b:Int)(x:Rat):Zb [a,b] x=(a:Rat)+(b:Rat)*x:=by show(a:Rat)+x*((b:Rat)+x*0)=_;grind
theorem onepw(n:Nat):(1:Rat)^n=1:=by
 induction n with
 | zero=>rw [eO]
 | succ n e=>rw [dX,e];grind
theorem Zc6(d:Int)(n:Nat):((d^n:Int):Rat)=(d:Rat)^n:=by
 induction n with
 | zero=>rw [dD,eO];rfl
 | succ n e=>rw [eF,dX,<-e];push_cast;rfl
def Wij(a e d:Int)(n i:Nat):List Int:=lmul (lpw [a,e] i) (lpw [d-a,d-e] (n-i))
def Wij_nn{e:Int}(f:0<=a)(g:0<=e)(h:a<=d)(j:e<=d)(n i:Nat):NN (Wij a e d n i):=NN.lmul (NN.lpw (NN.two O O) _) (NN.lpw (NN.two f g) _)
theorem Zxs(a e d:Int)(n i:Nat)(x:Rat):Zb (Wij a e d n i) x=((a:Rat)+(e:Rat)*x)^i*(((d-a:Int):Rat)+((d-e:Int):Rat)*x)^(n-i):=by unfold Wij;rw [Zp,Zof,Zof,Zxr,Zxr]
theorem Yno {X:List Int} {n:Nat} (hl:c.length<=n+1) (hX:X.length<=n+1) {B:Int} (ha:0<=a) (hb:0<=b) (I:a+b<=d) (Q:0<d) (hr:∀t u:Rat,t*(d:Rat)=(a:Rat)+(b:Rat)*u->Zb X u=(d:Rat)^m*Zb c t)
  (hB:∀j,j<n+1->((Iu n c j).natAbs:Int)<=B*(Px n j:Int)):∀j,j<n+1->((Iu n X j).natAbs:Int)<=B*d^m*(Px n j:Int):=by
 have Z:(0:Rat)<(d:Rat):=by exact_mod_cast Q
 have l:∀x:Rat,0<=x->(x+1)≠0:=λx e h=>O4;have v:∀x:Rat,((a:Rat)+((a+b:Int):Rat)*x)+(((d-a:Int):Rat)+((d-(a+b):Int):Rat)*x)=(d:Rat)*(x+1):=λx=>by push_cast;grind
 have s:∀x:Rat,0<=x->(d:Rat)*(x+1)≠0:=λx e h=>by have:=bB Z (show(0:Rat)<x+1 by grind);grind
 have a0:∀x:Rat,0<=x->Zb (sQ (λi=>(Px n i:Int)) (Wij a (a+b) d n) (n+1)) x=Zb (mk (n+1) λj=>d^n*(Px n j:Int)) x:=λx e=>by
  rw [Zu5,Ziu];have z:=Zz4 (v x) (s x e) n;have D:=Zz4 (U:=x) (V:=1) (S:=x+1) rfl (l x e) n;have F:Hr (λi=>(((Px n i:Nat):Int):Rat)*Zb (Wij a (a+b) d n i) x) (n+1)=((d:Rat)*(x+1))^n:=by rw [<-z];exact Mo _ λj w=>by rw [Zxs];push_cast;rfl
  rw [F,Zkp,<-D,<-Fw];refine Mo _ λj w=>?_;rw [onepw];push_cast;rw [<-Zc6];push_cast;grind
 have a1:∀x:Rat,0<=x->Zb (mk (n+1) λj=>d^n*Iu n X j) x=Zb ((sQ (Iu n c) (Wij a (a+b) d n) (n+1)).map λq=>d^m*q) x:=λx e=>by
  rw [Zg,Zu5,Ziu];have z:=Yih (v x) (s x e) hl;have D:=Yih (U:=x) (V:=1) (S:=x+1) rfl (l x e) hX;have F:Hr (λi=>((Iu n c i:Int):Rat)*Zb (Wij a (a+b) d n i) x) (n+1)=((d:Rat)*(x+1))^n*Zb c (((a:Rat)+((a+b:Int):Rat)*x)/((d:Rat)*(x+1))):=by rw [<-z];exact Mo _ λj w=>by rw [Zxs]
  have e4:Hr (λj=>((d^n*Iu n X j:Int):Rat)*x^j) (n+1)=(d:Rat)^n*Hr (λj=>(Iu n X j:Rat)*(x^j*1^(n-j))) (n+1):=by rw [<-Fw];refine Mo _ λj w=>?_;rw [onepw,<-Zc6];push_cast;grind
  rw [F,e4,D,hr (((a:Rat)+((a+b:Int):Rat)*x)/((d:Rat)*(x+1))) (x/(x+1)) ?_,Zkp,Zc6]
  .grind
  .have H:=l x e;have y:(d:Rat)≠0:=O4;push_cast;grind
 have N:=Zru a0;have P:=Zru a1;intro j w;have H:=N j;have y:=P j;rw [Lv,aF w]at H y;rw [Dt]at y;have h3:=sQ_le (f:=Iu n c) (g:=λi=>(Px n i:Int)) (W:=Wij a (a+b) d n) (B:=B) (Wij_nn ha O O I n) (n+1) hB j;rw [H]at h3;have Y:0<d^n:=jU Q;have R:0<=d^m:=eK (jU Q);have h4:((d^n*Iu n X j).natAbs:Int)=d^n*((Iu n X j).natAbs:Int):=by rw [cH];push_cast;rw [show((d^n).natAbs:Int)=d^n by omega]
 have h5:((d^m*cf (sQ (Iu n c) (Wij a (a+b) d n) (n+1)) j).natAbs:Int)=d^m*((cf (sQ (Iu n c) (Wij a (a+b) d n) (n+1)) j).natAbs:Int):=by rw [cH];push_cast;rw [show((d^m).natAbs:Int)=d^m by omega]
 have h6:=iK h3 R;rw [<-h5,<-y,h4]at h6;refine lS (a:=d^n) ?_ Y;refine mK h6 (oE ?_);generalize d^n=p;generalize d^m=q;generalize (Px n j:Int)=r;grind
def Yjl:∀n,n<6->∀j,j<n+1->∀k,k<j+1->(Px n j:Int)*w60 n j k=60*(Px (n-k) (j-k):Int):=O7
theorem Zej(f:Nat->Int)(a:Int):∀m,Yb (λk=>a*f k) m=a*Yb f m
 | 0=>by show(0:Int)=a*0;omega
 | m+1=>by rw [Yk,Yk,Zej f a m,kN]
theorem Ymy(g:1<=c.length/\c.length<=6){j:Nat}(e:j<c.length):(Px (c.length-1) j:Int)*ctl c j (j+1)=60*Iu (c.length-1) c j:=by unfold ctl Iu;rw [<-Zej,<-Zej];refine Yy λk f=>?_;have:=Yjl (c.length-1) O j O k O;show(Px (c.length-1) j:Int)*(cf c k*w60 (c.length-1) j k)=60*(cf c k*_);rw [lY,this,lY]
theorem Yh2{n j:Nat}(h:j<n+1):(0:Int)<(Px n j:Int):=by have:=Zp9 (n:=n) (k:=j) O;omega
theorem Zzz(B:1<=c.length/\c.length<=6) : Zhm c ov=true↔∀j,j<c.length->((Iu (c.length-1) c j).natAbs:Int)<=1048576*ov*(Px (c.length-1) j:Int):=by
 have f:∀j,j<c.length->((((ctl c j (j+1)).natAbs:Int)<=62914560*ov)↔((Iu (c.length-1) c j).natAbs:Int)<=1048576*ov*(Px (c.length-1) j:Int)):=λj e=>by
  have w:=Ymy B e;have l:=Yh2 (n:=c.length-1) (j:=j) O;have s:=aN Int.natAbs w;rw [cH,cH,eI]at s;generalize (ctl c j (j+1)).natAbs=x at *;generalize (Iu (c.length-1) c j).natAbs=y at *;generalize Px (c.length-1) j=q at *;have v:(q:Int)*(x:Int)=60*(y:Int):=by exact_mod_cast s
  constructor
  .intro h;have g:=iK h (eK l);rw [v]at g;have z:(q:Int)*(62914560*ov)=60*(1048576*ov*q):=O4;omega
  .intro h;have g:60*(y:Int)<=(q:Int)*(62914560*ov):=by have z:(q:Int)*(62914560*ov)=60*(1048576*ov*q):=O4;omega
   rw [<-v]at g;exact lS g l
 constructor
 .intro h j e;unfold Zhm at h;rw [bF]at h;exact(f j e).1 (cD (h j (dA.2 e)))
 .intro h;exact Zqh λj e=>(f j e).2 (h j e)
def Xr : ((x.natAbs:Int)<=b)↔(-b<=x/\x<=b):=O
def cfb0(f:0<=M)(e:-(M*1)<=(x0*1)/\(x0*1)<=M*1):(-(2047*M)<=x0/\x0<=2047*M):=O
def bre00(c:List Int):Iu 0 c 0=cf c 0*1:=O11
theorem cfb1(g:0<=M)(e:-(M*1)<=(x0*1)/\(x0*1)<=M*1)(f:-(M*1)<=(x0*1+x1*1)/\(x0*1+x1*1)<=M*1):(-(2047*M)<=x0/\x0<=2047*M)/\(-(2047*M)<=x1/\x1<=2047*M):=by refine⟨⟨?_,?_⟩,⟨?_,?_⟩⟩<;>omega
def bre10(c:List Int):Iu 1 c 0=cf c 0*1:=O11
def bre11(c:List Int):Iu 1 c 1=cf c 0*1+cf c 1*1:=O11
theorem cfb2(h:0<=M)(e:-(M*1)<=(x0*1)/\(x0*1)<=M*1)(f:-(M*2)<=(x0*2+x1*1)/\(x0*2+x1*1)<=M*2)(g:-(M*1)<=(x0*1+x1*1+x2*1)/\(x0*1+x1*1+x2*1)<=M*1):(-(2047*M)<=x0/\x0<=2047*M)/\(-(2047*M)<=x1/\x1<=2047*M)/\(-(2047*M)<=x2/\x2<=2047*M):=by refine⟨⟨?_,?_⟩,⟨?_,?_⟩,⟨?_,?_⟩⟩<;>omega
def bre20(c:List Int):Iu 2 c 0=cf c 0*1:=O11
def bre21(c:List Int):Iu 2 c 1=cf c 0*2+cf c 1*1:=O11
def bre22(c:List Int):Iu 2 c 2=cf c 0*1+cf c 1*1+cf c 2*1:=O11
theorem cfb3(j:0<=M)(e:-(M*1)<=(x0*1)/\(x0*1)<=M*1)(f:-(M*3)<=(x0*3+x1*1)/\(x0*3+x1*1)<=M*3)(g:-(M*3)<=(x0*3+x1*2+x2*1)/\(x0*3+x1*2+x2*1)<=M*3)(h:-(M*1)<=(x0*1+x1*1+x2*1+x3*1)/\(x0*1+x1*1+x2*1+x3*1)<=M*1):(-(2047*M)<=x0/\x0<=2047*M)/\(-(2047*M)<=x1/\x1<=2047*M)/\(-(2047*M)<=x2/\x2<=2047*M)/\(-(2047*M)<=x3/\x3<=2047*M):=by refine⟨⟨?_,?_⟩,⟨?_,?_⟩,⟨?_,?_⟩,⟨?_,?_⟩⟩<;>omega
def bre30(c:List Int):Iu 3 c 0=cf c 0*1:=O11
def bre31(c:List Int):Iu 3 c 1=cf c 0*3+cf c 1*1:=O11
def bre32(c:List Int):Iu 3 c 2=cf c 0*3+cf c 1*2+cf c 2*1:=O11
def bre33(c:List Int):Iu 3 c 3=cf c 0*1+cf c 1*1+cf c 2*1+cf c 3*1:=O11
theorem cfb4{e:Int}(n:0<=M)(f:-(M*1)<=(x0*1)/\(x0*1)<=M*1)(g:-(M*4)<=(x0*4+x1*1)/\(x0*4+x1*1)<=M*4)(h:-(M*6)<=(x0*6+x1*3+x2*1)/\(x0*6+x1*3+x2*1)<=M*6)(j:-(M*4)<=(x0*4+x1*3+x2*2+x3*1)/\(x0*4+x1*3+x2*2+x3*1)<=M*4)(l:-(M*1)<=(x0*1+x1*1+x2*1+x3*1+e*1)/\(x0*1+x1*1+x2*1+x3*1+e*1)<=M*1):(-(2047*M)<=x0/\x0<=2047*M)/\(-(2047*M)<=x1/\x1<=2047*M)/\(-(2047*M)<=x2/\x2<=2047*M)/\(-(2047*M)<=x3/\x3<=2047*M)/\(-(2047*M)<=e/\e<=2047*M):=by refine⟨⟨?_,?_⟩,⟨?_,?_⟩,⟨?_,?_⟩,⟨?_,?_⟩,⟨?_,?_⟩⟩<;>omega
def bre40(c:List Int):Iu 4 c 0=cf c 0*1:=O11
def bre41(c:List Int):Iu 4 c 1=cf c 0*4+cf c 1*1:=O11
def bre42(c:List Int):Iu 4 c 2=cf c 0*6+cf c 1*3+cf c 2*1:=O11
def bre43(c:List Int):Iu 4 c 3=cf c 0*4+cf c 1*3+cf c 2*2+cf c 3*1:=O11
def bre44(c:List Int):Iu 4 c 4=cf c 0*1+cf c 1*1+cf c 2*1+cf c 3*1+cf c 4*1:=O11
theorem cfb5{e f:Int}(v:0<=M)(g:-(M*1)<=(x0*1)/\(x0*1)<=M*1)(h:-(M*5)<=(x0*5+x1*1)/\(x0*5+x1*1)<=M*5)(j:-(M*10)<=(x0*10+x1*4+x2*1)/\(x0*10+x1*4+x2*1)<=M*10)(l:-(M*10)<=(x0*10+x1*6+x2*3+x3*1)/\(x0*10+x1*6+x2*3+x3*1)<=M*10)(n:-(M*5)<=(x0*5+x1*4+x2*3+x3*2+e*1)/\(x0*5+x1*4+x2*3+x3*2+e*1)<=M*5)(s:-(M*1)<=(x0*1+x1*1+x2*1+x3*1+e*1+f*1)/\(x0*1+x1*1+x2*1+x3*1+e*1+f*1)<=M*1):(-(2047*M)<=x0/\x0<=2047*M)/\(-(2047*M)<=x1/\x1<=2047*M)/\(-(2047*M)<=x2/\x2<=2047*M)/\(-(2047*M)<=x3/\x3<=2047*M)/\(-(2047*M)<=e/\e<=2047*M)/\(-(2047*M)<=f/\f<=2047*M):=by refine⟨⟨?_,?_⟩,⟨?_,?_⟩,⟨?_,?_⟩,⟨?_,?_⟩,⟨?_,?_⟩,⟨?_,?_⟩⟩<;>omega
def bre50(c:List Int):Iu 5 c 0=cf c 0*1:=O11
def bre51(c:List Int):Iu 5 c 1=cf c 0*5+cf c 1*1:=O11
def bre52(c:List Int):Iu 5 c 2=cf c 0*10+cf c 1*4+cf c 2*1:=O11
def bre53(c:List Int):Iu 5 c 3=cf c 0*10+cf c 1*6+cf c 2*3+cf c 3*1:=O11
def bre54(c:List Int):Iu 5 c 4=cf c 0*5+cf c 1*4+cf c 2*3+cf c 3*2+cf c 4*1:=O11
def bre55(c:List Int):Iu 5 c 5=cf c 0*1+cf c 1*1+cf c 2*1+cf c 3*1+cf c 4*1+cf c 5*1:=O11
theorem cf_brS{n:Nat}(z:n<6)(D:c.length<=n+1)(h:∀j,j<n+1->((Iu n c j).natAbs:Int)<=M*(Px n j:Int))(k:Nat):((cf c k).natAbs:Int)<=2047*M:=by
 have v:0<=M:=by have f:=h 0 O;rw [Zlu]at f;omega
 by_cases B:k<n+1
 .rw [Xr]
  match n,z with
  | 0,_=>
   have f:=Xr.1 (h 0 O3);rw [bre00,show(Px 0 0:Int)=1 from rfl]at f;have e:=cfb0 v f;obtain rfl:k=0:=O;exact e
  | 1,_=>
   have f:=Xr.1 (h 0 O3);rw [bre10,show(Px 1 0:Int)=1 from rfl]at f;have g:=Xr.1 (h 1 O3);rw [bre11,show(Px 1 1:Int)=1 from rfl]at g;have e:=cfb1 v f g;rcases(show k=0\/k=1 by omega)with rfl|rfl
   .exact e.1
   .exact e.2
  | 2,_=>
   have f:=Xr.1 (h 0 O3);rw [bre20,show(Px 2 0:Int)=1 from rfl]at f;have g:=Xr.1 (h 1 O3);rw [bre21,show(Px 2 1:Int)=2 from rfl]at g;have l:=Xr.1 (h 2 O3);rw [bre22,show(Px 2 2:Int)=1 from rfl]at l;have e:=cfb2 v f g l;rcases(show k=0\/k=1\/k=2 by omega)with rfl|rfl|rfl
   .exact e.1
   .exact e.2.1
   .exact e.2.2
  | 3,_=>
   have f:=Xr.1 (h 0 O3);rw [bre30,show(Px 3 0:Int)=1 from rfl]at f;have g:=Xr.1 (h 1 O3);rw [bre31,show(Px 3 1:Int)=3 from rfl]at g;have l:=Xr.1 (h 2 O3);rw [bre32,show(Px 3 2:Int)=3 from rfl]at l;have s:=Xr.1 (h 3 O3);rw [bre33,show(Px 3 3:Int)=1 from rfl]at s;have e:=cfb3 v f g l s;rcases(show k=0\/k=1\/k=2\/k=3 by omega)with rfl|rfl|rfl|rfl
   .exact e.1
   .exact e.2.1
   .exact e.2.2.1
   .exact e.2.2.2
  | 4,_=>
   have f:=Xr.1 (h 0 O3);rw [bre40,show(Px 4 0:Int)=1 from rfl]at f;have g:=Xr.1 (h 1 O3);rw [bre41,show(Px 4 1:Int)=4 from rfl]at g;have l:=Xr.1 (h 2 O3);rw [bre42,show(Px 4 2:Int)=6 from rfl]at l;have s:=Xr.1 (h 3 O3);rw [bre43,show(Px 4 3:Int)=4 from rfl]at s;have w:=Xr.1 (h 4 O3);rw [bre44,show(Px 4 4:Int)=1 from rfl]at w;have e:=cfb4 v f g l s w;rcases(show k=0\/k=1\/k=2\/k=3\/k=4 by omega)with rfl|rfl|rfl|rfl|rfl
   .exact e.1
   .exact e.2.1
   .exact e.2.2.1
   .exact e.2.2.2.1
   .exact e.2.2.2.2
  | 5,_=>
   have f:=Xr.1 (h 0 O3);rw [bre50,show(Px 5 0:Int)=1 from rfl]at f;have g:=Xr.1 (h 1 O3);rw [bre51,show(Px 5 1:Int)=5 from rfl]at g;have l:=Xr.1 (h 2 O3);rw [bre52,show(Px 5 2:Int)=10 from rfl]at l;have s:=Xr.1 (h 3 O3);rw [bre53,show(Px 5 3:Int)=10 from rfl]at s;have w:=Xr.1 (h 4 O3);rw [bre54,show(Px 5 4:Int)=5 from rfl]at w;have y:=Xr.1 (h 5 O3);rw [bre55,show(Px 5 5:Int)=1 from rfl]at y;have e:=cfb5 v f g l s w y;rcases(show k=0\/k=1\/k=2\/k=3\/k=4\/k=5 by omega)with rfl|rfl|rfl|rfl|rfl|rfl
   .exact e.1
   .exact e.2.1
   .exact e.2.2.1
   .exact e.2.2.2.1
   .exact e.2.2.2.2.1
   .exact e.2.2.2.2.2
 .rw [Yn O];simp;omega
structure AxC (c:List Int) (ov:Int):Prop where
 l:1<=c.length/\c.length<=6
 t:¬(1<c.length/\c.getD (c.length-1) 0=0)
 b:∀j,j<c.length->((Iu (c.length-1) c j).natAbs:Int)<=1048576*ov*(Px (c.length-1) j:Int)
theorem AxC.of(h:axB c ov=true):AxC c ov:=by unfold axB at h;simp only [aQ,gX,kI,cZ,iI]at h;have g:1<=c.length/\c.length<=6:=⟨h.1.1.1,h.1.1.2⟩;exact⟨g,λf=>by rcases h.1.2 with e|e;exact e f.1;exact e f.2,(Zzz g).1 h.2⟩
def AxC.to(h:AxC c ov):axB c ov=true:=Yiq h.l.1 h.l.2 h.t ((Zzz h.l).2 h.b)
def tzl_nz(e:c.getD (c.length-1) 0≠0):tzl c=c:=Zah (.inr e)
theorem ax_tzl(h:AxC c ov):(tzl c=c)\/c=[0]:=by
 by_cases e:c.getD (c.length-1) 0=0
 .have j:c.length=1:=by
   have l:=h.l;have f:=h.t;by_cases g:1<c.length
   .exact absurd ⟨g,e⟩ f
   .omega
  right
  match c,j with
  | [x],_=>simp at e;rw [e]
 .exact .inl (tzl_nz e)
theorem Zfl(h:AxC c ov)(f:t*(d:Rat)=(a:Rat)+(b:Rat)*u):Zb (Nl c a b d) u=(d:Rat)^5*Zb c t:=by
 unfold Nl;rw [Zu6];rcases ax_tzl h with e|e
 .have g:=h.l;rw [e,Zj8 a b d f O,Zc6];have:(d:Rat)^5=(d:Rat)^(6-c.length)*(d:Rat)^(c.length-1):=by rw [<-Yaa];congr 1;omega
  rw [this];grind
 .subst e;rw [show tzl [0]=[]from by decide,show Ks [] a b d=[]from rfl];show _*(0:Rat)=_*(((0:Int):Rat)+t*0);push_cast;grind
def Zf4 (c:List Int)(a b d:Int):(Nl c a b d).length<=c.length:=aB Lz (aB (Zev _ _ _ _) (Hj c))
theorem Zzy(h:AxC c ov)(f:0<=a)(g:0<=b)(e:a+b<=d)(l:0<d):∀j,j<c.length->((Iu (c.length-1) (Nl c a b d) j).natAbs:Int)<=1048576*(ov*d^5)*(Px (c.length-1) j:Int):=λj s=>by have y:=h.l;have w:=Zf4 c a b d;have:=Yno (c:=c) (X:=Nl c a b d) (n:=c.length-1) (m:=5) (B:=1048576*ov) O O f g e l (λt u v=>Zfl h v) (λj s=>h.b j O) j O;rw [eZ]at this;rw [eZ];rw [eZ,<-eZ ov]at this;exact this
theorem cf_cmp(h:AxC c ov)(f:0<=a)(g:0<=b)(e:a+b<=d)(l:0<d)(k:Nat):((cf (Nl c a b d) k).natAbs:Int)<=ov*d^5*2146435072:=by have w:=h.l;have s:=Zf4 c a b d;have:=cf_brS (n:=c.length-1) O (c:=Nl c a b d) O (M:=1048576*(ov*d^5)) (λj v=>Zzy h f g e l j O) k;omega
theorem Ydv{g:Ze}(h:seB g=true):AxC g.2.1.2 g.1.2.2/\AxC g.2.2.1.2 g.1.2.2/\AxC g.2.2.2.2 g.1.2.2:=by have e:Zak g.1.1 g.1.2.1 g.1.2.2 g.2.1.2 g.2.2.1.2 g.2.2.2.2=true:=h;unfold Zak at e;simp only [aQ]at e;exact⟨.of e.1.1.1.2,.of e.1.1.2,.of e.1.2⟩
theorem Yhq{fr e:Int}{g:Ze}(f:SgG g)(h:Li fr e g=true):0<=cA fr g-g.1.1/\0<cB e g-cA fr g/\(cA fr g-g.1.1)+(cB e g-cA fr g)<=g.1.2.1-g.1.1/\0<g.1.2.1-g.1.1:=by have n:=cD h;have j:=f.t1;have l:=f.t2;unfold cA cB at *;exact⟨O,O,O,O⟩
theorem Yfb{fr z:Int}{g:Ze}(hi:Gin g)(hs:seB g=true)(h:Li fr z g=true):MdG fr z g:=by
 have f:SgG g:=Iz hi hs;obtain⟨H,I,N⟩:=Ydv hs;obtain⟨P,Q,R,S⟩:=Yhq f h;obtain⟨w,y,-,-⟩:=cut_b f h;have a0:=f.t3;have Z:=f.t1;have W:=f.o1;have Y:=f.o2;have j:1<=g.1.2.1-g.1.1/\g.1.2.1-g.1.1<=3600000:=⟨O,O⟩;have B:=Zp8 f.hx f.lx w y j;have D:=Zp8 f.hy f.ly w y j;have F:=Zp8 f.hz f.lz w y j;have v:0<cO g:=gK O (jU O);have s:((cO g).natAbs:Int)=cO g:=O;have n:∀{c:List Int},AxC c g.1.2.2->∀k,(cf (cX fr z g c) k).natAbs<=(cO g).natAbs*2146435072:=λV k=>by
  have:=cf_cmp V P (eK Q) R S k;have e:(((cO g).natAbs*2146435072:Nat):Int)=cO g*2146435072:=by rw [fT,s];rfl
  refine lD.1 ?_;rw [e];exact this
 refine⟨v,?_,λi=>?_,λi=>?_,λi k=>?_⟩
 .have h1:bl g.1.2.2.natAbs<=40:=(Qt 40 _).2 O;have h2:=Zm1 j;have:=Xq g.1.2.2 ((g.1.2.1-g.1.1)^5);show bl (g.1.2.2*(g.1.2.1-g.1.1)^5).natAbs<=1000;omega
 .exact Bj (p:=λl:List Int=>Sz 1000 l) B.2.2.2.2.2.2.1 D.2.2.2.2.2.2.1 F.2.2.2.2.2.2.1
 .exact Bj (p:=λl:List Int=>l.length<=6) B.2.2.2.2.2.2.2 D.2.2.2.2.2.2.2 F.2.2.2.2.2.2.2
 .exact Bj (p:=λl:List Int=>(cf l k).natAbs<=(cO g).natAbs*2146435072) (n H k) (n I k) (n N k)
theorem Ylp(h:AxC c ov)(s:c.getD (c.length-1) 0≠0)(w:0<b)(z:0<d):(Nl c a b d).length=c.length:=by
 have F:=h.l;have D:=Zf4 c a b d;rcases aX (Nl c a b d).length c.length with q|q
 .exfalso;have y:(b:Rat)≠0:=by
    have:(0:Rat)<(b:Rat):=by exact_mod_cast w
    grind
  have B:(d:Rat)≠0:=by
    have:(0:Rat)<(d:Rat):=by exact_mod_cast z
    grind
  have n:∀t:Rat,t*(d:Rat)=(a:Rat)+(b:Rat)*((t*d-a)/b):=λt=>O4;by_cases j:(Nl c a b d).length=0
  .have v:=aG j;have:∀t:Rat,Zb c t=0:=λt=>by
    have e:=Zfl h (n t);rw [v]at e;have f:(d:Rat)^5*Zb c t=0:=e.symm;have l:(d:Rat)^5≠0:=by rw [show(d:Rat)^5=d*d*d*d*d by rw [dX,dX,dX,dX,dX,eO];grind];grind
    grind
   exact s (Zoj this _)
  .have g:∀t:Rat,Zb ((Ks (Nl c a b d) (-a) d b).map λq=>1*q) t=Zb (c.map λq=>b^((Nl c a b d).length-1)*d^5*q) t:=λt=>by rw [Zg,Zg];have e:=Zfl h (n t);have f:=Zj8 (p:=Nl c a b d) (-a) d b (t:=(t*d-a)/b) (u:=t) (by push_cast;grind) j;rw [f,e];push_cast;rw [<-Zc6,<-Zc6];push_cast;grind
   have e:=Mi g (c.length-1);rw [Dt,Dt,Yn (by have:=Zev (Nl c a b d) (-a) d b;omega)]at e;have f:b^((Nl c a b d).length-1)*d^5≠0:=bG (Int.pow_ne_zero O) (Int.pow_ne_zero O);have l:b^((Nl c a b d).length-1)*d^5*cf c (c.length-1)=0:=O;rcases fA.1 l with q|q
   .exact f q
   .exact s q
 .omega
theorem Zwg{X:List Int}(f:0<G)(e:∀x∈X,G∣x)(i:Nat):cf (Cf X G) i*G=cf X i:=by
 unfold Cf;split
 .rename_i h;rw [aG h]
  match i with
  | 0=>show(0:Int)*G=cf [] 0;rw [dC];rfl
  | i+1=>show(0:Int)*G=cf [] (i+1);rw [dC];rfl
 .rw [Zc3 O8];by_cases hi:i<X.length
  .have:cf X i∈X:=Zi hi;exact iE (e _ this)
  .rw [Yn O];simp
theorem Yko{X:List Int}(e:0<G)(f:∀x∈X,G∣x)(u:Rat):Zb (Cf X G) u*(G:Rat)=Zb X u:=by rw [kF,<-Zg];exact Nd u _ _ λi=>by rw [Dt,dV,Zwg e f]
theorem Zhw(f g:Nat->Int)(a:Int)(h:∀k,f k*a=g k):∀m,Yb f m*a=Yb g m
 | 0=>dC _
 | m+1=>by rw [Yk,Yk,lW,Zhw f g a h m,h]
theorem Ynn{X:List Int}(e:0<G)(f:∀x∈X,G∣x)(n j:Nat):Iu n (Cf X G) j*G=Iu n X j:=by unfold Iu;exact Zhw _ _ _ (λk=>by rw [lO,Zwg e f]) _
theorem Ylo(X:List Int)(G:Int):(Cf X G).length=max X.length 1:=by
 unfold Cf;split
 .rename_i h;rw [h];rfl
 .rw [aW];omega
theorem Zws(h:AxC c ov)(P:0<=a)(B:0<b)(v:a+b<=d)(D:0<d)(s:0<G)(H:∀x∈Nl c a b d,G∣x)(R:o*G=ov*d^5):AxC (Cf (Nl c a b d) G) o/\(Cf (Nl c a b d) G).length=c.length:=by
 have V:=h.l;have f:(Cf (Nl c a b d) G).length=c.length/\(1<c.length->(Nl c a b d).length=c.length):=by
  rw [Ylo];by_cases I:c.getD (c.length-1) 0=0
  .have:=h.t;have Q:=Zf4 c a b d;have g:c.length=1:=by
    by_cases l:1<c.length
    .exact absurd ⟨l,I⟩ this
    .omega
   exact⟨O,λl=>O⟩
  .have:=Ylp h I (a:=a) B D;exact⟨O,λ_=>this⟩
 refine⟨⟨O,λ⟨g,w⟩=>?_,λj F=>?_⟩,f.1⟩
 .rw [f.1]at g w;have l:cf (Cf (Nl c a b d) G) (c.length-1)=0:=w;have y:=Zwg s H (c.length-1);rw [l,dC]at y;have n:=f.2 g;have S:Tr (Nl c a b d):=Np;have z:=S.mem (λe=>by rw [e]at n;simp at n;omega);rw [n]at z;exact z y.symm
 .rw [f.1]at F ⊢;have g:=Zzy h P (eK B) v D j F;rw [<-Ynn s H,<-R,cH]at g;have N:((G.natAbs:Nat):Int)=G:=O;push_cast at g;rw [N]at g;refine Int.le_of_mul_le_mul_right (a:=G) ?_ s;refine mK g (oE ?_);grind
theorem Zsz{G:Int}(e:0<G):∀(l:List Int) (o:Int),Ll (G*o) (l.map (G*·))=G*Ll o l
 | [],o=>rfl
 | x::l,o=>by show Ll ((Int.gcd (G*o) (G*x):Nat):Int) (l.map (G*·))=G*Ll ((Int.gcd o x:Nat):Int) l;rw [Int.gcd_mul_left];push_cast;rw [show((G.natAbs:Nat):Int)=G by omega];exact Zsz e l _
theorem Zk9{X:List Int}(g:0<G)(e:∀x∈X,G∣x)(j:0<=o):Ll o ((Cf X G).map (G*·))=Ll o X:=by
 unfold Cf;split
 .rename_i h;rw [aG h];show((Int.gcd o (G*0):Nat):Int)=o;rw [eC,Int.gcd_zero_right];omega
 .congr 1;rw [iB]
  conv=>rhs;rw [<-nB X]
  refine kY λx f=>?_;show G*(x/G)=x;exact kP (e x f)
theorem Yl9{X Y Z:List Int}{f:Int}(g:0<o)(e:0<Fk o X Y Z)(s:∀x∈X,Fk o X Y Z∣x)(v:∀x∈Y,Fk o X Y Z∣x)(w:∀x∈Z,Fk o X Y Z∣x)(h:Fk o X Y Z*f=o) :
  Ll f (Cf X (Fk o X Y Z) ++ Cf Y (Fk o X Y Z) ++ Cf Z (Fk o X Y Z))=1:=by
 have j:=Zsz e (Cf X (Fk o X Y Z) ++ Cf Y (Fk o X Y Z) ++ Cf Z (Fk o X Y Z)) f;rw [h,eE,eE,Eb,Eb,Zk9 e s (eK g),Zk9 e v (Zf6 _ _ (eK g)),Zk9 e w (Zf6 _ _ (Zf6 _ _ (eK g)))]at j;have l:Fk o X Y Z=Ll (Ll (Ll o X) Y) Z:=by show Ll o (X ++ Y ++ Z)=_;rw [Eb,Eb]
 rw [<-l]at j;generalize Ll f _=r at *;have n:Fk o X Y Z*r=Fk o X Y Z*1:=O;exact gT O n
structure Prt (q g:Ze) (G:Int):Prop where
 g0:0<G
 a0:0<=q.1.1-g.1.1
 b0:0<q.1.2.1-q.1.1
 ab:(q.1.1-g.1.1)+(q.1.2.1-q.1.1)<=g.1.2.1-g.1.1
 o:q.1.2.2*G=g.1.2.2*(g.1.2.1-g.1.1)^5
 x:∀i (t u:Rat),t*((g.1.2.1-g.1.1:Int):Rat)=((q.1.1-g.1.1:Int):Rat)+((q.1.2.1-q.1.1:Int):Rat)*u->Zb (Ye i q.2.1.2 q.2.2.1.2 q.2.2.2.2) u*(G:Rat)=((g.1.2.1-g.1.1:Int):Rat)^5*Zb (Ye i g.2.1.2 g.2.2.1.2 g.2.2.2.2) t
theorem Zvo{X:List Int}(h:∀k,(X.getD k 0/G).natAbs<=9223372036854775807):∀a∈Cf X G,Mr a:=λa e=>by
 unfold Cf at e;split at e
 .rw [bZ.1 e];exact⟨O3,O3⟩
 .obtain⟨x,g,rfl⟩:=eV.1 e;obtain⟨k,f⟩:=fI.1 g;have:=h k;rw [aE,f]at this;simp only [fC]at this;exact⟨O,O⟩
theorem Zom(f:AxC c ov)(e:0<G)(g:∀x∈Nl c a b d,G∣x)(h:t*(d:Rat)=(a:Rat)+(b:Rat)*u):Zb (Cf (Nl c a b d) G) u*(G:Rat)=(d:Rat)^5*Zb c t:=by rw [Yko e g];exact Zfl f h
theorem Zzj{fr e:Int}{g q:Ze}(hi:Gin g)(hs:seB g=true)(hp:Li fr e g=true)(hk:Zgj fr e g=true)(hu:Dn q=Zv9 fr e g):Gin q/\seB q=true/\Prt q g (cG fr e g):=by
 have V:SgG g:=Iz hi hs;obtain⟨a1,a2,a3⟩:=Ydv hs;obtain⟨H,I,N,Q⟩:=Yhq V hp;have S:=Yfb hi hs hp;obtain⟨g1,⟨v,a5⟩,R⟩:=S.g;have n:0<cG fr e g:=g1;have y:∀x∈cX fr e g g.2.1.2,cG fr e g∣x:=R 0 O3;have z:∀x∈cX fr e g g.2.2.1.2,cG fr e g∣x:=R 1 O3;have B:∀x∈cX fr e g g.2.2.2.2,cG fr e g∣x:=R 2 O3;have D:cG fr e g*v=cO g:=a5.symm;have w:cO g/cG fr e g=v:=by rw [<-D];exact fK _ O
 have f:cO g/cG fr e g<=4294967296:=cD hk;have a6:0<cO g:=S.o;have b0:0<v:=by
  by_cases h:0<v
  .exact h
  .have:=gO (eK n) (show v<=0 by omega);omega
 have s:v*cG fr e g=g.1.2.2*(g.1.2.1-g.1.1)^5:=by rw [dV];exact D
 obtain⟨x1,x2⟩:=Zws a1 H I N Q n y s;obtain⟨y1,y2⟩:=Zws a2 H I N Q n z s;obtain⟨z1,z2⟩:=Zws a3 H I N Q n B s;obtain⟨⟨qf,qt,qo⟩,⟨sx,qx⟩,⟨sy,qy⟩,⟨sz,qz⟩⟩:=q;unfold Dn Zv9 at hu;rw [mdO_t f,Zm9 f,Zm9 f,Zm9 f,w]at hu;injection hu with h1 h2;injection h1 with hf h1;injection h1 with ht P;injection h2 with hx h2;injection h2 with hy hz;dsimp only at hf ht P hx hy hz;subst hf ht hx hy hz;have P:=P.symm;subst P;have j:=λi (hi:i<3) k=>S.fit (i:=i) f hi k;have a8:=cD hp;have b1:=V.t1;have b2:=V.t3;have W:∀a∈Cf (cX fr e g g.2.1.2) (cG fr e g),Mr a:=Zvo (j 0 O3);have a0:∀a∈Cf (cX fr e g g.2.2.1.2) (cG fr e g),Mr a:=Zvo (j 1 O3);have a4:∀a∈Cf (cX fr e g g.2.2.2.2) (cG fr e g),Mr a:=Zvo (j 2 O3);have a9:v<=4294967296:=w▸f;have a7:0<=cA fr g/\cB e g<=3600000:=by unfold cA cB;exact⟨O,O⟩
 have i1:Mr (cA fr g):=⟨O,O⟩;have i2:Mr (cB e g):=⟨O,O⟩;have i3:Mr v:=⟨O,O⟩;refine⟨⟨i1,i2,i3,W,a0,a4⟩,?_,⟨n,H,I,by show(cA fr g-g.1.1)+(cB e g-cA fr g)<=_;exact N,s,λi t u F=>?_⟩⟩
 .show Zak (cA fr g) (cB e g) v _ _ _=true;unfold Zak Zur;simp only [aQ,cZ];exact⟨⟨⟨⟨⟨⟨⟨⟨O,O⟩,O⟩,O⟩,O⟩,x1.to⟩,y1.to⟩,z1.to⟩,Yl9 a6 n y z B D⟩
 .have l:t*((g.1.2.1-g.1.1:Int):Rat)=((cA fr g-g.1.1:Int):Rat)+((cB e g-cA fr g:Int):Rat)*u:=F;clear F;have k0:=Zom a1 n y l;have k1:=Zom a2 n z l;have k2:=Zom a3 n B l;dsimp only;generalize Cf (cX fr e g g.2.1.2) (cG fr e g)=X at *;generalize Cf (cX fr e g g.2.2.1.2) (cG fr e g)=Y at *;generalize Cf (cX fr e g g.2.2.2.2) (cG fr e g)=Z at *;generalize ((cG fr e g:Int):Rat)=GG at *;generalize ((g.1.2.1-g.1.1:Int):Rat)^5=DD at *
  match i with
  | 0=>exact k0
  | 1=>exact k1
  | i+2=>exact k2
end Go.Sky

