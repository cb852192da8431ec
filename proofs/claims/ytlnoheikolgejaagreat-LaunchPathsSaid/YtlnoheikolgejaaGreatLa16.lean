/- Rules, arithmetic and contracts: part 17. No conditions but those that each theorem names. -/
import Derived.Test.YtlnoheikolgejaaGreatLa15
import Derived.MapKept
import Derived.RangeFuncNested
set_option linter.all false
set_option maxHeartbeats 4000000
namespace Go.Sky
open Go Go.MapKept
variable{D d:Int}{a b:List Zj}
variable {P:Program} {N:Nat} {sc:Nat->Prop} {env env':Xz} {H H':Hp} {Q Q':Exit->Act->World->Prop} {M:Nat->Prop}
abbrev PT:=SL×List Zj
abbrev PT0:PT:=((none,0,0),[])
abbrev Eb (x:PT):Value:=Xw x.1
abbrev qP (x:PT):Pc:=Qh 6 Qu qG (Xw x.1) x.2
def mpc(b:Nat)(c:Array MapEntry)(n:Nat):Pc:=
 {own:=true,fp:=λk=>k=b,holds:=λw=>w.heap[b]? = some (.map c n)
  lt:=λw k h f=>by subst f;exact(aO.1 h).1
  stable:=λw i h e=>by rw [<-h];exact e.block b (aO.1 h).1 (λg=>g rfl) }
def fewsB(m k:Nat)(c:List PT):Bool:=decide (c.length<=m) && c.all λx=>fewB x.2 k
def Ee(c:List PT):Bool:=c.all λx=>Xk x.2
abbrev ClT:=(Int×Int×Int×Int)×Bool×Int
abbrev clE (r:ClT):Value:= .tuple #[.agg #[.int .i64 r.1.1,.int .i64 r.1.2.1,.int .i64 r.1.2.2.1,.int .i64 r.1.2.2.2],.bool r.2.1,.int .i64 r.2.2]
def pth(ps:List PT)(i:Nat):List Zj:=(ps.getD i PT0).2
def clV(D n d:Int)(ps:List PT)(i k:Nat):ClT:=
 (if(Zaj (Mu D n d (pth ps i) (pth ps k))).2.2=true then((i:Int),(k:Int),(Zaj (Mu D n d (pth ps i) (pth ps k))).1,(Zaj (Mu D n d (pth ps i) (pth ps k))).2.1)else(0,0,0,0),(Zaj (Mu D n d (pth ps i) (pth ps k))).2.2,Gr (pth ps i) (pth ps k))
def ClA(D n d:Int)(ps:List PT)(i:Nat):Prop:=∀j k,j<k->k<ps.length->j<i->apZ D n d (pth ps j) (pth ps k)=true
def ClB(D n d:Int)(ps:List PT)(i m:Nat):Prop:=∀k,i<k->k<m->apZ D n d (pth ps i) (pth ps k)=true
def ClR(D n d:Int)(ps:List PT)(r:ClT):Prop:=
 (r=((0,0,0,0),false,0)/\ClA D n d ps ps.length)\/∃i k,i<k/\k<ps.length/\ClA D n d ps i/\ClB D n d ps i k/\apZ D n d (pth ps i) (pth ps k)=false/\r=clV D n d ps i k
theorem ap_no{n:Int}(h:(Zaj (Mu D n d a b)).2.2=false)(c:Gr a b=0):apZ D n d a b=true:=by unfold apZ;rw [h,aN c];rfl
theorem ap_is{n:Int}(h:(Zaj (Mu D n d a b)).2.2=true):apZ D n d a b=false:=by unfold apZ;rw [h];exact iZ _
theorem ap_e{n:Int}(c:Gr a b≠0):apZ D n d a b=false:=by unfold apZ;rw [aJ c];rfl
def Yfq{c:List PT}(h:Ee c=true){x:PT}(e:x∈c):Xk x.2=true:=bW.1 h x e
theorem Yfp{c:List PT}{x:PT}(e:x∈c)(h:Xk x.2=false):Ee c=false:=by
 cases hv:Ee c with
 | false=>rfl
 | true=>rw [Yfq hv e]at h;cases h
theorem Zyy{c:List PT}{m:Nat}(g:c.length<=m)(h:∀k,k<m->k<c.length->Xk (pth c k)=true):Ee c=true:=
 bW.2 λx f=>by obtain⟨k,e,rfl⟩:=eA.1 f;have:=h k O e;unfold pth at this;rwa [aC,aH e]at this
end Go.Sky
namespace Go.Sky
variable{p q x y z x2 y2 z2:List Int}{a b:List Zj}{D ov ov2:Int}{zs:List GpT}{t:TypeId}{kd:IntKind}
theorem Zc0(h:Tr p):Yf p 1=p:=by
 unfold Yf;have:p.map (· * (1:Int))=p:=by rw [show(λx:Int=>x*1)=id from oF λx=>kM x,oC]
 rw [this,Cw h]
def dk_one{a b:Int} : dfK p q a b 1=dfP p q a b:=Zc0 (Qa _)
theorem Yf3{a b:Int} : sqK p q a b 1=sqP p q a b:=by unfold sqK sqP;rw [dk_one]
theorem ng_one(D ov ov2:Int):ngC [D,1,ov,ov2] 4=ngC [D,ov,ov2] 3:=by
 have c:ngC [D,1,ov,ov2] 1=ngC [D,ov,ov2] 1:=rfl;have t1:Tr (ngC [D,ov,ov2] 1):=(Zik _ 1).2.2;have d:ngC [D,1,ov,ov2] 2=ngC [D,ov,ov2] 1:=by show Yf (Yf (ngC [D,1,ov,ov2] 1) 1) 1=_;rw [c,Zc0 t1,Zc0 t1]
 have e:ngC [D,1,ov,ov2] 3=ngC [D,ov,ov2] 2:=by show Yf (Yf (ngC [D,1,ov,ov2] 2) ov) ov=Yf (Yf (ngC [D,ov,ov2] 1) ov) ov;rw [d]
 show Yf (Yf (ngC [D,1,ov,ov2] 3) ov2) ov2=Yf (Yf (ngC [D,ov,ov2] 2) ov2) ov2;rw [e]
def fqS(ov ov2:Int)(x y z x2 y2 z2:List Int)(i:Nat):List Int:=sqP (Zt i x y z) (Zt i x2 y2 z2) ov ov2
def smS(D ov ov2:Int)(x y z x2 y2 z2:List Int)(i:Nat):List Int:=smP (ngC [D,ov,ov2] 3) (fqS ov ov2 x y z x2 y2 z2) i
def Zz2(i:Nat):Zt i (1:Int) 1 1=1:=Ft (p:=λk:Int=>k=1) rfl rfl rfl
theorem fsZ(D ov ov2:Int)(x y z x2 y2 z2:List Int):fmZ D 1 1 ov ov2 x y z x2 y2 z2=Yi (smS D ov ov2 x y z x2 y2 z2 3):=by
 have c:fqZ 1 1 ov ov2 x y z x2 y2 z2=fqS ov ov2 x y z x2 y2 z2:=oF λi=>by unfold fqZ fqS;rw [Zz2,Yf3]
 unfold fmZ smZ smS cnZ;rw [c,ng_one]
def dsB(D:Int):Bool:=decide (0<=D) && decide (D<=4194304)
theorem ds_b(h:dsB D=true):0<=D/\D<=4194304:=by unfold dsB at h;rw [aP,cL,cL]at h;exact h
structure FsX (D ov ov2:Int) (x y z x2 y2 z2:List Int):Prop where
 X:∀i,FmX (Zt i x y z) (Zt i x2 y2 z2) ov ov2 1
 N:∀i,i<=3->NgX [D,ov,ov2] i
 Q:SmX (ngC [D,ov,ov2] 3) (fqS ov ov2 x y z x2 y2 z2)
theorem fsX{fr w d h:Int}(f:Sgo fr w ov x y z)(c:Sgo d h ov2 x2 y2 z2)(m:∀i,Ab KA (tzl (Zt i x y z)))(e:∀i,Ab KA (tzl (Zt i x2 y2 z2)))(o:dsB D=true):FsX D ov ov2 x y z x2 y2 z2:=by
 obtain⟨F,B⟩:=ds_b o;have r:=f.o1;have s:=f.o2;have u:=c.o1;have v:=c.o2;have g:∀i,FmX (Zt i x y z) (Zt i x2 y2 z2) ov ov2 1:=λi=>fmX (m i) (e i) (f.lc i).2 (c.lc i).2 ⟨r,s⟩ ⟨u,v⟩ ⟨O3,O3⟩;have n:∀i,([D,ov,ov2].getD i 0).natAbs<=4294967296:=λi=>by
  match i with
  | 0=>show D.natAbs<=_;omega
  | 1=>show ov.natAbs<=_;omega
  | 2=>show ov2.natAbs<=_;omega
  | i+3=>show(0:Int).natAbs<=_;decide
 refine⟨g,λi hi=>ngX n (aB hi O3),?_⟩;obtain⟨j,k,l⟩:=Zik [D,ov,ov2] 3;refine smX (j.mono ?_) k l (λi=>(g i).ab8) (λi=>(g i).l8);show 1*D.natAbs*D.natAbs*ov.natAbs*ov.natAbs*ov2.natAbs*ov2.natAbs<=2^190;refine aB (aT (aT (aT (aT (aT (aT (aK 1) (show D.natAbs<=4194304 by omega)) (show D.natAbs<=4194304 by omega)) (show ov.natAbs<=4294967296 by omega)) (show ov.natAbs<=4294967296 by omega)) (show ov2.natAbs<=4294967296 by omega)) (show ov2.natAbs<=4294967296 by omega)) O6
theorem Yh9(h:FsX D ov ov2 x y z x2 y2 z2):Cvd (fmZ D 1 1 ov ov2 x y z x2 y2 z2):=by rw [fsZ];exact h.Q.d
theorem cvd_gs(i:∀g∈a,Gin g)(j:∀g∈b,Gin g)(c:Xk a=true)(d:Xk b=true)(I:dsB D=true){xs ys:List Zj}(o:xs.map Mb=Nw a b a)(s:ys.map Mb=Nw a b b):∀g∈Mu D 1 1 a b,Cvd g.2.2:=λg n=>by
 unfold Mu at n;obtain⟨k,F,e⟩:=eA.1 n;rw [mY]at e;subst e;rw [jI]at F;have f:k<(Nw a b a).length:=O;have h:k<(Nw a b b).length:=O;have M:(Nw a b a)[k]∈xs.map Mb:=by rw [o];exact eX f
 have N:(Nw a b b)[k]∈ys.map Mb:=by rw [s];exact eX h
 obtain⟨q,G,w⟩:=eQ.1 M;obtain⟨r,H,B⟩:=eQ.1 N;obtain⟨u,l⟩:=Zbh i c o q G;obtain⟨v,m⟩:=Zbh j d s r H;rw [<-w,<-B];simp only [gpZ,Mb];exact Yh9 (fsX (Hr u l) (Hr v m) (Zat l) (Zat m) I)
theorem cvd_as(e:∀g∈a,Gin g)(f:∀g∈b,Gin g)(c:Xk a=true)(d:Xk b=true)(l:dsB D=true)(h:zs.map unP=Mu D 1 1 a b){k:Nat}(i:k<zs.length):Cvd (zs.getD k Gp0).2.2:=by
 have j:unP (zs.getD k Gp0)∈Mu D 1 1 a b:=by rw [<-h];exact eQ.2 ⟨_,Zk i,rfl⟩
 exact cvd_gs e f c d l (Ztl (Nw a b a)) (Ztl (Nw a b b)) _ j
section
variable {P:Program} {N:Nat} {sc:Nat->Prop} {env:Xz} {H:Hp}
theorem d_ix3i {o:Oper} {x y:Operand} {e:TypeId} {i:Nat}  {m d f g:Int} (n:o.op= .index t x y) (s:ev env x=some (.agg #[.int .i64 d,.int .i64 f,.int .i64 g])) (u:ev env y=some (.int kd m))
  (r:P.underlying t=some (.array 3 e)) (k:∀w,(sizeOf e).run P w= .ok 1 w) (j:∀w,(isAgg e).run P w= .ok false w) (c:m=(i:Int)) (l:i<3):Nf P N sc o env H (.int .i64 ([d,f,g].getD i 0)):=λa w hs=>by
 subst c;have h:i=0\/i=1\/i=2:=O;rcases h with rfl|rfl|rfl<;>simp [execOp,n,hs.ev s,hs.ev u,Instr.index,asIntOf,run_underlying r,k,j,asAgg,part]
end
theorem df_sel{X Y Z:List Int}(i:Nat)(c:X=dfP x x2 ov ov2)(d:Y=dfP y y2 ov ov2)(e:Z=dfP z z2 ov ov2):Zt i X Y Z=dfP (Zt i x y z) (Zt i x2 y2 z2) ov ov2:=by subst c d e;unfold Zt;split<;>rfl
end Go.Sky
namespace Go.Sky
open Go.Proofs.Tryz
open Go.Proofs
set_option synthInstance.maxHeartbeats 0
set_option synthInstance.maxSize 100000
set_option maxRecDepth 20000
set_option linter.unusedSimpArgs false
variable{zd:Int}{d i:Nat}{x:Operand}{va vb:Value}{pa pb:List Zj}{ops:Array Oper}{o:Oper}{rest:List Oper}{ops':List Operand}{tys:Array TypeId}{w0:World}{M:Nat->Prop}{Jx:World->Prop}{pre:List Pc}
theorem Zz3:Qp prog 172 #[.int .i64 zd] [] (.bool (dsB zd)):=by
 refine Zf func172 ntmps172 λw0 e c a=>go 10 ?_;refine Yn 5 J (λb=>?_) (λb=>?_)
 .refine go 7 ?_;exact Xc a () results172 (by unfold dsB;first|(simp_all;done)|(simp_all;omega)) aA Za
 .refine go 7 ?_;exact Xc a () results172 (by unfold dsB;first|(simp_all;done)|(simp_all;omega)) aA Za
theorem Zh3{v w:Value}{c d:List Int}{fr H f k p b:Int}{I N P r s t:Value}(e:FmX c d f b 1)(z:∀a∈c,Me a)(h:c.length<=6)(B:∀a∈d,Me a)(j:d.length<=6)(D:Me f)(l:Me b):Cal prog 301 #[v,w,.agg #[.int .i64 fr,.int .i64 H,.int .i64 f,I,N,P],.agg #[.int .i64 k,.int .i64 p,.int .i64 b,r,s,t]] [Yg 1 Zz v c,Yg 1 Zz w d] true (G:=SL×List Int) (λg=>g.2=dfP c d f b) (λg=>Xw g.1) (λg=>[Yg 2 wv (Xw g.1) g.2]):=by refine Zf func301 ntmps301 λw0 S R m=>go 2 ?_;refine Ym (Yj 3) λQ _=>Ym (Yj 4) λu _=>go 6 ?_;refine cl 5 [1] (Cl z (aB h O3)) λ_ _=>?_;refine Zo (Ol 5 (q:=Yg 2 wv _ (tzl c)) (aL (Yg 2 wv _) (aD (Zdr h))) J J)<|go 10 ?_;refine cl 6 [2] (Cl B (aB j O3)) λ_ _=>?_;refine Zo (Ol 6 (q:=Yg 2 wv _ (tzl d)) (aL (Yg 2 wv _) (aD (Zdr j))) J J)<|go 12 ?_;refine cl 6 [] (Zn b l) λ_ _=>cl 7 [5] (Pi _ b e.v1 e.b1 e.s1) λ_ _=>go 11 ?_;refine cl 7 [] (Zn f D) λ_ _=>cl 8 [6] (Pi _ f e.v2 e.a1 e.s2) λ_ _=>go 10 ?_;refine cl 9 [7,8] (Zo9 (Yf (tzl c) b) (Yf (tzl d) f) e.v3 e.v4 e.s3) λ_ _=>?_;refine Zo (Ol 9 (q:=Yg 2 wv _ (dfP c d f b)) (aL (Yg 2 wv _) J) J J)<|go 13 ?_;refine Ae (Xl 9 J Zh) (λF n=>?_);subst n;generalize dfP c d f b=y;exact Xc m (F,y) results301 J J (Oz 9 Za)
theorem Ygf{fr Y e s t b:Int}{Z vy vz u B D:Value}{x y z h j k:List Int}(l:Sgo fr Y e x y z)(c:Sgo s t b h j k)(hA:∀i,Ab KA (tzl (Zt i x y z)))(I:∀i,Ab KA (tzl (Zt i h j k)))(R:dsB zd=true):Cal prog 248 #[.agg #[.int .i64 fr,.int .i64 Y,.int .i64 e,Z,vy,vz],.agg #[.int .i64 s,.int .i64 t,.int .i64 b,u,B,D],.int .i64 zd] [Yg 1 Zz Z x,Yg 1 Zz vy y,Yg 1 Zz vz z,Yg 1 Zz u h,Yg 1 Zz B j,Yg 1 Zz D k] true (G:=SL×List Int) (λg=>g.2=fmZ zd 1 1 e b x y z h j k) (λg=>Xw g.1) (λg=>[Yg 2 wv (Xw g.1) g.2]):=by
 refine Zf func248 ntmps248 λw0 sc hw P=>?_;have n:=fsX l c hA I R;refine go 2<|Ym (Yj 7) λbx _=>Ym (Yj 8) λS _=>go 5 ?_;refine tt (Xm [(0,_)] 9 (enc:=Zz) ([-1]:List Int) J J K2 Nr ti3 J J J J J pZ.cells J J hw.h) (λv _=>?_);refine Zo (Xj 9 J J pZ)<|cl 10 [9] (Cl (λa ha=>by rw [bZ.1 ha];exact⟨O3,O3⟩)) λ_ _=>?_;refine Zo (Ol 10 (q:=Yg 2 wv _ [-1]) (aL (Yg 2 wv _) tzlm1) J J)<|go 15 ?_;refine dt (Xv [(0,_),(1,_),(2,_)] J K6 (λa w hs=>Yeu ((Ze J) a w hs) ((Ze J) a w hs) ((Ze J) a w hs)))<|go 4 ?_;refine Zl (Nt 10 80 J J J)<|lp (G:=Nat×Value) [3,4,23] [0,1,2,3,4,5,6,7,8,9,10] (λq=>[(24,.int .i64 (q.1:Int)),(7,q.2)]) (λq=>[(80,Yg 2 wv q.2 (ngC [zd,e,b] q.1))]) (λq=>q.1<=3) (λq=>3-q.1) (0,_) O1 K2 K1 ?_;rintro⟨i,vs⟩ hi;dsimp only at hi;dsimp only;have f:=n.N i hi;refine go 6<|Zc J (λF=>?_) (λF=>?_)
 .refine go 6 ?_;refine dt (d_ix3i (i:=i) J J J underlying150 Dg iA3 J O)<|go 7 ?_;refine cl 10 [] (Zn ([zd,e,b].getD i 0) f.inn) λ_ _=>cl 11 [80] (Pi (ngC [zd,e,b] i) ([zd,e,b].getD i 0) f.v f.b f.s) λ_ _=>go 9 ?_;refine cl 11 [] (Zn ([zd,e,b].getD i 0) f.inn) λ_ _=>cl 12 [11] (Pi (Yf (ngC [zd,e,b] i) ([zd,e,b].getD i 0)) ([zd,e,b].getD i 0) f.v2 f.b f.s2) λ_ _=>?_;refine go 11 ⟨O,?_⟩;exact Zr (Nt 12 80 J J J)<|Yv (i+1,_) O1 O1 K2 K1
 .obtain rfl:i=3:=O;refine go 7<|Qj (λ_=>False) [(0,0),(1,0),(2,0),(3,0),(4,0),(5,0),(7,0),(8,0),(9,0),(10,0),(11,0),(12,0),(14,0),(15,0),(16,0),(17,0),(18,0),(19,0),(22,0),(6,1),(13,1),(20,1),(21,0)]<|go 19<|Xq (Zs 13 [1,4] (Zh3 (n.X 0) (l.hc 0) (l.lc 0).2 (c.hc 0) (c.lc 0).2 (Zgc l) (Zgc c))) λfq N=>Xq (Zs 14 [2,5] (Zh3 (n.X 1) (l.hc 1) (l.lc 1).2 (c.hc 1) (c.lc 1).2 (Zgc l) (Zgc c))) λV p=>Xq (Zs 15 [3,6] (Zh3 (n.X 2) (l.hc 2) (l.lc 2).2 (c.hc 2) (c.lc 2).2 (Zgc l) (Zgc c))) λW r=>?_;refine Xp J J (Qv (Xv [(0,_),(1,_),(2,_)] J K6 (λa w hs=>Yew ((Qm 13 J Zh) a w hs) ((Qm 14 J Zh) a w hs) ((Qm 15 J Zh) a w hs))))<|go 3 ?_;refine lp (G:=Nat×Value) [63] [0,1,2,3,4,5,6,7,8,9,10,13,14,15] (λq=>[(64,.int .i64 (q.1:Int)),(7,q.2)]) (λq=>[(80,Yg 2 wv q.2 (smS zd e b x y z h j k q.1))]) (λq=>q.1<=3) (λq=>3-q.1) (0,_) O1 K2 K1 ?_;rintro⟨i,vs⟩ hi;dsimp only at hi;dsimp only;have m:=n.X i;refine go 6<|Zc J (λH=>?_) (λH=>?_)
  .refine go 5<|Zl (Zav i 13 14 15 90 J J J J J J)<|Zl (Ol 90 (q:=Yg 2 wv _ (dfP (Zt i x y z) (Zt i h j k) e b)) (aL (Yg 2 wv _) (df_sel i N p r)) J J)<|go 1 ?_;refine dt (Zle i J J J underlying141 sizeOf140 isAgg140 J)<|go 7 ?_;refine cl 16 [90,90] (Zie (dfP (Zt i x y z) (Zt i h j k) e b) (dfP (Zt i x y z) (Zt i h j k) e b) m.v5 m.v5 m.m5) λ_ _=>?_;refine Zo (Ol 16 (q:=Yg 2 wv _ (fqS e b x y z h j k i)) (aL (Yg 2 wv _) J) J J)<|go 9 ?_;refine cl 17 [80,16] (Zpc (smS zd e b x y z h j k i) (fqS e b x y z h j k i) (n.Q.v i O) m.v8 (n.Q.s i O)) λ_ _=>?_;refine go 11 ⟨O,?_⟩;exact Zr (Nt 17 80 J J J)<|Yv (i+1,_) O1 O1 K2 K1
  .obtain rfl:i=3:=O;refine go 8 ?_;refine cl 18 [80] (Pp (n.Q.v 3 (aK _))) λ_ _=>?_;refine Zo (Ol 18 (q:=Yg 2 wv _ (fmZ zd 1 1 e b x y z h j k)) (aL (Yg 2 wv _) (fsZ zd e b x y z h j k).symm) J J)<|go 13 ?_;refine Ae (Xl 18 J Zh) (λsq Q=>?_);subst Q;generalize fmZ zd 1 1 e b x y z h j k=X9;exact Xc P (sq,X9) results248 J J (Oz 18 Za)
theorem Yge(l:∀g∈pa,Gin g)(m:∀g∈pb,Gin g)(f:Xk pa=true)(h:Xk pb=true)(N:pa.length<=5)(P:pb.length<=5)(Q:dsB zd=true):Cal prog 173 #[va,vb,.int .i64 zd] [Qh 6 Qu qG va pa,Qh 6 Qu qG vb pb] true (G:=Value×List GpT) (λg=>g.2.map unP=Mu zd 1 1 pa pb) (λg=> .tuple #[g.1,.int .i64 (Gr pa pb)]) (λg=>[Qh 3 Ei qGp g.1 g.2]):=by
 refine Zf func173 ntmps173 λw0 sc R s=>go 10 ?_;refine cl 3 [1,2] (Zkk l m f h N P) λb c=>go 16<|Zc J (λe=>?_) (λe=>?_)
 .have F:=e;refine go 8<|Zr (Hs 72 3 Ei qGp) ?_;exact Na s (.slice none 0 0,[]) results173 (by rw [Yco F]) (Ycm O).symm (Oz 72 Za)
 .have F:=e;refine go 16<|Zl (Nn 74 3 178 Ei)<|Zl (Ye qGp 76) ?_;have H:=Zni l m f h;have W:b.1.2.length=(Nw pa pb pa).length:=by rw [<-c.1,aQ]
  have Y:b.2.2.length=(Nw pa pb pb).length:=by rw [<-c.2,aQ]
  refine lp (G:=Nat×Value×List GpT) [2,9,10,23,24] [0,1,2,3,4] (λq=>[(25,.int .i64 (q.1:Int)),(11,q.2.1)]) (λq=>[(74,Pt 3 178 Ei q.2.1 q.2.2),(76,Im qGp q.2.2)]) (λq=>(q.1<=b.1.2.length)/\(q.2.2.map unP=(Mu zd 1 1 pa pb).take q.1)/\(q.2.2.length=q.1)) (λq=>b.1.2.length-q.1) (0,.slice none 0 0,[]) ⟨O1,(by rw [dY];rfl),rfl⟩ K2 K2 ?_;rintro⟨k,vq,S⟩ ⟨V,n,t⟩;dsimp only at V n t;dsimp only;refine go 6<|Zc J (λD=>?_) (λD=>?_)
  .refine go 5 ?_;obtain⟨y,p⟩:=Zbh l f c.1 _ (Zk (d:=G0) (show k<b.1.2.length by omega));refine Zl (Ny (b.1.2.getD k G0) ((b.1.2.getD k G0).2.1) 3 51 J J Zk O7)<|Zl (Ny (b.1.2.getD k G0) ((b.1.2.getD k G0).2.2.1) 3 52 J J Zk O7)<|Zl (Ny (b.1.2.getD k G0) ((b.1.2.getD k G0).2.2.2) 3 53 J J Zk O7)<|go 2 ?_;refine dt (Yh 3 k J J J J Zp Zdq Zaa J)<|dt (Po 3 G0 J J J Zp pG)<|Ym (Yd 5) λbx _=>go 4 ?_;obtain⟨B,r⟩:=Zbh m h c.2 _ (Zk (d:=G0) (show k<b.2.2.length by omega));refine Zl (Ny (b.2.2.getD k G0) ((b.2.2.getD k G0).2.1) 4 54 J J Zk O7)<|Zl (Ny (b.2.2.getD k G0) ((b.2.2.getD k G0).2.2.1) 4 55 J J Zk O7)<|Zl (Ny (b.2.2.getD k G0) ((b.2.2.getD k G0).2.2.2) 4 56 J J Zk O7)<|Oj [4,5] [15]<|Ya 0 [(0,0),(1,0),(2,0),(3,0),(4,0),(5,0),(6,0),(7,0),(8,0),(9,0),(10,0),(11,1),(12,0),(13,1),(14,1),(15,3)]<|go 8 ?_;refine Xp J J (Eo (Yh 4 k J J J J Zp Zdq Zaa J) K2)<|Xp J J (Eo (Po 4 G0 J J J Zp pG) K2)<|go 1 ?_;refine Xq (Zs 84 [51,52,53,54,55,56] (Ygf (Hr y p) (Hr B r) (Zat p) (Zat r) Q)) λu I=>?_;refine Xp J J (Eo (Xv [(0,_),(1,_),(2,_)] J K6 (λa w hs=>Zq8 ((Ze J) a w hs) ((Ze J) a w hs) ((Ze J) a w hs))) K2)<|Eh J (Xm [(0,_)] 6 (enc:=Ei) [(gpY (b.1.2.getD k G0) u)] J J K2 underlying155 ti178 J J Zvb J J pGp.cells J J R.h) (λv _=>?_);refine Eh J (Ze9 74 J J J K2 (λj=>(Zbt 74 6 40 J J J J J J O3 J (Yc pGp) underlying155 ti178 J pGp J J J O8 O3 J R.h j))) λZ _=>go 2 ?_;refine Yu<|go 6 ⟨O,?_⟩;exact Zr (Zd (q:=qGp) (z:=(gpY (b.1.2.getD k G0) u)) 76 84 76 J J J J J)<|Yv (k+1,_,S ++ [(gpY (b.1.2.getD k G0) u)]) ⟨O1,Zu4 c.1 c.2 n O O I,by rw [aS,t];rfl⟩ O1 K2 K2
  .obtain rfl:k=b.1.2.length:=O;refine go 14<|Zr (Xj 74 J J pGp)<|Zr (Xt 74 76 78 J J J J) ?_;exact Na s (vq,S) results173 (by rw [Ycn F]) (Yci c.1 H.1 n) (Oz 78 Za)
theorem Ygh(e:∀g∈pa,Gin g)(f:∀g∈pb,Gin g)(a:Xk pa=true)(c:Xk pb=true)(k:pa.length<=5)(l:pb.length<=5)(h:dsB zd=true):Cal prog 107 #[va,vb,.int .i64 zd] [Qh 6 Qu qG va pa,Qh 6 Qu qG vb pb] true (G:=Value×List GpT) (λg=>g.2.map unP=Mu zd 1 1 pa pb) (λg=> .tuple #[g.1,.int .i64 (Gr pa pb)]) (λg=>[Qh 3 Ei qGp g.1 g.2]):=by refine Zf func107 ntmps107 λw0 q p m=>go 10 ?_;refine cl 2 [1] (Ho e) λ_ _=>?_;refine dt (dF (Xi J J) (aL (λb=>Value.bool (!b)) a))<|go 2 ?_;refine It 2 [2] (Ho f) λ_ _=>?_;refine Bb (dF (Xi J J) (aL (λb=>Value.bool (!b)) c)) J J<|go 3 ?_;refine It 2 [] Zz3 λ_ _=>?_;refine Bb (dF (Xi J J) (aL (λb=>Value.bool (!b)) h)) J J<|go 11 ?_;refine cl 3 [1,2] (Yge e f a c k l h) λn j=>go 7 ?_;exact Na m _ results107 J j (Oz 3 Za)
open Go.RowKit Below
variable {P:Program} {N:Nat} {sc:Nat->Prop} {env env':Xz} {H H':Hp} {Q Q':Exit->Act->World->Prop}
def fctP(p:Prop):Pc:={ own:=false,fp:=λ_=>False,holds:=λ_=>p,lt:=λ_ _ _ h=>h.elim,stable:=λ_ _ h _=>h }
theorem wtd{j e:Nat}{b:Bool}(h:o.guard=some (j,b))(k:(ops[j]?).bind (·.dst)=some e)(g:lk env e=some (.bool b))(c:Nat.blt e N=true):∀a w,Sat N sc env H a w->Region.wanted o (yielded ops a.tmps)=true:=λa w hs=>by have f:=hs.yielded k g c;simp [Region.wanted,h,f]
theorem Oy{v:Value}(f:Nf P N sc o env H v)(e:∀a w,Sat N sc env H a w->Region.wanted o (yielded ops a.tmps)=true)(c:o.dst=some d)(b:Nat.blt d N=true)(h:LI P N sc ops rest Q ((d,v)::env) H):LI P N sc ops (o::rest) Q env H:=λa w hs=>by unfold wpListIn;rw [aF (e a w hs)];refine⟨λ_ _=>trivial,?_⟩;show o.uponIn Fence.wide 0 P a _ Q ((execOp a.eval o).run P w);rw [f a w hs];show wpListIn Fence.wide 0 P ops Q rest (a.put o.dst v) w;rw [c];exact h _ w (hs.put d v b)
theorem Zb4 (vs:List Value)(pre:List Pc)    {l:Nat}     {W:World}  {J:Nat->World->Prop}  {α G:Type} {xs:List α} {ys:α->G->List Value} {D:α->G->List Pc} 
  {k:Nat} (y:α) (g:G) (hY:YJI P w0 l M J Jx xs ys D) (hy:xs[k]? = some y) (hJ:J k W) (hW:w0.heap.size<=W.heap.size) (m:∀p∈pre,∀b,p.fp b->b<w0.heap.size/\¬M b)
  (ho:o.op= .call { callee:= .value x,args:=ops'.toArray,argTypes:=tys }) (hg:∀a w,Sat N sc env H a w->Region.wanted o (yielded ops a.tmps)=true) (hd:o.dst=some d) (Z:Nat.blt d N=true) (hx:ev env x=some (.func (.yield l) #[] #[])) (r:EvL env ops' vs) (S:vs=ys y g)
  (h0:lk H 0=some (Yt W (λ_=>False))) (u:∀p∈D y g,p.own=false/\(∀b,p.fp b->W.heap.size<=b)/\∃i I,lk H i=some I/\∀w,I.holds w->p.holds w)
  (v:AllRo pre) (n:HSub (Yr 1 pre) H)
  (ht:∀c,J (k+1) c->w0.heap.size<=c.heap.size->LI P N sc ops rest Q ((d,.bool true)::env) ((0,Yt c (λ_=>False))::Yr 1 pre))
  (hf:∀c,Jx c->w0.heap.size<=c.heap.size->LI P N sc ops rest Q ((d,.bool false)::env) ((0,Yt c (λ_=>False))::Yr 1 pre)):LI P N sc ops (o::rest) Q env H:=λa w hs=>by
 subst S;have Y:=Kd (hs.hold 0 _ h0);obtain⟨fn,F,f,s,z,j⟩:=hY k y g hy W w hJ hW Y (λp hp=>by obtain⟨h1,h2,i,I,hi,hh⟩:=u p hp;exact⟨hh w (hs.hold i I hi),h1,h2⟩)
 have R:(o.semAt Fence.wide.round a.eval).run P w= .ok (.round l fn F f s) w:=by show(execOp a.eval o).run P w=_;have hm:=r.map hs;have V:=hs.ev hx;simp [execOp,ho,resolve,invoke,Deferred.ofValue,hm,V,z,Sem.run_bind]
 unfold wpListIn;rw [aF (hg a w hs)];refine⟨λ_ _=>trivial,?_⟩;rw [R];refine⟨λh=>(by cases h),j.mono ?_⟩;have B:w0.heap.size<=w.heap.size:=aB hW Y.size;rintro e c (⟨rfl,q,t⟩|⟨rfl,q,t⟩)
 .show wpListIn Fence.wide 0 P ops Q rest (a.put o.dst _) c;rw [hd];exact ht c q (aB B t.size) _ c ((hs.base m v n t).put d _ Z)
 .show wpListIn Fence.wide 0 P ops Q rest (a.put o.dst _) c;rw [hd];exact hf c q (aB B t.size) _ c ((hs.base m v n t).put d _ Z)
theorem Zha{α:Type}{ps:List α}{p:α->Bool}{d:α}(hi:i<ps.length)(b:p (ps.getD i d)=true):(ps.filter p)[((ps.take i).filter p).length]? = some (ps.getD i d):=by
 have h:=fC i ps;have a:ps.drop i=ps.getD i d::ps.drop (i+1):=by rw [aC,aH hi,eI];exact dP hi
 conv=>lhs;arg 1;rw [<-h,a]
 rw [fI,eO b];simp
theorem Zu8{α:Type}{ps:List α}{p:α->Bool}{d:α}(hi:i<ps.length)(a:p (ps.getD i d)=true):((ps.take (i+1)).filter p).length=((ps.take i).filter p).length+1:=by rw [Qb d _ hi,fI,eO a,aS];rfl
theorem Zu9{α:Type}{ps:List α}{p:α->Bool}{d:α}(hi:i<ps.length)(a:p (ps.getD i d)=false):((ps.take (i+1)).filter p).length=((ps.take i).filter p).length:=by rw [Qb d _ hi,fI,fZ (by rw [a];exact dG),aS];rfl
theorem Zeq{φ:Prop}{n:Nat}{H:Hp}{k:Pc}(h:φ)(c:lk H 0=some k):∀p∈[fctP φ],p.own=false/\(∀b,p.fp b->n<=b)/\∃i a,lk H i=some a/\∀w,a.holds w->p.holds w:=λp f=>by rw [bZ.1 f];exact⟨rfl,λb e=>e.elim,0,k,c,λ_ _=>h⟩
theorem fk_of{fn:Func}{al:Bool}{G:Type}{φ:G->Prop}{val:G->Value}{b:G->List Pc}(h:X N sc .ret (Zag P fn w0 pre al φ val b) env H):X N sc .ret (Zdi P fn w0 pre al φ val b) env H:=λa w hs=>by obtain⟨e,v,f,c⟩:=h a w hs;show LeavesInM Fence.wide 0 P fn a.tmps _ a.defers .returning w;rw [e];exact⟨v,f,c⟩
end Go.Sky
namespace Go.Sky
open Go.Proofs.Tryz
open Go.Proofs
set_option synthInstance.maxHeartbeats 0
set_option synthInstance.maxSize 100000
set_option maxRecDepth 20000
set_option linter.unusedSimpArgs false
variable{D:Int}{a b:List Zj}{zs:List GpT}
theorem Cy(x y:Int)(f:Me x)(g:Me y)(d:y≠0):Qp prog 176 #[.int .i64 x,.int .i64 y] [] (.agg #[.bool (decide (Hi x y<0)),.string (Xn (Hi x y).natAbs),.bool (decide (Ij x y<0)),.string (Xn (Ij x y).natAbs)]):=by refine Zf func176 ntmps176 λk j i c=>go 2 ?_;refine Ym (Yd 1) λh _=>go 6 ?_;refine cl 1 [] (Hk x y f g d) λ_ _=>go 3<|Ym (Yd 2) λe _=>go 11 ?_;exact Xc c () results176 J aA Za
theorem Ygg(v:Value)(zs:List GpT)(Q:Nat)(B:∀z∈zs,Cvd z.2.2):Yjv prog 174 [.pointer (some ⟨Q,0,none⟩)] [Ke Q 155 #[v],Qh 3 Ei qGp v zs] (α:=GpT) (G:=R2) (zs.filter (λz:GpT=>Et z.2.2)) (λc g=>[.agg #[.int .i64 c.1.1,.int .i64 c.1.2,Xw c.2.1],.agg #[.bool (decide (g.1<0)),.string (Xn (g.1).natAbs),.bool (decide (g.2<0)),.string (Xn (g.2).natAbs)]]) (λc g=>[fctP (Fnd c.2.2 (qv (0,1)) (qv (1,1)) g)]):=by
 refine Zv9 func174 J ntmps174 J K2 ?_;intro l M JI Jx w0 sc hw k o h y w;simp only [Qd,Yr];have F:=Hw.mk hw;refine Qf (Py (i:=2) J Zp) λa3=>go 8 ?_;refine lp (G:=Nat×World) [0,8,9] [1,2] (λq=>[(10,.int .i64 (q.1:Int))]) (λq=>[(0,Yt q.2 (λ_=>False))]) (λq=>(q.1<=zs.length)/\(JI ((zs.take q.1).filter (λz:GpT=>Et z.2.2)).length q.2)/\(w0.heap.size<=q.2.heap.size)) (λq=>zs.length-q.1) (0,w0) ⟨O1,y,aK _⟩ K1 K1 ?_;rintro⟨i,W⟩ ⟨hi,n,p⟩;dsimp only at hi n p;dsimp only;have b2:=hw_up F p;refine go 6<|Zc J (λx=>?_) (λx=>?_)
 .refine go 5<|Zl (Ht 2 55 (zs.getD i Gp0) J J Zk J) ?_;have j:=B (zs.getD i Gp0) Zk;refine go 1 ?_;refine dt (Yh 2 i J J J J Zp underlying155 sizeOf178 J)<|dt (Po 2 Gp0 J J J Zp pGp)<|Ym (Yd 3) λbx _=>go 4 ?_;rcases tf (Et (zs.getD i Gp0).2.2)with d|d
  .refine Oj [3] [12]<|Ya 11 [(0,0),(1,0)]<|go 3 ?_;refine Ml 10 2 9 ?_ ?_
   .refine Hh (Zs 3 [] (Cy 0 1 ⟨O3,O3⟩ ⟨O3,O3⟩ O3)) λ_ _=>?_;refine Ml 9 3 9 ?_ ?_
    .refine Hh (Zs 3 [] (Cy 1 1 ⟨O3,O3⟩ ⟨O3,O3⟩ O3)) λ_ _=>?_;refine Ml 8 4 9 ?_ ?_
     .refine Hh (Zs 3 [55] (Ko (0,1) (1,1) j Zco Zcn Zcp d)) λ_ _=>?_;refine Ya 0 [(5,0),(6,0),(7,0),(8,0),(9,1),(10,1),(11,0),(12,3)]<|go 4 ?_;refine Xq (Ii 4) λR ho=>go 4<|Yu<|go 21 ⟨O,?_⟩;exact Yv (i+1,W) ⟨O1,by rw [Zu9 O d];exact n,p⟩ O1 K1 K1
     .refine Hh (Ii 5) λS a4=>?_;refine Ya 0 [(4,1),(5,0),(6,0),(7,0),(8,0),(10,1),(11,0),(12,3)]<|Xq (Zs 5 [55] (Ko (0,1) (1,1) j Zco Zcn Zcp d)) λ_ _=>go 8 ?_;refine Yu<|go 21 ⟨O,?_⟩;exact Yv (i+1,W) ⟨O1,by rw [Zu9 O d];exact n,p⟩ O1 K1 K1
    .refine Hh (Ii 6) λV a5=>?_;refine Ya 0 [(3,1),(4,1),(5,0),(6,0),(7,0),(8,0),(10,1),(11,0),(12,3)]<|Xq (Zs 6 [] (Cy 1 1 ⟨O3,O3⟩ ⟨O3,O3⟩ O3)) λ_ _=>Xq (Zs 6 [55] (Ko (0,1) (1,1) j Zco Zcn Zcp d)) λ_ _=>go 8 ?_;refine Yu<|go 21 ⟨O,?_⟩;exact Yv (i+1,W) ⟨O1,by rw [Zu9 O d];exact n,p⟩ O1 K1 K1
   .refine Hh (Ii 7) λY a6=>?_;refine Ya 0 [(2,1),(3,1),(4,1),(5,0),(6,0),(7,0),(8,0),(10,1),(11,0),(12,3)]<|Xq (Zs 7 [] (Cy 0 1 ⟨O3,O3⟩ ⟨O3,O3⟩ O3)) λ_ _=>Xq (Zs 7 [] (Cy 1 1 ⟨O3,O3⟩ ⟨O3,O3⟩ O3)) λ_ _=>Xq (Zs 7 [55] (Ko (0,1) (1,1) j Zco Zcn Zcp d)) λ_ _=>go 8 ?_;refine Yu<|go 21 ⟨O,?_⟩;exact Yv (i+1,W) ⟨O1,by rw [Zu9 O d];exact n,p⟩ O1 K1 K1
  .refine Oj [3] [12]<|Ya 11 [(0,0),(1,0)]<|go 3 ?_;refine Ml 10 2 9 ?_ ?_
   .refine Hh (Zs 7 [] (Cy 0 1 ⟨O3,O3⟩ ⟨O3,O3⟩ O3)) λ_ _=>?_;refine Ml 9 3 9 ?_ ?_
    .refine Hh (Zs 7 [] (Cy 1 1 ⟨O3,O3⟩ ⟨O3,O3⟩ O3)) λ_ _=>?_;refine Ml 8 4 9 ?_ ?_
     .refine Hh (Zs 7 [55] (Ly (0,1) (1,1) j Zco Zcn Zcp d)) λH r=>?_;refine Ya 0 [(5,0),(6,0),(7,0),(8,0),(9,1),(10,1),(11,0),(12,3)]<|go 4 ?_;refine Xq (Ii 8) λZ a7=>go 4<|Yu<|go 2<|Ydb ?_;refine Ms (Zak J J) J<|Ms (Zak J J) J<|Oy (Zak J J) (wtd J J J J) J J<|Oy (DI.h aA) (wtd J J J J) J J<|Oy (DI.h aA) (wtd J J J J) J J<|Zb4 [_,_] [_,_] (zs.getD i Gp0) H w (Zha O d) n p k J (wtd J J J J) J J J K2 J J (Zeq r J) K2 K2 (λm e f=>?_) (λm e f=>?_)
      .simp only [Yr];refine Oy (dF (Xi J J) J) (wtd J J J J) J J<|Ms (Dc J J J) J<|Cz<|go 9 ⟨O,?_⟩;exact Yv (i+1,m) ⟨O1,by rw [Zu8 O d];exact e,f⟩ O1 K1 K1
      .simp only [Yr];refine Oy (dT (Xi J J) J) (wtd J J J J) J J<|Ms (Dc J J J) J<|Cz<|go 7 ?_;exact Zcq (.inl J) J J o h (.inr e)
     .refine Hh (Ii 9) λa0 a8=>?_;refine Ya 0 [(4,1),(5,0),(6,0),(7,0),(8,0),(10,1),(11,0),(12,3)]<|Xq (Zs 9 [55] (Ly (0,1) (1,1) j Zco Zcn Zcp d)) λI s=>go 8 ?_;refine Yu<|go 2<|Ydb ?_;refine Ms (Zak J J) J<|Ms (Zak J J) J<|Oy (Zak J J) (wtd J J J J) J J<|Oy (DI.h aA) (wtd J J J J) J J<|Oy (DI.h aA) (wtd J J J J) J J<|Zb4 [_,_] [_,_] (zs.getD i Gp0) I w (Zha O d) n p k J (wtd J J J J) J J J K2 J J (Zeq s J) K2 K2 (λm e f=>?_) (λm e f=>?_)
      .simp only [Yr];refine Oy (dF (Xi J J) J) (wtd J J J J) J J<|Ms (Dc J J J) J<|Cz<|go 9 ⟨O,?_⟩;exact Yv (i+1,m) ⟨O1,by rw [Zu8 O d];exact e,f⟩ O1 K1 K1
      .simp only [Yr];refine Oy (dT (Xi J J) J) (wtd J J J J) J J<|Ms (Dc J J J) J<|Cz<|go 7 ?_;exact Zcq (.inl J) J J o h (.inr e)
    .refine Hh (Ii 10) λa1 a9=>?_;refine Ya 0 [(3,1),(4,1),(5,0),(6,0),(7,0),(8,0),(10,1),(11,0),(12,3)]<|Xq (Zs 10 [] (Cy 1 1 ⟨O3,O3⟩ ⟨O3,O3⟩ O3)) λ_ _=>Xq (Zs 10 [55] (Ly (0,1) (1,1) j Zco Zcn Zcp d)) λN t=>go 8 ?_;refine Yu<|go 2<|Ydb ?_;refine Ms (Zak J J) J<|Ms (Zak J J) J<|Oy (Zak J J) (wtd J J J J) J J<|Oy (DI.h aA) (wtd J J J J) J J<|Oy (DI.h aA) (wtd J J J J) J J<|Zb4 [_,_] [_,_] (zs.getD i Gp0) N w (Zha O d) n p k J (wtd J J J J) J J J K2 J J (Zeq t J) K2 K2 (λm e f=>?_) (λm e f=>?_)
     .simp only [Yr];refine Oy (dF (Xi J J) J) (wtd J J J J) J J<|Ms (Dc J J J) J<|Cz<|go 9 ⟨O,?_⟩;exact Yv (i+1,m) ⟨O1,by rw [Zu8 O d];exact e,f⟩ O1 K1 K1
     .simp only [Yr];refine Oy (dT (Xi J J) J) (wtd J J J J) J J<|Ms (Dc J J J) J<|Cz<|go 7 ?_;exact Zcq (.inl J) J J o h (.inr e)
   .refine Hh (Ii 11) λa2 b0=>?_;refine Ya 0 [(2,1),(3,1),(4,1),(5,0),(6,0),(7,0),(8,0),(10,1),(11,0),(12,3)]<|Xq (Zs 11 [] (Cy 0 1 ⟨O3,O3⟩ ⟨O3,O3⟩ O3)) λ_ _=>Xq (Zs 11 [] (Cy 1 1 ⟨O3,O3⟩ ⟨O3,O3⟩ O3)) λ_ _=>Xq (Zs 11 [55] (Ly (0,1) (1,1) j Zco Zcn Zcp d)) λP u=>go 8 ?_;refine Yu<|go 2<|Ydb ?_;refine Ms (Zak J J) J<|Ms (Zak J J) J<|Oy (Zak J J) (wtd J J J J) J J<|Oy (DI.h aA) (wtd J J J J) J J<|Oy (DI.h aA) (wtd J J J J) J J<|Zb4 [_,_] [_,_] (zs.getD i Gp0) P w (Zha O d) n p k J (wtd J J J J) J J J K2 J J (Zeq u J) K2 K2 (λm e f=>?_) (λm e f=>?_)
    .simp only [Yr];refine Oy (dF (Xi J J) J) (wtd J J J J) J J<|Ms (Dc J J J) J<|Cz<|go 9 ⟨O,?_⟩;exact Yv (i+1,m) ⟨O1,by rw [Zu8 O d];exact e,f⟩ O1 K1 K1
    .simp only [Yr];refine Oy (dT (Xi J J) J) (wtd J J J J) J J<|Ms (Dc J J J) J<|Cz<|go 7 ?_;exact Zcq (.inl J) J J o h (.inr e)
 .obtain rfl:i=zs.length:=O;rw [bM]at n;exact go 4<|Zcq (.inr J) J J o h (.inl n)
theorem Yis(e:∀g∈a,Gin g)(f:∀g∈b,Gin g)(c:Xk a=true)(d:Xk b=true)(l:dsB D=true)(h:zs.map unP=Mu D 1 1 a b):∀z∈zs,Cvd z.2.2:=λz j=>by obtain⟨k,i,rfl⟩:=gY j;have:=cvd_as e f c d l h i;rwa [aC,aH i]at this
def nbF(z:GpT):Bool:=Et z.2.2
theorem Yjo{n d:Int}(h:zs.map unP=Mu D n d a b)(c:¬Gr a b≠0)(e:(zs.filter λz=>Et z.2.2).length=0):apZ D n d a b=true:=by
 refine ap_no ?_ (fB.1 c);rw [Ycr h λi hi=>?_];cases hn:Et (zs.getD i Gp0).2.2 with
 | false=>rfl
 | true=>
  have:zs.getD i Gp0∈zs.filter λz=>Et z.2.2:=fR.2 ⟨Zk hi,hn⟩;rw [aE e]at this;cases this
theorem Yep{n d:Int}{k:Nat}{x:GpT}(h:zs.map unP=Mu D n d a b)(f:(zs.filter λz=>Et z.2.2)[k]? = some x):apZ D n d a b=false:=by
 have c:=(fR.1 (kQ f));refine ap_is ?_;cases hf:(Zaj (Mu D n d a b)).2.2 with
 | true=>rfl
 | false=>
  exfalso;have e:Zsf (Mu D n d a b)=none:=by
   cases he:Zsf (Mu D n d a b)with
   | none=>rfl
   | some g=>unfold Zaj at hf;rw [he]at hf;cases hf
  have:=nP.1 e (unP x) (by rw [<-h];exact eQ.2 ⟨x,c.1,rfl⟩);exact this c.2
theorem se_bad{v:Value}:Cal prog 108 #[v] [Qh 3 Ei qGp v zs] true (G:=Nat) (λg=>True) (λg=> .func (.func 174) #[] #[.pointer (some ⟨g,0,none⟩)]) (λg=>[Ke g 155 #[v]]):=by refine Zf func108 ntmps108 λj h f c=>?_;refine Zqe (Xl 1 J Zp) (λi d=>?_);subst d;refine go 2<|Ym (Yj 2) λe _=>go 5 ?_;refine dt (Zvs [] [_] J aA K1)<|go 4 ?_;exact Zr (Zfh 2 J J)<|Xc c _ results108 J aA (Oz 2 Za)
theorem Zz4{Q R:Value}(o r:List Zj)(F:Int)(y:∀g∈o,Gin g)(z:∀g∈r,Gin g)(u:Xk o=true)(v:Xk r=true)(H:o.length<=5)(I:r.length<=5)(B:dsB F=true):Qp prog 44 #[Q,R,.int .i64 F] [Qh 6 Qu qG Q o,Qh 6 Qu qG R r] (.tuple #[.bool (apZ F 1 1 o r),.int .i64 (Gr o r)]):=by
 refine Zwa func44 J ntmps44 J K2 ?_;intro s sc M n;have M:=Hw.mk M;simp only [Qd,Yr];refine go 2<|Ym (Yd 3) λe _=>Ym (Yd 4) λc _=>go 7 ?_;refine cl 5 [1,2] (Ygh y z u v H I B) λi m=>go 14<|Zc J (λj=>?_) (λj=>?_)
 .have t:=j;refine go 9 ?_;exact fk_of<|Na n () results44 (by rw [ap_e t]) aA Za
 .have t:=j;refine go 6 ?_;refine cl 6 [5] se_bad λb _=>go 3 ?_;refine e_rfi ([Ke b 155 #[i.1],Qh 3 Ei qGp i.1 i.2]) s (λ(_:Nat) (_:Unit)=>[(0,Yt s (λ_=>False)),(3,box e 4 #[.bool false]),(4,box c 28 #[.int .i64 0])]) (λk _=>k=0) (λ(_:Unit)=>[(0,Yt s (λ_=>False)),(3,box e 4 #[.bool false]),(4,box c 28 #[.int .i64 0])]) (λ_=>apZ F 1 1 o r=false) () J (by intro d w;first|exact enters_of func174 O5 rfl d w|exact call174 d w) (Ygg i.1 i.2 b (Yis y z u v B m)) ?_ (λ_ _=>J) J M.h J J K3 (λ_ _=>⟨J,J⟩) (λ_=>⟨J,J⟩) (λk x Z i W f l S V=>?_) J (λi f D od=>?_) (λ_ N=>?_)
  .intro p P;simp only [bG,dU,iD]at P;rcases P with rfl|rfl
   .exact⟨J,6,J⟩
   .exact⟨J,5,J⟩
  .refine Yc5 (env':=[(6,.pointer (some ⟨e,0,none⟩)),(7,.pointer (some ⟨c,0,none⟩))]) (H':=[(92,Yt V S),(0,Yt s (λ_=>False)),(3,box e 4 #[.bool false]),(4,box c 28 #[.int .i64 0])]) (λa w hs=>hs.weaken ⟨J,J,aA⟩ ⟨J,J,J,J,aA⟩)<|Zvf λa w hs=>⟨J,[(6,.pointer (some ⟨e,0,none⟩)),(7,.pointer (some ⟨c,0,none⟩))],[(0,Yt s (λ_=>False)),(3,box e 4 #[.bool false]),(4,box c 28 #[.int .i64 0])],J,(λq h=>by cases h;rfl),⟨.inr (λb G=>⟨0,_,J,G⟩),.inl J,.inl J,aA⟩,hs.weaken ⟨J,J,aA⟩ ⟨J,J,J,J,aA⟩,λY _=>?_⟩;refine Zqd<|Zna J<|go 2 ?_;refine go 1 ?_;exact Yff<|Yc4 λa w hs=>Or.inr ⟨J,(),Yep m W,⟨.inr (λb G=>⟨0,_,J,G⟩),.inl J,.inl J,aA⟩,[],hs.weaken aA ⟨J,J,J,J,aA⟩⟩
  .refine go 2 ?_;refine go 1 ?_;refine Yfg λa w hs=>⟨J,[(6,.pointer (some ⟨e,0,none⟩)),(7,.pointer (some ⟨c,0,none⟩))],[(0,Yt s (λ_=>False)),(3,box e 4 #[.bool true]),(4,box c 28 #[.int .i64 0])],J,⟨⟨_,J,J,λ_ h=>h⟩,⟨_,J,J,λ_ h=>h⟩,⟨_,J,J,λ_ h=>h⟩,aA⟩,hs.weaken ⟨J,J,aA⟩ ⟨J,J,J,J,aA⟩,?_⟩;exact Na n () results44 (by rw [Yjo m t f,fB.1 t]) aA Za
  .exact Na n () results44 (by rw [N,fB.1 t]) aA Za
def dfA(p q:List Int)(d c:Int)(t:Rat):Rat:=Zb p t*(c:Rat)-Zb q t*(d:Rat)
def fvE(D n d e c:Int)(x y z f g h:List Int)(t:Rat):Rat:=
 ((d:Rat)*dfA x f e c t)*((d:Rat)*dfA x f e c t)+((d:Rat)*dfA y g e c t)*((d:Rat)*dfA y g e c t)+((n:Rat)*dfA z h e c t)*((n:Rat)*dfA z h e c t)
  - ((D:Rat)*(d:Rat)*(e:Rat)*(c:Rat))*((D:Rat)*(d:Rat)*(e:Rat)*(c:Rat))
def fvU(D n d:Int)(g h:Ca)(t:Rat):Rat:=fvE D n d g.1.2.2 h.1.2.2 g.2.1 g.2.2.1 g.2.2.2 h.2.1 h.2.2.1 h.2.2.2 t
def gZ(o:Int)(l:List Int):Nat->Int
 | 0=>o
 | i+1=>(Int.gcd (gZ o l i) (cf l i):Int)
def plC(a d:Int)(x y z:List Int)(t:Nat):Int:=pl (Zt t x y z) a d
def lowL(o:Int)(l:List Int):List Int:=mk 3 λt=>cf l t/gZ o l 3
def lastB(ps:List Zj)(t:Int):Bool:=decide (spF ps<=t) && decide (t<=spL ps)
def exI(ps:List Zj)(t:Int):Nat:=ps.findIdx λg=>decide (t<=g.1.2.1)
def exA(ps:List Zj)(t:Int):Int:=t-(ps.getD (exI ps t) G0).1.1
def exD(ps:List Zj)(t:Int):Int:=(ps.getD (exI ps t) G0).1.2.1-(ps.getD (exI ps t) G0).1.1
def exO(ps:List Zj)(t:Int):Int:=(ps.getD (exI ps t) G0).1.2.2*exD ps t^5/gS (ps.getD (exI ps t) G0).1.2.2 (exA ps t) (exD ps t) (ps.getD (exI ps t) G0).2.1.2 (ps.getD (exI ps t) G0).2.2.1.2 (ps.getD (exI ps t) G0).2.2.2.2 3
def exL(ps:List Zj)(t:Int):List Int:=lowL ((ps.getD (exI ps t) G0).1.2.2*exD ps t^5) (mk 3 (plC (exA ps t) (exD ps t) (ps.getD (exI ps t) G0).2.1.2 (ps.getD (exI ps t) G0).2.2.1.2 (ps.getD (exI ps t) G0).2.2.2.2))
section
variable {P:Program} {N:Nat} {sc:Nat->Prop} {env:Xz} {H:Hp}
end
end Go.Sky
namespace Go.Sky
def exC(ps:List Zj)(t:Int)(c:List Int):Int:=pl c (exA ps t) (exD ps t)/gS (ps.getD (exI ps t) G0).1.2.2 (exA ps t) (exD ps t) (ps.getD (exI ps t) G0).2.1.2 (ps.getD (exI ps t) G0).2.2.1.2 (ps.getD (exI ps t) G0).2.2.2.2 3
open Go.Proofs.Tryz
open Go.Proofs
set_option synthInstance.maxHeartbeats 0
set_option synthInstance.maxSize 100000
set_option maxRecDepth 20000
set_option linter.unusedSimpArgs false
def spX(g:Zj)(i:Nat)(s:Rat):Rat:=Zb (Zt i g.2.1.2 g.2.2.1.2 g.2.2.2.2) s
def exN(ps:List Zj)(t:Int)(i:Nat):Int:=exC ps t (Zt i (ps.getD (exI ps t) G0).2.1.2 (ps.getD (exI ps t) G0).2.2.1.2 (ps.getD (exI ps t) G0).2.2.2.2)
def rdN(ps:List Zj)(t:Int)(i:Nat):Int:=(exN ps t i+exN ps t i+exO ps t)/(exO ps t+exO ps t)
def rdL(ps:List Zj)(t:Int):Nat->List Int
 | 0=>[0,0,0]
 | i+1=>(rdL ps t i).set i (rdN ps t i)
structure AtB (n o:Int):Prop where
 b1:bl n.natAbs<=30000
 b2:bl o.natAbs<=30000
 n2:bl (n+n).natAbs<=30000
 o2:bl (o+o).natAbs<=30000
 s:bl (n+n+o).natAbs<=30000
 z:o+o≠0
 q:((n+n+o)/(o+o)).natAbs<=9223372036854775807
section
variable {P:Program} {N:Nat} {sc:Nat->Prop} {env:Xz} {H:Hp}
end
end Go.Sky
namespace Go.Sky
open Go.Proofs
open Go.Proofs.Tryz
set_option synthInstance.maxHeartbeats 0
set_option synthInstance.maxSize 100000
set_option maxRecDepth 20000
set_option linter.unusedSimpArgs false
open Go.RowKit Below
variable {P:Program} {N:Nat} {sc:Nat->Prop} {env env':Xz} {H H':Hp} {Q Q':Exit->Act->World->Prop} {M:Nat->Prop}
end Go.Sky
namespace Go.Sky
open Go.RowKit Below
variable {P:Program} {N:Nat} {sc:Nat->Prop} {env env':Xz} {H H':Hp} {Q Q':Exit->Act->World->Prop}
end Go.Sky

