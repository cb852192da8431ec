/- Rules, arithmetic and contracts: part 19. No conditions but those that each theorem names. -/
import Derived.Test.YteikicbnfbgpnaaGreatDe17
import Derived.MapKept
set_option linter.all false
set_option maxHeartbeats 4000000
namespace Go.Sky
open Go.Proofs.Tryz
open Go.Proofs
set_option synthInstance.maxHeartbeats 0
set_option synthInstance.maxSize 100000
set_option maxRecDepth 20000
set_option maxHeartbeats 1000000
set_option linter.unusedSimpArgs false
variable{D d:Int}{a b:List Zi}
def bdI:List GpU->Int
 | []=>-1
 | g::l=>if Fz g.2.2 then 0 else if bdI l<0 then -1 else bdI l+1
theorem Zg4{ps:List Zi}{m:Nat}(h:Zaz ps m=true):ps.length<=m:=by unfold Zaz at h;rw [aO]at h;exact bL h.2
open Go Go.MapKept
variable {P:Program} {N:Nat} {sc:Nat->Prop} {env env':Qt} {H H':Hp} {Q Q':Exit->Act->World->Prop} {M:Nat->Prop}
abbrev PT:=SL×List Zi
abbrev PT0:PT:=((none,0,0),[])
abbrev encP (x:PT):Value:=Qi x.1
abbrev qP (x:PT):Pc:=Qc 6 Pd qG (Qi x.1) x.2
def mpc(b:Nat)(c:Array MapEntry)(n:Nat):Pc:=
 {own:=true,fp:=λk=>k=b,holds:=λw=>w.heap[b]? = some (.map c n)
  lt:=λw k h f=>by subst f;exact(bB.1 h).1
  stable:=λw i h e=>by rw [<-h];exact e.block b (bB.1 h).1 (λg=>g rfl) }
def fewsB(m k:Nat)(c:List PT):Bool:=decide (c.length<=m) && c.all λx=>Zaz x.2 k
def valsB(c:List PT):Bool:=c.all λx=>Yt x.2
abbrev ClT:=(Int×Int×Int×Int)×Bool×Int
abbrev clE (r:ClT):Value:= .tuple #[.agg #[.int .i64 r.1.1,.int .i64 r.1.2.1,.int .i64 r.1.2.2.1,.int .i64 r.1.2.2.2],.bool r.2.1,.int .i64 r.2.2]
def pth(ps:List PT)(i:Nat):List Zi:=(ps.getD i PT0).2
def clV(D n d:Int)(ps:List PT)(i k:Nat):ClT:=
 (if(Bf (Nz D n d (pth ps i) (pth ps k))).2.2=true then((i:Int),(k:Int),(Bf (Nz D n d (pth ps i) (pth ps k))).1,(Bf (Nz D n d (pth ps i) (pth ps k))).2.1)else(0,0,0,0),(Bf (Nz D n d (pth ps i) (pth ps k))).2.2,Fa (pth ps i) (pth ps k))
def ClA(D n d:Int)(ps:List PT)(i:Nat):Prop:=∀j k,j<k->k<ps.length->j<i->Bz D n d (pth ps j) (pth ps k)=true
def ClB(D n d:Int)(ps:List PT)(i m:Nat):Prop:=∀k,i<k->k<m->Bz D n d (pth ps i) (pth ps k)=true
def ClR(D n d:Int)(ps:List PT)(r:ClT):Prop:=
 (r=((0,0,0,0),false,0)/\ClA D n d ps ps.length)\/∃i k,i<k/\k<ps.length/\ClA D n d ps i/\ClB D n d ps i k/\Bz D n d (pth ps i) (pth ps k)=false/\r=clV D n d ps i k
theorem ap_no{n:Int}(h:(Bf (Nz D n d a b)).2.2=false)(c:Fa a b=0):Bz D n d a b=true:=by unfold Bz;rw [h,aM c];rfl
theorem ap_is{n:Int}(h:(Bf (Nz D n d a b)).2.2=true):Bz D n d a b=false:=by unfold Bz;rw [h];exact lP _
theorem ap_e{n:Int}(c:Fa a b≠0):Bz D n d a b=false:=by unfold Bz;rw [aJ c];rfl
end Go.Sky
namespace Go.Sky
open Go.Proofs
variable{p q x y z x2 y2 z2:List Int}{a b:List Zi}{D ov ov2:Int}{zs:List GpT}{t:TypeId}{kd:IntKind}
def pPq:Enc Tryz.prog 38 1 encP:=Enc.flat Tryz.sizeOf38 Tryz.isAgg38 (λ_=>rfl)
@[reducible,instance] def encPqI:EncT Tryz.prog 38 1 encP:=⟨pPq⟩
def shCl:Tryz.prog.stoodInHeld 64=false:=O6
theorem Zd9(h:Tr p):Zl p 1=p:=by
 unfold Zl;have:p.map (· * (1:Int))=p:=by rw [show(λx:Int=>x*1)=id from oP λx=>iF x,oM]
 rw [this,Ac h]
def dk_one{a b:Int} : dfK p q a b 1=dfP p q a b:=Zd9 (Qh _)
theorem Yjd{a b:Int} : sqK p q a b 1=sqP p q a b:=by unfold sqK sqP;rw [dk_one]
theorem ng_one(D ov ov2:Int):ngC [D,1,ov,ov2] 4=ngC [D,ov,ov2] 3:=by
 have c:ngC [D,1,ov,ov2] 1=ngC [D,ov,ov2] 1:=rfl;have t1:Tr (ngC [D,ov,ov2] 1):=(Zke _ 1).2.2;have d:ngC [D,1,ov,ov2] 2=ngC [D,ov,ov2] 1:=by show Zl (Zl (ngC [D,1,ov,ov2] 1) 1) 1=_;rw [c,Zd9 t1,Zd9 t1]
 have e:ngC [D,1,ov,ov2] 3=ngC [D,ov,ov2] 2:=by show Zl (Zl (ngC [D,1,ov,ov2] 2) ov) ov=Zl (Zl (ngC [D,ov,ov2] 1) ov) ov;rw [d]
 show Zl (Zl (ngC [D,1,ov,ov2] 3) ov2) ov2=Zl (Zl (ngC [D,ov,ov2] 2) ov2) ov2;rw [e]
def fqS(ov ov2:Int)(x y z x2 y2 z2:List Int)(i:Nat):List Int:=sqP (Zk i x y z) (Zk i x2 y2 z2) ov ov2
def smS(D ov ov2:Int)(x y z x2 y2 z2:List Int)(i:Nat):List Int:=smP (ngC [D,ov,ov2] 3) (fqS ov ov2 x y z x2 y2 z2) i
def Yc8(i:Nat):Zk i (1:Int) 1 1=1:=Gc (p:=λk:Int=>k=1) rfl rfl rfl
theorem fsZ(D ov ov2:Int)(x y z x2 y2 z2:List Int):fmZ D 1 1 ov ov2 x y z x2 y2 z2=Zu (smS D ov ov2 x y z x2 y2 z2 3):=by
 have c:fqZ 1 1 ov ov2 x y z x2 y2 z2=fqS ov ov2 x y z x2 y2 z2:=oP λi=>by unfold fqZ fqS;rw [Yc8,Yjd]
 unfold fmZ smZ smS cnZ;rw [c,ng_one]
def dsB(D:Int):Bool:=decide (0<=D) && decide (D<=4194304)
theorem ds_b(h:dsB D=true):0<=D/\D<=4194304:=by unfold dsB at h;rw [aO,cK,cK]at h;exact h
structure FsX (D ov ov2:Int) (x y z x2 y2 z2:List Int):Prop where
 X:∀i,FmX (Zk i x y z) (Zk i x2 y2 z2) ov ov2 1
 N:∀i,i<=3->NgX [D,ov,ov2] i
 Q:SmX (ngC [D,ov,ov2] 3) (fqS ov ov2 x y z x2 y2 z2)
theorem fsX{fr w d h:Int}(f:Sgo fr w ov x y z)(c:Sgo d h ov2 x2 y2 z2)(m:∀i,Ab KA (tzl (Zk i x y z)))(e:∀i,Ab KA (tzl (Zk i x2 y2 z2)))(o:dsB D=true):FsX D ov ov2 x y z x2 y2 z2:=by
 obtain⟨F,B⟩:=ds_b o;have r:=f.o1;have s:=f.o2;have u:=c.o1;have v:=c.o2;have g:∀i,FmX (Zk i x y z) (Zk i x2 y2 z2) ov ov2 1:=λi=>fmX (m i) (e i) (f.lc i).2 (c.lc i).2 ⟨r,s⟩ ⟨u,v⟩ ⟨O4,O4⟩;have n:∀i,([D,ov,ov2].getD i 0).natAbs<=4294967296:=λi=>by
  match i with
  | 0=>show D.natAbs<=_;omega
  | 1=>show ov.natAbs<=_;omega
  | 2=>show ov2.natAbs<=_;omega
  | i+3=>show(0:Int).natAbs<=_;decide
 refine⟨g,λi hi=>ngX n (aB hi O4),?_⟩;obtain⟨j,k,l⟩:=Zke [D,ov,ov2] 3;refine smX (j.mono ?_) k l (λi=>(g i).ab8) (λi=>(g i).l8);show 1*D.natAbs*D.natAbs*ov.natAbs*ov.natAbs*ov2.natAbs*ov2.natAbs<=2^190;refine aB (aQ (aQ (aQ (aQ (aQ (aQ (aI 1) (show D.natAbs<=4194304 by omega)) (show D.natAbs<=4194304 by omega)) (show ov.natAbs<=4294967296 by omega)) (show ov.natAbs<=4294967296 by omega)) (show ov2.natAbs<=4294967296 by omega)) (show ov2.natAbs<=4294967296 by omega)) O8
theorem Yld(h:FsX D ov ov2 x y z x2 y2 z2):Cvd (fmZ D 1 1 ov ov2 x y z x2 y2 z2):=by rw [fsZ];exact h.Q.d
theorem Yg4(i:∀g∈a,Gin g)(j:∀g∈b,Gin g)(c:Yt a=true)(d:Yt b=true)(I:dsB D=true){xs ys:List Zi}(o:xs.map unS=Ow a b a)(s:ys.map unS=Ow a b b):∀g∈Nz D 1 1 a b,Cvd g.2.2:=λg n=>by
 unfold Nz at n;obtain⟨k,F,e⟩:=eT.1 n;rw [nM]at e;subst e;rw [jS]at F;have f:k<(Ow a b a).length:=O1;have h:k<(Ow a b b).length:=O1;have M:(Ow a b a)[k]∈xs.map unS:=by rw [o];exact eY f
 have N:(Ow a b b)[k]∈ys.map unS:=by rw [s];exact eY h
 obtain⟨q,G,w⟩:=eN.1 M;obtain⟨r,H,B⟩:=eN.1 N;obtain⟨u,l⟩:=Zcc i c o q G;obtain⟨v,m⟩:=Zcc j d s r H;rw [<-w,<-B];simp only [gpZ,unS];exact Yld (fsX (Nx u l) (Nx v m) (Ag l) (Ag m) I)
theorem cvd_as(e:∀g∈a,Gin g)(f:∀g∈b,Gin g)(c:Yt a=true)(d:Yt b=true)(l:dsB D=true)(h:zs.map unP=Nz D 1 1 a b){k:Nat}(i:k<zs.length):Cvd (zs.getD k Gp0).2.2:=by
 have j:unP (zs.getD k Gp0)∈Nz D 1 1 a b:=by rw [<-h];exact eN.2 ⟨_,Ze i,rfl⟩
 exact Yg4 e f c d l (Zhe (Ow a b a)) (Zhe (Ow a b b)) _ j
section
variable {P:Program} {N:Nat} {sc:Nat->Prop} {env:Qt} {H:Hp}
theorem d_ix3i {o:Oper} {x y:Operand} {e:TypeId} {i:Nat}  {m d f g:Int} (n:o.op= .index t x y) (s:ev env x=some (.agg #[.int .i64 d,.int .i64 f,.int .i64 g])) (u:ev env y=some (.int kd m))
  (r:P.underlying t=some (.array 3 e)) (k:∀w,(sizeOf e).run P w= .ok 1 w) (j:∀w,(isAgg e).run P w= .ok false w) (c:m=(i:Int)) (l:i<3):Nv P N sc o env H (.int .i64 ([d,f,g].getD i 0)):=λa w hs=>by
 subst c;have h:i=0\/i=1\/i=2:=O1;rcases h with rfl|rfl|rfl<;>simp [execOp,n,hs.ev s,hs.ev u,Instr.index,asIntOf,run_underlying r,k,j,asAgg,part]
end
theorem df_sel{X Y Z:List Int}(i:Nat)(c:X=dfP x x2 ov ov2)(d:Y=dfP y y2 ov ov2)(e:Z=dfP z z2 ov ov2):Zk i X Y Z=dfP (Zk i x y z) (Zk i x2 y2 z2) ov ov2:=by subst c d e;unfold Zk;split<;>rfl
end Go.Sky
namespace Go.Sky
open Go.Proofs.Tryz
open Go.Proofs
set_option synthInstance.maxHeartbeats 0
set_option synthInstance.maxSize 100000
set_option maxRecDepth 20000
set_option maxHeartbeats 1000000
set_option linter.unusedSimpArgs false
variable{ops:Array Oper}{o:Oper}{rest:List Oper}{d i:Nat}{x:Operand}{ops':List Operand}{tys:Array TypeId}{vs:List Value}{w0:World}{M:Nat->Prop}{Jx:World->Prop}{pre:List Pc}
theorem Ydb(c:Int):Xo prog 93 #[.int .i64 c] [] (.bool (dsB c)):=by
 refine Zf func93 ntmps93 λw0 f e a=>go 10 ?_;refine Yl (d:=5) J (λb=>?_) (λb=>?_)
 .refine go 7 ?_;exact Xj a () results93 (by unfold dsB;first|(simp_all;done)|(simp_all;omega)) aA Za
 .refine go 7 ?_;exact Xj a () results93 (by unfold dsB;first|(simp_all;done)|(simp_all;omega)) aA Za
set_option maxHeartbeats 1000000 in
theorem Zjp(v w:Value)(c d:List Int)(fr H f k p b:Int)(I N P r s t:Value)(e:FmX c d f b 1)(z:∀a∈c,Oz a)(h:c.length<=6)(B:∀a∈d,Oz a)(j:d.length<=6)(D:Oz f)(l:Oz b):Cal prog 161 #[v,w,.agg #[.int .i64 fr,.int .i64 H,.int .i64 f,I,N,P],.agg #[.int .i64 k,.int .i64 p,.int .i64 b,r,s,t]] [Ym 1 Yo v c,Ym 1 Yo w d] true (G:=SL×List Int) (λg=>g.2=dfP c d f b) (λg=>Qi g.1) (λg=>[Ym 2 wv (Qi g.1) g.2]):=by refine Zf func161 ntmps161 λw0 S R m=>go 2 ?_;refine Yh (Yi 3) λQ _=>Yh (Yi 4) λu _=>go 6 ?_;refine cl 5 [1] (Bm _ _ z (aB h O4)) λ_ _=>?_;refine Xp (Om 5 (q:=Ym 2 wv _ (tzl c)) (aK (Ym 2 wv _) (aE (Zex h))) J J)<|go 10 ?_;refine cl 6 [2] (Bm _ _ B (aB j O4)) λ_ _=>?_;refine Xp (Om 6 (q:=Ym 2 wv _ (tzl d)) (aK (Ym 2 wv _) (aE (Zex j))) J J)<|go 12 ?_;refine cl 6 [] (Zn b l) λ_ _=>cl 7 [5] (Ob _ _ b e.v1 e.b1 e.s1) λ_ _=>go 11 ?_;refine cl 7 [] (Zn f D) λ_ _=>cl 8 [6] (Ob _ _ f e.v2 e.a1 e.s2) λ_ _=>go 10 ?_;refine cl 9 [7,8] (Zrr _ _ (Zl (tzl c) b) (Zl (tzl d) f) e.v3 e.v4 e.s3) λ_ _=>?_;refine Xp (Om 9 (q:=Ym 2 wv _ (dfP c d f b)) (aK (Ym 2 wv _) J) J J)<|go 13 ?_;refine Znk (Oh 9 J Zo) (λF n=>?_);subst n;generalize dfP c d f b=y;exact Xj m (F,y) results161 J J (Ns 9 Za)
set_option maxHeartbeats 1000000 in
theorem Yjq(fr Z e t u b:Int)(vx vy vz B D F:Value)(x y z j k l:List Int)(h:Int)(m:Sgo fr Z e x y z)(c:Sgo t u b j k l)(hA:∀i,Ab KA (tzl (Zk i x y z)))(N:∀i,Ab KA (tzl (Zk i j k l)))(S:dsB h=true):Cal prog 94 #[.agg #[.int .i64 fr,.int .i64 Z,.int .i64 e,vx,vy,vz],.agg #[.int .i64 t,.int .i64 u,.int .i64 b,B,D,F],.int .i64 h] [Ym 1 Yo vx x,Ym 1 Yo vy y,Ym 1 Yo vz z,Ym 1 Yo B j,Ym 1 Yo D k,Ym 1 Yo F l] true (G:=SL×List Int) (λg=>g.2=fmZ h 1 1 e b x y z j k l) (λg=>Qi g.1) (λg=>[Ym 2 wv (Qi g.1) g.2]):=by
 refine Zf func94 ntmps94 λw0 sc hw Q=>?_;have p:=fsX m c hA N S;refine go 2 ?_;refine Yh (Yi 7) λbx _=>Yh (Yi 8) λV _=>go 5 ?_;refine tt (Qr (i:=9) (ivs:=[(0,_)]) (enc:=Yo) ([-1]:List Int) J J K2 Pj ti3 J J J J J pZ.cells J J hw.h) (λv _=>?_);refine Xp (Qx 9 J J pZ)<|cl 10 [9] (Bm _ _ (λa ha=>by rw [aY.1 ha];exact⟨O4,O4⟩)) λ_ _=>?_;refine Xp (Om 10 (q:=Ym 2 wv _ [-1]) (aK (Ym 2 wv _) tzlm1) J J)<|go 15 ?_;refine dt (Qa (ivs:=[(0,_),(1,_),(2,_)]) J K6 (λa w hs=>Yh8 ((Zr J) a w hs) ((Zr J) a w hs) ((Zr J) a w hs)))<|go 4 ?_;refine Zg (Qy 10 80 J J J)<|lp (G:=Nat×Value) [3,4,23] [0,1,2,3,4,5,6,7,8,9,10] (λq=>[(24,.int .i64 (q.1:Int)),(7,q.2)]) (λq=>[(80,Ym 2 wv q.2 (ngC [h,e,b] q.1))]) (λq=>q.1<=3) (λq=>3-q.1) (0,_) O2 K2 K1 ?_;rintro⟨i,vs⟩ hi;dsimp only at hi;dsimp only;have f:=p.N i hi;refine go 6 ?_;refine Zc J (λH=>?_) (λH=>?_)
 .refine go 6 ?_;refine dt (d_ix3i (i:=i) J J J underlying165 Km iA3 J O1)<|go 7 ?_;refine cl 10 [] (Zn ([h,e,b].getD i 0) f.inn) λ_ _=>cl 11 [80] (Ob _ (ngC [h,e,b] i) ([h,e,b].getD i 0) f.v f.b f.s) λ_ _=>go 9 ?_;refine cl 11 [] (Zn ([h,e,b].getD i 0) f.inn) λ_ _=>cl 12 [11] (Ob _ (Zl (ngC [h,e,b] i) ([h,e,b].getD i 0)) ([h,e,b].getD i 0) f.v2 f.b f.s2) λ_ _=>?_;refine go 11 ⟨O1,?_⟩;exact Yg (Qy 12 80 J J J)<|Yq (i+1,_) O2 O2 K2 K1
 .obtain rfl:i=3:=O1;refine go 7 ?_;refine Xw (λ_=>False) [(0,0),(1,0),(2,0),(3,0),(4,0),(5,0),(7,0),(8,0),(9,0),(10,0),(11,0),(12,0),(14,0),(15,0),(16,0),(17,0),(18,0),(19,0),(22,0),(6,1),(13,1),(20,1),(21,0)]<|go 19 ?_;refine Yv (Zj 13 [1,4] (Zjp _ _ _ _ _ _ _ _ _ _ _ _ _ _ _ _ (p.X 0) (m.hc 0) (m.lc 0).2 (c.hc 0) (c.lc 0).2 (Zhu m) (Zhu c))) λfq P=>Yv (Zj 14 [2,5] (Zjp _ _ _ _ _ _ _ _ _ _ _ _ _ _ _ _ (p.X 1) (m.hc 1) (m.lc 1).2 (c.hc 1) (c.lc 1).2 (Zhu m) (Zhu c))) λW r=>Yv (Zj 15 [3,6] (Zjp _ _ _ _ _ _ _ _ _ _ _ _ _ _ _ _ (p.X 2) (m.hc 2) (m.lc 2).2 (c.hc 2) (c.lc 2).2 (Zhu m) (Zhu c))) λY s=>?_;refine Xn J J (Xr (Qa (ivs:=[(0,_),(1,_),(2,_)]) J K6 (λa w hs=>Yh4 ((Pg (i:=13) J Zo) a w hs) ((Pg (i:=14) J Zo) a w hs) ((Pg (i:=15) J Zo) a w hs))))<|go 3 ?_;refine lp (G:=Nat×Value) [63] [0,1,2,3,4,5,6,7,8,9,10,13,14,15] (λq=>[(64,.int .i64 (q.1:Int)),(7,q.2)]) (λq=>[(80,Ym 2 wv q.2 (smS h e b x y z j k l q.1))]) (λq=>q.1<=3) (λq=>3-q.1) (0,_) O2 K2 K1 ?_;rintro⟨i,vs⟩ hi;dsimp only at hi;dsimp only;have n:=p.X i;refine go 6 ?_;refine Zc J (λI=>?_) (λI=>?_)
  .refine go 5 ?_;refine Zg (Zbn i 13 14 15 90 J J J J J J)<|Zg (Om 90 (q:=Ym 2 wv _ (dfP (Zk i x y z) (Zk i j k l) e b)) (aK (Ym 2 wv _) (df_sel i P r s)) J J)<|go 1 ?_;refine dt (Znc (i:=i) J J J underlying210 sizeOf40 isAgg40 J)<|go 7 ?_;refine cl 16 [90,90] (Zj7 _ _ (dfP (Zk i x y z) (Zk i j k l) e b) (dfP (Zk i x y z) (Zk i j k l) e b) n.v5 n.v5 n.m5) λ_ _=>?_;refine Xp (Om 16 (q:=Ym 2 wv _ (fqS e b x y z j k l i)) (aK (Ym 2 wv _) J) J J)<|go 9 ?_;refine cl 17 [80,16] (Zru _ _ (smS h e b x y z j k l i) (fqS e b x y z j k l i) (p.Q.v i O1) n.v8 (p.Q.s i O1)) λ_ _=>?_;refine go 11 ⟨O1,?_⟩;exact Yg (Qy 17 80 J J J)<|Yq (i+1,_) O2 O2 K2 K1
  .obtain rfl:i=3:=O1;refine go 8 ?_;refine cl 18 [80] (Oo _ _ (p.Q.v 3 (aI _))) λ_ _=>?_;refine Xp (Om 18 (q:=Ym 2 wv _ (fmZ h 1 1 e b x y z j k l)) (aK (Ym 2 wv _) (fsZ h e b x y z j k l).symm) J J)<|go 13 ?_;refine Znk (Oh 18 J Zo) (λsq R=>?_);subst R;generalize fmZ h 1 1 e b x y z j k l=X9;exact Xj Q (sq,X9) results94 J J (Ns 18 Za)
set_option maxHeartbeats 1000000 in
theorem Yjp(va vb:Value)(e f:List Zi)(F:Int)(r:∀g∈e,Gin g)(s:∀g∈f,Gin g)(l:Yt e=true)(m:Yt f=true)(V:e.length<=5)(W:f.length<=5)(Y:dsB F=true):Cal prog 95 #[va,vb,.int .i64 F] [Qc 6 Pd qG va e,Qc 6 Pd qG vb f] true (G:=Value×List GpT) (λg=>g.2.map unP=Nz F 1 1 e f) (λg=> .tuple #[g.1,.int .i64 (Fa e f)]) (λg=>[Qc 3 Dt qGp g.1 g.2]):=by
 refine Zf func95 ntmps95 λw0 sc Z B=>go 10 ?_;refine cl 3 [1,2] (Zml _ _ _ _ r s l m V W) λb c=>go 16 ?_;refine Zc J (λh=>?_) (λh=>?_)
 .have Q:=h;refine go 8 ?_;exact Yg (Zcq 72 3 Dt qGp)<|Mn B (.slice none 0 0,[]) results95 (by rw [Yfp Q]) (Yfn O1).symm (Ns 72 Za)
 .have Q:=h;refine go 16 ?_;refine Zg (Oy 74 3 130 Dt)<|Zg (Qk qGp 76) ?_;have R:=Zpy r s l m;have a0:b.1.2.length=(Ow e f e).length:=by rw [<-c.1,aW]
  have a1:b.2.2.length=(Ow e f f).length:=by rw [<-c.2,aW]
  refine lp (G:=Nat×Value×List GpT) [2,9,10,23,24] [0,1,2,3,4] (λq=>[(25,.int .i64 (q.1:Int)),(11,q.2.1)]) (λq=>[(74,Ox 3 130 Dt q.2.1 q.2.2),(76,Gf qGp q.2.2)]) (λq=>(q.1<=b.1.2.length)/\(q.2.2.map unP=(Nz F 1 1 e f).take q.1)/\(q.2.2.length=q.1)) (λq=>b.1.2.length-q.1) (0,.slice none 0 0,[]) ⟨O2,(by rw [eH];rfl),rfl⟩ K2 K2 ?_;rintro⟨k,vq,zs⟩ ⟨hk,t,D⟩;dsimp only at hk t D;dsimp only;refine go 6 ?_;refine Zc J (λP=>?_) (λP=>?_)
  .refine go 5 ?_;obtain⟨I,u⟩:=Zcc r l c.1 _ (Ze (d:=G0) (show k<b.1.2.length by omega));refine Zg (Qe (g:=(b.1.2.getD k G0)) (z:=(b.1.2.getD k G0).2.1) 3 51 J J (Ze) O7)<|Zg (Qe (g:=(b.1.2.getD k G0)) (z:=(b.1.2.getD k G0).2.2.1) 3 52 J J (Ze) O7)<|Zg (Qe (g:=(b.1.2.getD k G0)) (z:=(b.1.2.getD k G0).2.2.2) 3 53 J J (Ze) O7)<|go 2 ?_;refine dt (Zy (ii:=3) (i:=k) J J J J Zd Ia Ir J)<|dt (Pe (ii:=3) G0 J J J Zd pG)<|Yh (Zw 5) λbx _=>go 4 ?_;obtain⟨N,y⟩:=Zcc s m c.2 _ (Ze (d:=G0) (show k<b.2.2.length by omega));refine Zg (Qe (g:=(b.2.2.getD k G0)) (z:=(b.2.2.getD k G0).2.1) 4 54 J J (Ze) O7)<|Zg (Qe (g:=(b.2.2.getD k G0)) (z:=(b.2.2.getD k G0).2.2.1) 4 55 J J (Ze) O7)<|Zg (Qe (g:=(b.2.2.getD k G0)) (z:=(b.2.2.getD k G0).2.2.2) 4 56 J J (Ze) O7)<|Ld [4,5] [15]<|Zm (n:=0) [(0,0),(1,0),(2,0),(3,0),(4,0),(5,0),(6,0),(7,0),(8,0),(9,0),(10,0),(11,1),(12,0),(13,1),(14,1),(15,3)]<|go 8 ?_;refine Xn J J (An (Zy (ii:=4) (i:=k) J J J J Zd Ia Ir J) K2)<|Xn J J (An (Pe (ii:=4) G0 J J J Zd pG) K2)<|go 1 ?_;refine Yv (Zj 84 [51,52,53,54,55,56] (Yjq _ _ _ _ _ _ _ _ _ _ _ _ _ _ _ _ _ _ _ (Nx I u) (Nx N y) (Ag u) (Ag y) Y)) λH S=>?_;refine Xn J J (An (Qa (ivs:=[(0,_),(1,_),(2,_)]) J K6 (λa w hs=>Ztr ((Zr J) a w hs) ((Zr J) a w hs) ((Zr J) a w hs))) K2)<|Dn J (Qr (i:=6) (ivs:=[(0,_)]) (enc:=Dt) [(gpY (b.1.2.getD k G0) H)] J J K2 Yb1 ti130 J J (fillG _ _ _ _ _ _) J J pGp.cells J J Z.h) (λv _=>?_);refine Dn J (Yb8 74 J J J K2 (λp=>(Zwe (i:=74) (j:=6) (by_:=40) J J J J J J O4 J (Yn pGp) Yb1 ti130 J pGp J J J O9 O4 J Z.h p))) λa2 _=>go 2 ?_;refine Zz<|go 6 ⟨O1,?_⟩;exact Yg (Xb (q:=qGp) (z:=(gpY (b.1.2.getD k G0) H)) 76 84 76 J J J J J)<|Yq (k+1,_,zs ++ [(gpY (b.1.2.getD k G0) H)]) ⟨O2,Zxu c.1 c.2 t O1 O1 S,by rw [bA,D];rfl⟩ O2 K2 K2
  .obtain rfl:k=b.1.2.length:=O1;refine go 14 ?_;exact Yg (Qx 74 J J pGp)<|Yg (La 74 76 78 J J J J)<|Mn B (vq,zs) results95 (by rw [Yfo Q]) (Yfl c.1 R.1 t) (Ns 78 Za)
set_option maxHeartbeats 1000000 in
theorem Yjs(r s:Value)(a c:List Zi)(q:Int)(h:∀g∈a,Gin g)(j:∀g∈c,Gin g)(e:Yt a=true)(f:Yt c=true)(m:a.length<=5)(n:c.length<=5)(k:dsB q=true):Cal prog 40 #[r,s,.int .i64 q] [Qc 6 Pd qG r a,Qc 6 Pd qG s c] true (G:=Value×List GpT) (λg=>g.2.map unP=Nz q 1 1 a c) (λg=> .tuple #[g.1,.int .i64 (Fa a c)]) (λg=>[Qc 3 Dt qGp g.1 g.2]):=by refine Zf func40 ntmps40 λw0 v u p=>go 10 ?_;refine cl 2 [1] (Ff _ _ h) λ_ _=>?_;refine dt (dF (Yb J J) (aK (λb=>Value.bool (!b)) e))<|go 2 ?_;refine Kl 2 [2] (Ff _ _ j) λ_ _=>?_;refine Kv (dF (Yb J J) (aK (λb=>Value.bool (!b)) f)) J J<|go 3 ?_;refine Kl 2 [] (Ydb _) λ_ _=>?_;refine Kv (dF (Yb J J) (aK (λb=>Value.bool (!b)) k)) J J<|go 11 ?_;refine cl 3 [1,2] (Yjp _ _ _ _ _ h j e f m n k) λt l=>go 7 ?_;exact Mn p _ results40 J l (Ns 3 Za)
open Go.RowKit (Below)
variable {P:Program} {N:Nat} {sc:Nat->Prop} {env env':Qt} {H H':Hp} {Q Q':Exit->Act->World->Prop}
def fctP(p:Prop):Pc:={ own:=false,fp:=λ_=>False,holds:=λ_=>p,lt:=λ_ _ _ h=>h.elim,stable:=λ_ _ h _=>h }
theorem wtd{j e:Nat}{b:Bool}(h:o.guard=some (j,b))(k:(ops[j]?).bind (·.dst)=some e)(g:lk env e=some (.bool b))(c:Nat.blt e N=true):∀a w,Sat N sc env H a w->Region.wanted o (yielded ops a.tmps)=true:=λa w hs=>by have f:=hs.yielded k g c;simp [Region.wanted,h,f]
theorem Mh{v:Value}(f:Nv P N sc o env H v)(e:∀a w,Sat N sc env H a w->Region.wanted o (yielded ops a.tmps)=true)(c:o.dst=some d)(b:Nat.blt d N=true)(h:LI P N sc ops rest Q ((d,v)::env) H):LI P N sc ops (o::rest) Q env H:=λa w hs=>by unfold wpListIn;rw [aH (e a w hs)];refine⟨λ_ _=>trivial,?_⟩;show o.uponIn Fence.wide 0 P a _ Q ((execOp a.eval o).run P w);rw [f a w hs];show wpListIn Fence.wide 0 P ops Q rest (a.put o.dst v) w;rw [c];exact h _ w (hs.put d v b)
theorem Zc4    {l:Nat}     {W:World}  {J:Nat->World->Prop}  {α G:Type} {xs:List α} {ys:α->G->List Value} {D:α->G->List Pc} 
  (k:Nat) (y:α) (g:G) (hY:YJI P w0 l M J Jx xs ys D) (hy:xs[k]? = some y) (hJ:J k W) (hW:w0.heap.size<=W.heap.size) (m:∀p∈pre,∀b,p.fp b->b<w0.heap.size/\¬M b)
  (ho:o.op= .call { callee:= .value x,args:=ops'.toArray,argTypes:=tys }) (hg:∀a w,Sat N sc env H a w->Region.wanted o (yielded ops a.tmps)=true) (hd:o.dst=some d) (Z:Nat.blt d N=true) (hx:ev env x=some (.func (.yield l) #[] #[])) (r:EvL env ops' vs) (S:vs=ys y g)
  (h0:lk H 0=some (Xd W (λ_=>False))) (u:∀p∈D y g,p.own=false/\(∀b,p.fp b->W.heap.size<=b)/\∃i I,lk H i=some I/\∀w,I.holds w->p.holds w)
  (v:AllRo pre) (n:HSub (Yy 1 pre) H)
  (ht:∀c,J (k+1) c->w0.heap.size<=c.heap.size->LI P N sc ops rest Q ((d,.bool true)::env) ((0,Xd c (λ_=>False))::Yy 1 pre))
  (hf:∀c,Jx c->w0.heap.size<=c.heap.size->LI P N sc ops rest Q ((d,.bool false)::env) ((0,Xd c (λ_=>False))::Yy 1 pre)):LI P N sc ops (o::rest) Q env H:=λa w hs=>by
 subst S;have Y:=Il (hs.hold 0 _ h0);obtain⟨fn,F,f,s,z,j⟩:=hY k y g hy W w hJ hW Y (λp hp=>by obtain⟨h1,h2,i,I,hi,hh⟩:=u p hp;exact⟨hh w (hs.hold i I hi),h1,h2⟩)
 have R:(o.semAt Fence.wide.round a.eval).run P w= .ok (.round l fn F f s) w:=by show(execOp a.eval o).run P w=_;have hm:=r.map hs;have V:=hs.ev hx;simp [execOp,ho,resolve,invoke,Deferred.ofValue,hm,V,z,Sem.run_bind]
 unfold wpListIn;rw [aH (hg a w hs)];refine⟨λ_ _=>trivial,?_⟩;rw [R];refine⟨λh=>(by cases h),j.mono ?_⟩;have B:w0.heap.size<=w.heap.size:=aB hW Y.size;rintro e c (⟨rfl,q,t⟩|⟨rfl,q,t⟩)
 .show wpListIn Fence.wide 0 P ops Q rest (a.put o.dst _) c;rw [hd];exact ht c q (aB B t.size) _ c ((hs.base m v n t).put d _ Z)
 .show wpListIn Fence.wide 0 P ops Q rest (a.put o.dst _) c;rw [hd];exact hf c q (aB B t.size) _ c ((hs.base m v n t).put d _ Z)
theorem Zip{α:Type}{ps:List α}{p:α->Bool}{d:α}(hi:i<ps.length)(b:p (ps.getD i d)=true):(ps.filter p)[((ps.take i).filter p).length]? = some (ps.getD i d):=by
 have h:=fG i ps;have a:ps.drop i=ps.getD i d::ps.drop (i+1):=by rw [aF,aL hi,eZ];exact dW hi
 conv=>lhs;arg 1;rw [<-h,a]
 rw [fM,eI b];simp
theorem Zxz{α:Type}{ps:List α}{p:α->Bool}{d:α}(hi:i<ps.length)(a:p (ps.getD i d)=true):((ps.take (i+1)).filter p).length=((ps.take i).filter p).length+1:=by rw [Ph d _ _ hi,fM,eI a,bA];rfl
theorem Zx0{α:Type}{ps:List α}{p:α->Bool}{d:α}(hi:i<ps.length)(a:p (ps.getD i d)=false):((ps.take (i+1)).filter p).length=((ps.take i).filter p).length:=by rw [Ph d _ _ hi,fM,gK (by rw [a];exact dH),bA];rfl
theorem Zfz{φ:Prop}{n:Nat}{H:Hp}{k:Pc}(h:φ)(c:lk H 0=some k):∀p∈[fctP φ],p.own=false/\(∀b,p.fp b->n<=b)/\∃i a,lk H i=some a/\∀w,a.holds w->p.holds w:=λp f=>by rw [aY.1 f];exact⟨rfl,λb e=>e.elim,0,k,c,λ_ _=>h⟩
theorem fk_of{fn:Func}{al:Bool}{G:Type}{φ:G->Prop}{Ye:G->Value}{b:G->List Pc}(h:X N sc .ret (Zbc P fn w0 pre al φ Ye b) env H):X N sc .ret (Zeo P fn w0 pre al φ Ye b) env H:=λa w hs=>by obtain⟨e,v,f,c⟩:=h a w hs;show LeavesInM Fence.wide 0 P fn a.tmps _ a.defers .returning w;rw [e];exact⟨v,f,c⟩
end Go.Sky
namespace Go.Sky
open Go.Proofs.Tryz
open Go.Proofs
set_option synthInstance.maxHeartbeats 0
set_option synthInstance.maxSize 100000
set_option maxRecDepth 20000
set_option maxHeartbeats 1000000
set_option linter.unusedSimpArgs false
variable{D d t o:Int}{a b:List Zi}{zs:List GpT}{k i:Nat}{x:Operand}
theorem Af(x y:Int)(g:Oz x)(h:Oz y)(e:y≠0):Xo prog 98 #[.int .i64 x,.int .i64 y] [] (.agg #[.bool (decide (Eh x y<0)),.string (Xu (Eh x y).natAbs),.bool (decide (Fj x y<0)),.string (Xu (Fj x y).natAbs)]):=by refine Zf func98 ntmps98 λn m l c=>go 2 ?_;refine Yh (Zw 1) λj _=>go 6 ?_;refine cl 1 [] (Fc x y g h e) λ_ _=>go 3 ?_;refine Yh (Zw 2) λf _=>go 11 ?_;exact Xj c () results98 J aA Za
theorem Yjr(v:Value)(zs:List GpT)(b1:Nat)(Q:∀z∈zs,Cvd z.2.2):Ymy prog 162 [.pointer (some ⟨b1,0,none⟩)] [Ie b1 50 #[v],Qc 3 Dt qGp v zs] (α:=GpT) (G:=R2) (zs.filter (λz:GpT=>Fz z.2.2)) (λc g=>[.agg #[.int .i64 c.1.1,.int .i64 c.1.2,Qi c.2.1],.agg #[.bool (decide (g.1<0)),.string (Xu (g.1).natAbs),.bool (decide (g.2<0)),.string (Xu (g.2).natAbs)]]) (λc g=>[fctP (Fnd c.2.2 (qv (0,1)) (qv (1,1)) g)]):=by
 refine Zy7 func162 J ntmps162 J K2 ?_;intro l M JI Jx w0 sc hw p u j P I;simp only [Qv,Yy];have R:=Hw.mk hw;refine Oi (Ip (i:=2) J Zd) λa8=>go 8 ?_;refine lp (G:=Nat×World) [0,8,9] [1,2] (λq=>[(10,.int .i64 (q.1:Int))]) (λq=>[(0,Xd q.2 (λ_=>False))]) (λq=>(q.1<=zs.length)/\(JI ((zs.take q.1).filter (λz:GpT=>Fz z.2.2)).length q.2)/\(w0.heap.size<=q.2.heap.size)) (λq=>zs.length-q.1) (0,w0) ⟨O2,P,aI _⟩ K1 K1 ?_;rintro⟨i,W⟩ ⟨hi,s,w⟩;dsimp only at hi s w;dsimp only;have b7:=hw_up R w;refine go 6 ?_;refine Zc J (λN=>?_) (λN=>?_)
 .refine go 5 ?_;refine Zg (Zgr 2 55 (zs.getD i Gp0) J J (Ze) J) ?_;have m:=Q (zs.getD i Gp0) (Ze);refine go 1 ?_;refine dt (Zy (ii:=2) (i:=i) J J J J Zd Yb1 sizeOf130 J)<|dt (Pe (ii:=2) Gp0 J J J Zd pGp)<|Yh (Zw 3) λbx _=>go 4 ?_;rcases tf (Fz (zs.getD i Gp0).2.2)with e|e
  .refine Ld [3] [12]<|Zm (n:=11) [(0,0),(1,0)]<|go 3 ?_;refine Qs (n:=10) 2 9 ?_ ?_
   .refine Nm (Zj 3 [] (Af 0 1 ⟨O4,O4⟩ ⟨O4,O4⟩ O4)) λ_ _=>?_;refine Qs (n:=9) 3 9 ?_ ?_
    .refine Nm (Zj 3 [] (Af 1 1 ⟨O4,O4⟩ ⟨O4,O4⟩ O4)) λ_ _=>?_;refine Qs (n:=8) 4 9 ?_ ?_
     .refine Nm (Zj 3 [55] (Iw _ _ (0,1) (1,1) m Zds Zdr Zdw e)) λ_ _=>?_;refine Zm (n:=0) [(5,0),(6,0),(7,0),(8,0),(9,1),(10,1),(11,0),(12,3)]<|go 4 ?_;refine Yv (Pv 4) λa0 ho=>go 4 ?_;refine Zz<|go 21 ⟨O1,?_⟩;exact Yq (i+1,W) ⟨O2,by rw [Zx0 O1 e];exact s,w⟩ O2 K1 K1
     .refine Nm (Pv 5) λa1 a9=>?_;refine Zm (n:=0) [(4,1),(5,0),(6,0),(7,0),(8,0),(10,1),(11,0),(12,3)]<|Yv (Zj 5 [55] (Iw _ _ (0,1) (1,1) m Zds Zdr Zdw e)) λ_ _=>go 8 ?_;refine Zz<|go 21 ⟨O1,?_⟩;exact Yq (i+1,W) ⟨O2,by rw [Zx0 O1 e];exact s,w⟩ O2 K1 K1
    .refine Nm (Pv 6) λa2 b0=>?_;refine Zm (n:=0) [(3,1),(4,1),(5,0),(6,0),(7,0),(8,0),(10,1),(11,0),(12,3)]<|Yv (Zj 6 [] (Af 1 1 ⟨O4,O4⟩ ⟨O4,O4⟩ O4)) λ_ _=>Yv (Zj 6 [55] (Iw _ _ (0,1) (1,1) m Zds Zdr Zdw e)) λ_ _=>go 8 ?_;refine Zz<|go 21 ⟨O1,?_⟩;exact Yq (i+1,W) ⟨O2,by rw [Zx0 O1 e];exact s,w⟩ O2 K1 K1
   .refine Nm (Pv 7) λa3 b2=>?_;refine Zm (n:=0) [(2,1),(3,1),(4,1),(5,0),(6,0),(7,0),(8,0),(10,1),(11,0),(12,3)]<|Yv (Zj 7 [] (Af 0 1 ⟨O4,O4⟩ ⟨O4,O4⟩ O4)) λ_ _=>Yv (Zj 7 [] (Af 1 1 ⟨O4,O4⟩ ⟨O4,O4⟩ O4)) λ_ _=>Yv (Zj 7 [55] (Iw _ _ (0,1) (1,1) m Zds Zdr Zdw e)) λ_ _=>go 8 ?_;refine Zz<|go 21 ⟨O1,?_⟩;exact Yq (i+1,W) ⟨O2,by rw [Zx0 O1 e];exact s,w⟩ O2 K1 K1
  .refine Ld [3] [12]<|Zm (n:=11) [(0,0),(1,0)]<|go 3 ?_;refine Qs (n:=10) 2 9 ?_ ?_
   .refine Nm (Zj 7 [] (Af 0 1 ⟨O4,O4⟩ ⟨O4,O4⟩ O4)) λ_ _=>?_;refine Qs (n:=9) 3 9 ?_ ?_
    .refine Nm (Zj 7 [] (Af 1 1 ⟨O4,O4⟩ ⟨O4,O4⟩ O4)) λ_ _=>?_;refine Qs (n:=8) 4 9 ?_ ?_
     .refine Nm (Zj 7 [55] (Ic _ _ (0,1) (1,1) m Zds Zdr Zdw e)) λS y=>?_;refine Zm (n:=0) [(5,0),(6,0),(7,0),(8,0),(9,1),(10,1),(11,0),(12,3)]<|go 4 ?_;refine Yv (Pv 8) λa4 b3=>go 4 ?_;refine Zz<|go 2 ?_;refine Ygg<|Lt (Zel J J) J<|Lt (Zel J J) J<|Mh (Zel J J) (wtd J J J J) J J<|Mh (DI.h aA) (wtd J J J J) J J<|Mh (DI.h aA) (wtd J J J J) J J<|Zc4 (pre:=[_,_]) (vs:=[_,_]) _ (zs.getD i Gp0) S I (Zip O1 e) s w p J (wtd J J J J) J J J K2 J J (Zfz y J) K2 K2 (λr f h=>?_) (λr f h=>?_)
      .simp only [Yy];refine Mh (dF (Yb J J) J) (wtd J J J J) J J<|Lt (Ch J J J) J<|Ai<|go 9 ⟨O1,?_⟩;exact Yq (i+1,r) ⟨O2,by rw [Zxz O1 e];exact f,h⟩ O2 K1 K1
      .simp only [Yy];refine Mh (dT (Yb J J) J) (wtd J J J J) J J<|Lt (Ch J J J) J<|Ai<|go 7 ?_;exact Zdx (.inl J) J J u j (.inr f)
     .refine Nm (Pv 9) λa5 b4=>?_;refine Zm (n:=0) [(4,1),(5,0),(6,0),(7,0),(8,0),(10,1),(11,0),(12,3)]<|Yv (Zj 9 [55] (Ic _ _ (0,1) (1,1) m Zds Zdr Zdw e)) λV B=>go 8 ?_;refine Zz<|go 2 ?_;refine Ygg<|Lt (Zel J J) J<|Lt (Zel J J) J<|Mh (Zel J J) (wtd J J J J) J J<|Mh (DI.h aA) (wtd J J J J) J J<|Mh (DI.h aA) (wtd J J J J) J J<|Zc4 (pre:=[_,_]) (vs:=[_,_]) _ (zs.getD i Gp0) V I (Zip O1 e) s w p J (wtd J J J J) J J J K2 J J (Zfz B J) K2 K2 (λr f h=>?_) (λr f h=>?_)
      .simp only [Yy];refine Mh (dF (Yb J J) J) (wtd J J J J) J J<|Lt (Ch J J J) J<|Ai<|go 9 ⟨O1,?_⟩;exact Yq (i+1,r) ⟨O2,by rw [Zxz O1 e];exact f,h⟩ O2 K1 K1
      .simp only [Yy];refine Mh (dT (Yb J J) J) (wtd J J J J) J J<|Lt (Ch J J J) J<|Ai<|go 7 ?_;exact Zdx (.inl J) J J u j (.inr f)
    .refine Nm (Pv 10) λa6 b5=>?_;refine Zm (n:=0) [(3,1),(4,1),(5,0),(6,0),(7,0),(8,0),(10,1),(11,0),(12,3)]<|Yv (Zj 10 [] (Af 1 1 ⟨O4,O4⟩ ⟨O4,O4⟩ O4)) λ_ _=>Yv (Zj 10 [55] (Ic _ _ (0,1) (1,1) m Zds Zdr Zdw e)) λY F=>go 8 ?_;refine Zz<|go 2 ?_;refine Ygg<|Lt (Zel J J) J<|Lt (Zel J J) J<|Mh (Zel J J) (wtd J J J J) J J<|Mh (DI.h aA) (wtd J J J J) J J<|Mh (DI.h aA) (wtd J J J J) J J<|Zc4 (pre:=[_,_]) (vs:=[_,_]) _ (zs.getD i Gp0) Y I (Zip O1 e) s w p J (wtd J J J J) J J J K2 J J (Zfz F J) K2 K2 (λr f h=>?_) (λr f h=>?_)
     .simp only [Yy];refine Mh (dF (Yb J J) J) (wtd J J J J) J J<|Lt (Ch J J J) J<|Ai<|go 9 ⟨O1,?_⟩;exact Yq (i+1,r) ⟨O2,by rw [Zxz O1 e];exact f,h⟩ O2 K1 K1
     .simp only [Yy];refine Mh (dT (Yb J J) J) (wtd J J J J) J J<|Lt (Ch J J J) J<|Ai<|go 7 ?_;exact Zdx (.inl J) J J u j (.inr f)
   .refine Nm (Pv 11) λa7 b6=>?_;refine Zm (n:=0) [(2,1),(3,1),(4,1),(5,0),(6,0),(7,0),(8,0),(10,1),(11,0),(12,3)]<|Yv (Zj 11 [] (Af 0 1 ⟨O4,O4⟩ ⟨O4,O4⟩ O4)) λ_ _=>Yv (Zj 11 [] (Af 1 1 ⟨O4,O4⟩ ⟨O4,O4⟩ O4)) λ_ _=>Yv (Zj 11 [55] (Ic _ _ (0,1) (1,1) m Zds Zdr Zdw e)) λZ H=>go 8 ?_;refine Zz<|go 2 ?_;refine Ygg<|Lt (Zel J J) J<|Lt (Zel J J) J<|Mh (Zel J J) (wtd J J J J) J J<|Mh (DI.h aA) (wtd J J J J) J J<|Mh (DI.h aA) (wtd J J J J) J J<|Zc4 (pre:=[_,_]) (vs:=[_,_]) _ (zs.getD i Gp0) Z I (Zip O1 e) s w p J (wtd J J J J) J J J K2 J J (Zfz H J) K2 K2 (λr f h=>?_) (λr f h=>?_)
    .simp only [Yy];refine Mh (dF (Yb J J) J) (wtd J J J J) J J<|Lt (Ch J J J) J<|Ai<|go 9 ⟨O1,?_⟩;exact Yq (i+1,r) ⟨O2,by rw [Zxz O1 e];exact f,h⟩ O2 K1 K1
    .simp only [Yy];refine Mh (dT (Yb J J) J) (wtd J J J J) J J<|Lt (Ch J J J) J<|Ai<|go 7 ?_;exact Zdx (.inl J) J J u j (.inr f)
 .obtain rfl:i=zs.length:=O1;rw [bP]at s;refine go 4 ?_;exact Zdx (.inr J) J J u j (.inl s)
theorem Yls(f:∀g∈a,Gin g)(j:∀g∈b,Gin g)(c:Yt a=true)(e:Yt b=true)(n:dsB D=true)(h:zs.map unP=Nz D 1 1 a b):∀z∈zs,Cvd z.2.2:=λz m=>by obtain⟨k,l,rfl⟩:=jR m;have:=cvd_as f j c e n h l;rwa [aF,aL l]at this
def nbF(z:GpT):Bool:=Fz z.2.2
theorem Ymr{n:Int}(h:zs.map unP=Nz D n d a b)(c:¬Fa a b≠0)(e:(zs.filter λz=>Fz z.2.2).length=0):Bz D n d a b=true:=by
 refine ap_no ?_ (jG.1 c);rw [Yfs h λi hi=>?_];cases hn:Fz (zs.getD i Gp0).2.2 with
 | false=>rfl
 | true=>
  have:zs.getD i Gp0∈zs.filter λz=>Fz z.2.2:=fI.2 ⟨Ze hi,hn⟩;rw [aD e]at this;cases this
theorem Yh0{n:Int}{x:GpT}(h:zs.map unP=Nz D n d a b)(f:(zs.filter λz=>Fz z.2.2)[k]? = some x):Bz D n d a b=false:=by
 have c:=(fI.1 (kW f));refine ap_is ?_;cases hf:(Bf (Nz D n d a b)).2.2 with
 | true=>rfl
 | false=>
  exfalso;have e:Zo9 (Nz D n d a b)=none:=by
   cases he:Zo9 (Nz D n d a b)with
   | none=>rfl
   | some g=>unfold Bf at hf;rw [he]at hf;cases hf
  have:=kA.1 e (unP x) (by rw [<-h];exact eN.2 ⟨x,c.1,rfl⟩);exact this c.2
theorem se_bad(v:Value)(zs:List GpT):Cal prog 96 #[v] [Qc 3 Dt qGp v zs] true (G:=Nat) (λg=>True) (λg=> .func (.func 162) #[] #[.pointer (some ⟨g,0,none⟩)]) (λg=>[Ie g 50 #[v]]):=by refine Zf func96 ntmps96 λm j h c=>?_;refine Zk7 (Oh 1 J Zd) (λl e=>?_);subst e;refine go 2 ?_;refine Yh (Yi 2) λf _=>go 5 ?_;refine dt (Zyl (vs:=[]) (us:=[_]) J aA K1)<|go 4 ?_;exact Yg (Zgq 2 J J)<|Xj c _ results96 J aA (Ns 2 Za)
theorem Zjq(V W:Value)(u v:List Zi)(I:Int)(F:∀g∈u,Gin g)(G:∀g∈v,Gin g)(z:Yt u=true)(B:Yt v=true)(N:u.length<=5)(P:v.length<=5)(H:dsB I=true):Xo prog 42 #[V,W,.int .i64 I] [Qc 6 Pd qG V u,Qc 6 Pd qG W v] (.tuple #[.bool (Bz I 1 1 u v),.int .i64 (Fa u v)]):=by
 refine Zy8 func42 J ntmps42 J K2 ?_;intro w0 sc Q s;have Q:=Hw.mk Q;simp only [Qv,Yy];refine go 2 ?_;refine Yh (Zw 3) λf _=>Yh (Zw 4) λc _=>go 7 ?_;refine cl 5 [1,2] (Yjs _ _ _ _ _ F G z B N P H) λm r=>go 14 ?_;refine Zc J (λn=>?_) (λn=>?_)
 .have y:=n;refine go 9 ?_;exact fk_of<|Mn s () results42 (by rw [ap_e y]) aA Za
 .have y:=n;refine go 6 ?_;refine cl 6 [5] (se_bad _ _) λb _=>go 3 ?_;refine e_rfi (pre:=[Ie b 50 #[m.1],Qc 3 Dt qGp m.1 m.2]) (w0:=w0) (λ(_:Nat) (_:Unit)=>[(0,Xd w0 (λ_=>False)),(3,box f 4 #[.bool false]),(4,box c 26 #[.int .i64 0])]) (λk _=>k=0) (λ(_:Unit)=>[(0,Xd w0 (λ_=>False)),(3,box f 4 #[.bool false]),(4,box c 26 #[.int .i64 0])]) (λ_=>Bz I 1 1 u v=false) () J (by intro e w;first|exact enters_of func162 O6 rfl e w|exact call162 e w) (Yjr m.1 m.2 b (Yls F G z B H r)) ?_ (λ_ _=>J) J Q.h J J K3 (λ_ _=>⟨J,J⟩) (λ_=>⟨J,J⟩) (λk x gi m hx j l Y Z=>?_) J (λm j D od=>?_) (λ_ R=>?_)
  .intro p S;simp only [bJ,fN,kR]at S;rcases S with rfl|rfl
   .exact⟨J,6,J⟩
   .exact⟨J,5,J⟩
  .refine Yf9 (env':=[(6,.pointer (some ⟨f,0,none⟩)),(7,.pointer (some ⟨c,0,none⟩))]) (H':=[(92,Xd Z Y),(0,Xd w0 (λ_=>False)),(3,box f 4 #[.bool false]),(4,box c 26 #[.int .i64 0])]) (λa w hs=>hs.weaken ⟨J,J,aA⟩ ⟨J,J,J,J,aA⟩)<|Zx6 λa w hs=>⟨J,[(6,.pointer (some ⟨f,0,none⟩)),(7,.pointer (some ⟨c,0,none⟩))],[(0,Xd w0 (λ_=>False)),(3,box f 4 #[.bool false]),(4,box c 26 #[.int .i64 0])],J,(λq h=>by cases h;rfl),⟨.inr (λb M=>⟨0,_,J,M⟩),.inl J,.inl J,aA⟩,hs.weaken ⟨J,J,aA⟩ ⟨J,J,J,J,aA⟩,λWb=>?_⟩;refine Zsu<|Zpm J<|go 2 ?_;refine go 1 ?_;exact Yin<|Yf8 λa w hs=>Or.inr ⟨J,(),Yh0 r hx,⟨.inr (λb M=>⟨0,_,J,M⟩),.inl J,.inl J,aA⟩,[],hs.weaken aA ⟨J,J,J,J,aA⟩⟩
  .refine go 2 ?_;refine go 1 ?_;refine Yio λa w hs=>⟨J,[(6,.pointer (some ⟨f,0,none⟩)),(7,.pointer (some ⟨c,0,none⟩))],[(0,Xd w0 (λ_=>False)),(3,box f 4 #[.bool true]),(4,box c 26 #[.int .i64 0])],J,⟨⟨_,J,J,λ_ h=>h⟩,⟨_,J,J,λ_ h=>h⟩,⟨_,J,J,λ_ h=>h⟩,aA⟩,hs.weaken ⟨J,J,aA⟩ ⟨J,J,J,J,aA⟩,?_⟩;exact Mn s () results42 (by rw [Ymr r y j,jG.1 y]) aA Za
  .exact Mn s () results42 (by rw [R,jG.1 y]) aA Za
def dfA(p q:List Int)(e c:Int)(t:Rat):Rat:=Zb p t*(c:Rat)-Zb q t*(e:Rat)
theorem Yj2(p q:List Int)(a b:Int)(t:Rat):Zb (dfP p q a b) t=dfA p q a b t:=by unfold dfP dfA;rw [Zjw,Gl,Gl,Np,Np];grind
theorem Zn2(p q:List Int)(a b k:Int)(t:Rat):Zb (sqK p q a b k) t=((k:Rat)*dfA p q a b t)*((k:Rat)*dfA p q a b t):=by unfold sqK dfK;rw [Ya,Gl,Yj2]
def fvE(D n d e c:Int)(x y z f g h:List Int)(t:Rat):Rat:=
 ((d:Rat)*dfA x f e c t)*((d:Rat)*dfA x f e c t)+((d:Rat)*dfA y g e c t)*((d:Rat)*dfA y g e c t)+((n:Rat)*dfA z h e c t)*((n:Rat)*dfA z h e c t)
  - ((D:Rat)*(d:Rat)*(e:Rat)*(c:Rat))*((D:Rat)*(d:Rat)*(e:Rat)*(c:Rat))
theorem Yj3(D d e c:Int)(t:Rat):Zb (cnZ D d e c) t=- (((D:Rat)*(d:Rat)*(e:Rat)*(c:Rat))*((D:Rat)*(d:Rat)*(e:Rat)*(c:Rat))):=by show Zb (Zl (Zl (Zl (Zl (Zl (Zl (Zl (Zl [-1] D) D) d) d) e) e) c) c) t=_;simp only [Gl];rw [show Zb [-1] t=(-1:Rat)from by show((-1:Int):Rat)+t*0=_;grind];grind
theorem Zwx(D n d e c:Int)(x y z f g h:List Int)(t:Rat):Zb (smZ D n d e c x y z f g h 3) t=fvE D n d e c x y z f g h t:=by show Zb (Ah (Ah (Ah (cnZ D d e c) (fqZ n d e c x y z f g h 0)) (fqZ n d e c x y z f g h 1)) (fqZ n d e c x y z f g h 2)) t=_;rw [Zjy,Zjy,Zjy,Yj3];show _+Zb (sqK x f e c d) t+Zb (sqK y g e c d) t+Zb (sqK z h e c n) t=_;rw [Zn2,Zn2,Zn2];unfold fvE;grind
def Yb2(D n d e c:Int)(x y z f g h:List Int):Tr (smZ D n d e c x y z f g h 3):=Qh _
theorem negZ{n g c:Int}{x y z j l m:List Int}(h:Cvd (fmZ D n d g c x y z j l m)):Fz (fmZ D n d g c x y z j l m)=false↔∀t:Rat,0<=t->t<=1->0<=fvE D n d g c x y z j l m t:=by
 have f:Fz (fmZ D n d g c x y z j l m)=true↔Zv4 (fmZ D n d g c x y z j l m) (qv (0,1)) (qv (1,1)):=Zot h O4 O4 O8;have r:qv (0,1)=0:=O8;have s:qv (1,1)=1:=O8;rw [r,s]at f;rw [<-Bool.not_eq_true,f];constructor
 .intro v t p q;refine mS.1 λe=>v ⟨t,p,q,?_⟩;unfold fmZ;rw [Zr4 (Yb2 ..),Zwx];exact e
 .rintro u ⟨t,p,q,e⟩;unfold fmZ at e;rw [Zr4 (Yb2 ..),Zwx]at e;exact absurd (u t p q) (oR.2 e)
theorem Yfr(D n d e c:Int)(x y z f g h:List Int)(t:Rat):fvE D n d e c x y z f g h t=fvE D n d c e f g h x y z t:=by unfold fvE dfA;grind
theorem sq_le{a b c:Rat}(f:0<=a)(h:a<=b):(a*c)*(a*c)<=(b*c)*(b*c):=by have e:=aG (show 0<=b-a by grind) (show 0<=b+a by grind);have g:=aG e (Yco c);grind
theorem Yk9{n f n':Int}(d g e:Int)(x y z j l h:List Int)(t:Rat)(m:0<=f)(p:f<=D)(q:0<=n)(r:n<=n'):fvE D n d g e x y z j l h t<=fvE f n' d g e x y z j l h t:=by
 have s:(0:Rat)<=(f:Rat):=by exact_mod_cast m
 have u:(f:Rat)<=(D:Rat):=by exact_mod_cast p
 have v:(0:Rat)<=(n:Rat):=by exact_mod_cast q
 have w:(n:Rat)<=(n':Rat):=by exact_mod_cast r
 have B:=sq_le (c:=(d:Rat)*(g:Rat)*(e:Rat)) s u;have F:=sq_le (c:=dfA z h g e t) v w;unfold fvE;grind
theorem Zxy(D d e c:Int)(x y z f g h:List Int)(t:Rat):fvE D d d e c x y z f g h t=((d:Rat)*(d:Rat))*fvE D 1 1 e c x y z f g h t:=by unfold fvE;push_cast;grind
def fvU(D n d:Int)(g h:Zl8)(t:Rat):Rat:=fvE D n d g.1.2.2 h.1.2.2 g.2.1 g.2.2.1 g.2.2.2 h.2.1 h.2.2.1 h.2.2.2 t
theorem Ylb(l:List GpU):(Bf l).2.2=false↔∀g∈l,Fz g.2.2=false:=by
 constructor
 .intro h g c;cases he:Zo9 l with
  | some q=>unfold Bf at h;rw [he]at h;cases h
  | none=>
   have:=kA.1 he g c;cases hn:Fz g.2.2 with
   | false=>rfl
   | true=>exact absurd hn this
 .intro h;have:Zo9 l=none:=kA.2 λg c=>by rw [h g c];exact dH
  unfold Bf;rw [this]
theorem Ybn{α β γ:Type}(f:α->β->γ)(x:γ):∀(l:List α) (m:List β),x∈List.zipWith f l m↔∃g h,(g,h)∈l.zip m/\f g h=x
 | [],m=>O7
 | _::_,[]=>O7
 | a::l,b::m=>by
  rw [mT,bJ,Ybn f x l m,oB];constructor
  .rintro(rfl|⟨g,h,j,e⟩)
   .exact⟨a,b,.head _,rfl⟩
   .exact⟨g,h,.tail _ j,e⟩
  .rintro⟨g,h,j,e⟩;rcases bJ.1 j with c|c
   .cases c;exact .inl e.symm
   .exact .inr ⟨g,h,c,e⟩
theorem Ztx{α β:Type}{g:α}{h:β} : ∀(l:List α) (m:List β),(g,h)∈l.zip m->(h,g)∈m.zip l
 | [],m,c=>by simp at c
 | _::_,[],c=>by simp at c
 | a::l,b::m,c=>by
  rw [oB]at c ⊢;rcases bJ.1 c with e|e
  .cases e;exact .head _
  .exact .tail _ (Ztx l m e)
theorem ap_e2{n:Int} : Bz D n d a b=true↔Fa a b=0/\(Bf (Nz D n d a b)).2.2=false:=by unfold Bz;rw [aO,cK,fP]
theorem Zen{n:Int}(f:∀g∈Nz D n d a b,Cvd g.2.2):Bz D n d a b=true↔Fa a b=0/\∀g h,(g,h)∈(Ow a b a).zip (Ow a b b)->∀t:Rat,0<=t->t<=1->0<=fvU D n d g h t:=by
 rw [ap_e2,Ylb];have c:∀x,x∈Nz D n d a b↔∃g h,(g,h)∈(Ow a b a).zip (Ow a b b)/\gpZ D n d g h=x:=λx=>Ybn _ x _ _;generalize (Ow a b a).zip (Ow a b b)=Z at c;generalize Nz D n d a b=L at c f;refine and_congr oK ⟨λh g q m=>?_,λh g r=>?_⟩
 .have l:gpZ D n d g q∈L:=(c _).2 ⟨g,q,m,rfl⟩;have j:=f _ l;have s:=h _ l;simp only [gpZ]at j s;exact(negZ j).1 s
 .obtain⟨p,q,m,e⟩:=(c g).1 r;have j:=f g r;rw [<-e]at j ⊢;simp only [gpZ]at j ⊢;exact(negZ j).2 (h p q m)
theorem Zqf{n f n':Int}(j:∀g∈Nz D n d a b,Cvd g.2.2)(c:∀g∈Nz f n' d a b,Cvd g.2.2)(l:0<=f)(m:f<=D)(p:0<=n)(r:n<=n')(h:Bz D n d a b=true):Bz f n' d a b=true:=by obtain⟨e,s⟩:=(Zen j).1 h;exact(Zen c).2 ⟨e,λg q u t t0 t1=>mN (s g q u t t0 t1) (Yk9 d _ _ _ _ _ _ _ _ t l m p r)⟩
theorem Ymt(j:0<d)(e:∀g∈Nz D d d a b,Cvd g.2.2)(c:∀g∈Nz D 1 1 a b,Cvd g.2.2):Bz D d d a b=Bz D 1 1 a b:=by
 have q:(0:Rat)<(d:Rat)*(d:Rat):=by
  have:(0:Rat)<(d:Rat):=by exact_mod_cast j
  exact aT this this
 rw [kY,Zen e,Zen c];refine and_congr oK ⟨λh g r f t t0 t1=>?_,λh g r f t t0 t1=>?_⟩
 .have:=h g r f t t0 t1;unfold fvU at this ⊢;rw [Zxy]at this;refine mS.1 λl=>?_;have:=aT q (show 0 < - fvE D 1 1 g.1.2.2 r.1.2.2 g.2.1 g.2.2.1 g.2.2.2 r.2.1 r.2.2.1 r.2.2.2 t by grind);grind
 .unfold fvU;rw [Zxy];exact aG (cW q) (h g r f t t0 t1)
theorem Zy9(a b:List Zi):Oc a b=Oc b a:=by refine Zuy (Zb2 _) (Zb2 _) λx=>?_;show x∈Zl1 _↔x∈Zl1 _;rw [Zbw,Zbw];have c:Bw a b=Bw b a:=Int.max_comm _ _;have e:Bv a b=Bv b a:=Int.min_comm _ _;unfold Zd0;simp only [c,e,bJ,cQ];simp only [show(1:Nat)<=2 from by decide,show(2:Nat)<=2 from by decide,lC];grind
theorem Znf(ts:List Int)(a b:List Zi):∀n,Hf ts a b n=Hf ts b a n
 | 0=>rfl
 | n+1=>by show(Hf ts a b n && (_ && _))=(Hf ts b a n && (_ && _));rw [Znf ts a b n,Bool.and_comm (Pb _ _ a)]
theorem Zte(a b:List Zi):Fq a b=Fq b a:=by unfold Fq Ztd;rw [Zy9 a b,Znf,show Bw a b=Bw b a from Int.max_comm _ _,show Bv a b=Bv b a from Int.min_comm _ _]
theorem Zta(a b ps:List Zi):Ow a b ps=Ow b a ps:=by unfold Ow;rw [Zte,Zy9]
theorem Zfw(a b:List Zi):Fa a b=Fa b a:=by unfold Fa;rw [Zte]
theorem ap_sym{n:Int}(e:∀g∈Nz D n d a b,Cvd g.2.2)(c:∀g∈Nz D n d b a,Cvd g.2.2):Bz D n d a b=Bz D n d b a:=by
 rw [kY,Zen e,Zen c,Zfw a b,Zta a b a,Zta a b b];refine and_congr oK ⟨λh g r f t t0 t1=>?_,λh g r f t t0 t1=>?_⟩
 .have:=h r g (Ztx _ _ f) t t0 t1;unfold fvU at this ⊢;rw [Yfr];exact this
 .have:=h r g (Ztx _ _ f) t t0 t1;unfold fvU at this ⊢;rw [Yfr];exact this
def Mm(ps:List Zi)(t:Int):Bool:=decide (spF ps<=t) && decide (t<=spL ps)
theorem Zku{ps:List Zi}(h:Mm ps t=true):spF ps<=t/\t<=spL ps:=by unfold Mm at h;rw [aO,cK,cK]at h;exact h
def Nd(ps:List Zi)(t:Int):Nat:=ps.findIdx λg=>decide (t<=g.1.2.1)
theorem Yf6{ps:List Zi}(hi:i<ps.length)(f:∀j,j<i->¬t<=(ps.getD j G0).1.2.1)(h:t<=(ps.getD i G0).1.2.1):Nd ps t=i:=by
 unfold Nd;refine(List.findIdx_eq hi).2 ⟨?_,λj e=>?_⟩
 .have c:=h;rw [aF,aL hi]at c;exact aM c
 .have c:=f j e;rw [aF,aL (gN e hi)]at c;exact aJ c
theorem Zk6{ps:List Zi}(e:Yt ps=true)(hi:i+1<ps.length):(ps.getD (i+1) G0).1.1=(ps.getD i G0).1.2.1:=by have h:=(Yz e).1 (i+1) hi;have c:=Zbu (Lm h) (kK i);rw [h]at c;refine bE λf=>?_;have:=me_no (g:=ps.getD i G0) (h:=ps.getD (i+1) G0) f;rw [show i+1-1=i from rfl,this]at c;cases c
theorem Yf4{ps:List Zi}(l:∀g∈ps,Gin g)(e:Yt ps=true)(f:Mm ps t=true)(hi:i<ps.length)(c:∀j,j<i->¬t<=(ps.getD j G0).1.2.1)(h:t<=(ps.getD i G0).1.2.1) :
  SgG (ps.getD i G0)/\(0<=t-(ps.getD i G0).1.1/\t-(ps.getD i G0).1.1<=3600000)/\(1<=(ps.getD i G0).1.2.1-(ps.getD i G0).1.1/\(ps.getD i G0).1.2.1-(ps.getD i G0).1.1<=3600000):=by
 have hs:SgG (ps.getD i G0):=Nx (l _ (Ze hi)) (Lm ((Yz e).1 i hi));have n:=hs.t1;have p:=hs.t2;have q:=hs.t3;have m:(ps.getD i G0).1.1<=t:=by
  match i,hi,c with
  | 0,_,_=>exact(Zku f).1
  | j+1,hi,c=>
   have:=c j (kP j);rw [Zk6 e hi];omega
 exact⟨hs,⟨O1,O1⟩,⟨O1,O1⟩⟩
theorem Zx2{ps:List Zi}(c:Yt ps=true)(f:Mm ps t=true)(e:∀j,j<ps.length->¬t<=(ps.getD j G0).1.2.1):False:=by have g:=(Yz c).2.1;exact e (ps.length-1) O1 (Zku f).2
def exA(ps:List Zi)(t:Int):Int:=t-(ps.getD (Nd ps t) G0).1.1
def exD(ps:List Zi)(t:Int):Int:=(ps.getD (Nd ps t) G0).1.2.1-(ps.getD (Nd ps t) G0).1.1
def exO(ps:List Zi)(t:Int):Int:=(ps.getD (Nd ps t) G0).1.2.2*exD ps t^5/gS (ps.getD (Nd ps t) G0).1.2.2 (exA ps t) (exD ps t) (ps.getD (Nd ps t) G0).2.1.2 (ps.getD (Nd ps t) G0).2.2.1.2 (ps.getD (Nd ps t) G0).2.2.2.2 3
def exL(ps:List Zi)(t:Int):List Int:=Zl6 ((ps.getD (Nd ps t) G0).1.2.2*exD ps t^5) (mk 3 (plC (exA ps t) (exD ps t) (ps.getD (Nd ps t) G0).2.1.2 (ps.getD (Nd ps t) G0).2.2.1.2 (ps.getD (Nd ps t) G0).2.2.2.2))
theorem dg_one{n:Nat} : ((dg 1000000000 n).length=1/\(dg 1000000000 n).getD 0 0=1)↔n=1:=by
 constructor
 .rintro⟨g,e⟩;have f:=Nh (b:=1000000000) O4 n
  match hl:dg 1000000000 n,g with
  | [c],_=>
   rw [hl]at e f;have e:c=1:=e;subst e;exact f.symm
 .rintro rfl;exact⟨rfl,rfl⟩
theorem Ylf{ps:List Zi}(u:∀g∈ps,Gin g)(l:Yt ps=true)(m:Mm ps t=true):0<=exO ps t:=by
 by_cases h:Nd ps t<ps.length
 .have s:∀j,j<Nd ps t->¬t<=(ps.getD j G0).1.2.1:=λj e c=>by have:=iV e;rw [aF,aL (gN e h)]at c;exact kB this c
  have n:t<=(ps.getD (Nd ps t) G0).1.2.1:=by have:=kX (xs:=ps) (p:=λg:Zi=>decide (t<=g.1.2.1)) (w:=h);rw [aF,aL h];exact bL this
  obtain⟨f,q,r⟩:=Yf4 u l m h s n;have v:=f.o1;refine jV (eA O1 (Int.pow_nonneg (by unfold exD;omega))) (dY (Zfx f q r 3).1)
 .exfalso;refine Zx2 l m λj e c=>h ?_;refine mU.2 ⟨_,Ze e,aM c⟩
theorem wh_t(e:0<=o)(h:((dg 1000000000 o.natAbs).length:Int)=1):decide (((dg 1000000000 o.natAbs).getD 0 0:Int)=1)=decide (o=1):=by
 rw [bQ];have:=dg_one (n:=o.natAbs);constructor
 .intro c;have:=this.1 ⟨O1,O1⟩;omega
 .intro c;have:=(this.2 O1).2;omega
theorem wh_f(h:¬((dg 1000000000 o.natAbs).length:Int)=1):false=decide (o=1):=by refine(aJ λc=>h ?_).symm;subst c;rfl
section
variable {P:Program} {N:Nat} {sc:Nat->Prop} {env:Qt} {H:Hp}
theorem d_flda {o:Oper}  {t:TypeId} {f:Nat} {fs:Array Field} {c:Field} {cs vs:Array Value} (j:o.op= .field t x f)
  (n:ev env x=some (.agg cs)) (l:P.underlying t=some (.struct fs)) (g:fs[f]? = some c) (e:∀w,(isAgg c.type).run P w= .ok true w) (h:∀w,(sizeOf c.type).run P w= .ok k w) (m:cs.extract c.offset (c.offset+k)=vs):Nv P N sc o env H (.agg vs):=λa w hs=>by
 subst m;simp [execOp,j,hs.ev n,Instr.field,run_underlying l,g,asAgg,part,e,h]
end
end Go.Sky
namespace Go.Sky
open Go.Proofs.Tryz
open Go.Proofs
set_option synthInstance.maxHeartbeats 0
set_option synthInstance.maxSize 100000
set_option maxRecDepth 20000
set_option maxHeartbeats 1000000
set_option linter.unusedSimpArgs false
variable{t:Int}
theorem Ei(v:Value)(ps:List Zi)(t:Int)(c:1<=ps.length):Xo prog 52 #[v,.int .i64 t] [Qc 6 Pd qG v ps] (.bool (Mm ps t)):=by
 refine Zf func52 ntmps52 λg f e a=>go 9 ?_;refine cl 1 [1] (Au _ _ c) λ_ _=>go 2 ?_;refine Yl (d:=9) J (λb=>?_) (λb=>?_)
 .refine go 2 ?_;refine Kl 1 [1] (Zfe _ _ c) λ_ _=>go 6 ?_;exact Xj a () results52 (by unfold Mm;first|(simp_all;done)|(simp_all;omega)) aA Za
 .refine go 9 ?_;exact Xj a () results52 (by unfold Mm;first|(simp_all;done)|(simp_all;omega)) aA Za
set_option maxHeartbeats 1000000 in
theorem Yaf(v:Value)(ps:List Zi)(t:Int)(u:∀g∈ps,Gin g)(n:Yt ps=true)(d:Mm ps t=true):Cal prog 116 #[v,.int .i64 t] [Qc 6 Pd qG v ps] true (G:=Value×List (Int×SL)×Value) (λr=>Pw r.2.1=exL ps t) (λr=> .agg #[r.1,.bool (decide (exO ps t<0)),r.2.2]) (λr=>[pp r.1 r.2.1,Ga r.2.2 (exO ps t).natAbs]):=by
 refine Zf func116 ntmps116 λI H y m=>?_;refine Oi (Ip (i:=1) J Zd) λo=>go 2 ?_;refine Yh (Zw 2) λw _=>go 9 ?_;refine lp (G:=Nat) [0,1,4] [0,1,2] (λi=>[(5,.int .i64 (i:Int))]) (λi=>[]) (λi=>(i<=ps.length)/\(∀j,j<i->¬t<=(ps.getD j G0).1.2.1)) (λi=>ps.length-i) 0 ⟨O2,λj h=>absurd h (cI j)⟩ K1 aA ?_;rintro i ⟨hi,k⟩;refine go 9 ?_;refine Zc J (λc=>?_) (λc=>?_)
 .refine go 9 ?_;refine dt (Zy (ii:=1) (i:=i) J J J J Zd Ia Ir J)<|dt (Hx (ii:=1) J J J Zd Bd J Km J)<|dt (Hu (ii:=1) G0 J J J Zd iA3 J)<|go 3 ?_;refine Zc J (λa=>?_) (λa=>?_)
  .have e:=a;refine go 1 ?_;obtain⟨f,p,q⟩:=Yf4 u n d O1 k e;have B:=f.t1;have D:=f.t2;have F:=f.t3;refine Zg (Qe (g:=(ps.getD i G0)) (z:=(ps.getD i G0).2.1) 1 51 J J (Ze) O7)<|Zg (Qe (g:=(ps.getD i G0)) (z:=(ps.getD i G0).2.2.1) 1 52 J J (Ze) O7)<|Zg (Qe (g:=(ps.getD i G0)) (z:=(ps.getD i G0).2.2.2) 1 53 J J (Ze) O7)<|Xw (λ_=>False) [(0,0),(1,0),(2,0),(3,0),(4,0),(5,0),(6,0),(7,0),(8,0),(9,0),(10,0),(11,0),(12,0),(13,0),(14,0),(15,0),(16,0),(17,0),(18,0),(19,0),(20,0),(21,0),(22,1),(23,3)]<|go 2 ?_;refine Xn J J (Xr (Zy (ii:=1) (i:=i) J J J J Zd Ia Ir J))<|Xn J J (Xr (Pe (ii:=1) G0 J J J Zd pG))<|go 3 ?_;refine Xn J J (Xr (Zy (ii:=1) (i:=i) J J J J Zd Ia Ir J))<|Xn J J (Xr (Hx (ii:=1) J J J Zd Bd J Km J))<|Xn J J (Xr (Hu (ii:=1) G0 J J J Zd iA3 J))<|go 3 ⟨O1,?_⟩;refine Xn J J (Xr (Zy (ii:=1) (i:=i) J J J J Zd Ia Ir J))<|Xn J J (Xr (Hx (ii:=1) J J J Zd Bd J Km J))<|Xn J J (Xr (Hu (ii:=1) G0 J J J Zd iA3 J))<|go 2 ?_;refine Xn J J (Xr (Zy (ii:=1) (i:=i) J J J J Zd Ia Ir J))<|Xn J J (Xr (Hx (ii:=1) J J J Zd Bd J Km J))<|Xn J J (Xr (Hu (ii:=1) G0 J J J Zd iA3 J))<|go 1 ⟨O1,?_⟩;refine Yv (Zj 3 [51,52,53] (Zgu _ _ _ _ _ _ _ _ _ (t-(ps.getD i G0).1.1) ((ps.getD i G0).1.2.1-(ps.getD i G0).1.1) f p q)) λg s=>go 9 ?_;have b:=Yf6 O1 k e;exact Xj m _ results116 (by unfold exO exA exD;rw [b]) (by unfold exL exA exD;rw [b];exact s) (Ns 3 (Ns 4 Za (by unfold exO exA exD;rw [b])))
  .have e:=a;refine go 8 ⟨O1,?_⟩;exact Yq (i+1) ⟨O2,λj h=>by rcases bM.1 h with l|l;exact k j l;subst l;exact e⟩ O2 K1 aA
 .exfalso;exact Zx2 n d (λj x=>k j O1)
theorem Zm7(v:Value)(ps:List Zi)(t:Int)(h:∀g∈ps,Gin g)(f:Yt ps=true)(b:Mm ps t=true):Xo prog 56 #[v,.int .i64 t] [Qc 6 Pd qG v ps] (.bool (decide (exO ps t=1))):=by
 refine Zf func56 ntmps56 λm l k c=>go 9 ?_;refine cl 2 [1] (Yaf _ _ _ h f b) λg j=>?_;refine dt (d_flda (vs:=#[.bool (decide (exO ps t<0)),g.2.2]) J J underlying135 J isAgg89 Zlv J)<|Yh (Zw 4) λi _=>go 10 ?_;refine Yl (d:=14) J (λa=>?_) (λa=>?_)
 .have e:=a;refine go 10 ⟨O1,O1,?_⟩;exact Xj c () results56 (vB (wh_t (Ylf h f b) e).symm) aA Za
 .have e:=a;refine go 10 ?_;exact Xj c () results56 (vB (wh_f e).symm) aA Za
theorem Znr{ps:List Zi}(d:∀g∈ps,Gin g)(b:Yt ps=true){k m:Nat}(l:k<=m)(a:m<ps.length):(ps.getD k G0).1.2.1<=(ps.getD m G0).1.2.1:=by
 induction m with
 | zero=>
   obtain rfl:k=0:=O1;exact eO _
 | succ m e=>
  rcases bC m k with h|h
  .obtain rfl:k=m+1:=O1;exact eO _
  .have f:=e h O1;have i:=Zk6 b a;have c:SgG (ps.getD (m+1) G0):=Nx (d _ (Ze a)) (Lm ((Yz b).1 _ a));have j:=c.t2;omega
theorem exI_s{ps:List Zi}(c:Yt ps=true)(f:Mm ps t=true){i j:Nat}(e:i<=j/\j<=ps.length)(d:¬i<j)(a:∀k,k<i->¬t<=(ps.getD k G0).1.2.1)(b:∀k,j<=k->k<ps.length->t<=(ps.getD k G0).1.2.1):Nd ps t=i:=by
 by_cases h:i<ps.length
 .exact Yf6 h a (b i O1 h)
 .exact(Zx2 c f λk g=>a k O1).elim
theorem Zb6{ps:List Zi}(b:Yt ps=true)(d:Mm ps t=true):Nd ps t<ps.length:=by refine bE λh=>Zx2 b d λj c a=>h ?_;exact mU.2 ⟨_,Ze c,aM a⟩
theorem Zeg{ps:List Zi}(e:∀g∈ps,Gin g)(b:Yt ps=true)(d:Mm ps t=true):SgG (ps.getD (Nd ps t) G0)/\(0<=exA ps t/\exA ps t<=3600000)/\(1<=exD ps t/\exD ps t<=3600000):=by
 have h:=Zb6 b d;refine Yf4 e b d h (λj c a=>?_) ?_
 .have:=iV c;rw [aF,aL (gN c h)]at a;exact kB this a
 .have:=kX (xs:=ps) (p:=λg:Zi=>decide (t<=g.1.2.1)) (w:=h);rw [aF,aL h];exact bL this
def exC(ps:List Zi)(t:Int)(c:List Int):Int:=pl c (exA ps t) (exD ps t)/gS (ps.getD (Nd ps t) G0).1.2.2 (exA ps t) (exD ps t) (ps.getD (Nd ps t) G0).2.1.2 (ps.getD (Nd ps t) G0).2.2.1.2 (ps.getD (Nd ps t) G0).2.2.2.2 3
theorem Yjg(v:Value)(ps:List Zi)(h:∀g∈ps,Gin g)(c:Yt ps=true):Xo prog 120 #[v] [Qc 6 Pd qG v ps] (.tuple #[.int .i64 (spF ps),.int .i64 (spL ps),.int .i64 0]):=by refine Zf func120 ntmps120 λl k j a=>?_;refine Oi (Ip (i:=1) J Zd) (λd=>?_);obtain⟨-,e,f⟩:=Yz c;refine go 11 ?_;refine cl 1 [1] (Ff _ _ h) λ_ _=>?_;refine dt (dF (Yb J J) (aK (λb=>Value.bool (!b)) c))<|go 6 ?_;refine Xw (λ_=>False) [(0,0),(1,0),(2,0),(3,0),(4,0),(5,0),(6,0),(7,0),(8,0),(9,0),(10,0),(11,0),(12,3),(13,3)]<|go 2 ⟨O1,?_⟩;refine Xn J J (Xr (Hx (ii:=1) J J J Zd Bd J Km J))<|Xn J J (Xr (Hu (ii:=1) G0 J J J Zd iA3 J))<|go 4 ⟨O1,?_⟩;refine Xn J J (Xr (Zy (ii:=1) (i:=(ps.length-1)) J J J J Zd Ia Ir))<|Xn J J (Xr (Hx (ii:=1) J J J Zd Bd J Km J))<|Xn J J (Xr (Hu (ii:=1) G0 J J J Zd iA3 J))<|go 6 ?_;exact xe3 a () results120 J aA Za
theorem Zz4(v:Value)(ps:List Zi)(t:Int)(b c:Nat)(k:Nat)(e:k<ps.length):Xo prog 176 #[.int .i64 (k:Int),.pointer (some ⟨b,0,none⟩),.pointer (some ⟨c,0,none⟩)] [Ie b 3 #[.int .i64 t],Ie c 38 #[v],Qc 6 Pd qG v ps] (.bool (decide (t<=(ps.getD k G0).1.2.1))):=by refine Zf func176 ntmps176 λh g f a=>?_;refine Oi (Ip (i:=3) J Zd) λd=>go 6 ?_;refine Xw (λ_=>False) [(0,0),(1,0),(2,0),(3,0),(4,0),(5,0),(6,0),(7,3)]<|go 3 ?_;refine Xn J J (Xr (Zy (ii:=3) (i:=k) J J J J Zd Ia Ir J))<|Xn J J (Xr (Hx (ii:=3) J J J Zd Bd J Km J))<|Xn J J (Xr (Hu (ii:=3) G0 J J J Zd iA3 J))<|go 5 ?_;exact Xj a () results176 J aA Za
set_option maxHeartbeats 1000000 in
theorem Zwh(v:Value)(ps:List Zi)(t:Int)(f h:Nat)(w:∀g∈ps,Gin g)(e:Yt ps=true)(s:Mm ps t=true):Xo prog 110 #[.int .i64 (ps.length:Int),.func (.func 176) #[] #[.pointer (some ⟨f,0,none⟩),.pointer (some ⟨h,0,none⟩)]] [Ie f 3 #[.int .i64 t],Ie h 38 #[v],Qc 6 Pd qG v ps] (.int .i64 (Nd ps t:Int)):=by
 refine Zf func110 ntmps110 λF D B u=>?_;have y:=(Yz e).2.2;refine go 14 ?_;refine lp (G:=Nat×Nat) [1] [0,1,2,3] (λq=>[(5,.int .i64 (q.1:Int)),(6,.int .i64 (q.2:Int))]) (λq=>[]) (λq=>(q.1<=q.2/\q.2<=ps.length)/\(∀k,k<q.1->¬t<=(ps.getD k G0).1.2.1)/\(∀k,q.2<=k->k<ps.length->t<=(ps.getD k G0).1.2.1)) (λq=>q.2-q.1) (0,ps.length) ⟨⟨bG _,aI _⟩,λk b=>absurd b (cI k),λk b c=>absurd c (Nat.not_lt.2 b)⟩ K2 aA ?_;rintro⟨i,j⟩ ⟨d,l,m⟩;dsimp only at d l m;dsimp only;refine go 8 ?_;refine Zc J (λo=>?_) (λo=>?_)
 .have z:i<j:=O1;refine go 7 ?_;refine dt (Xq (r':= .int .i64 ((i+j:Nat):Int)) (Yg3 J J J) (by rw [jW]))<|dt (Zpu J J uT3 underlying230 (by simp only [U];omega))<|dt (Gk (n:=1) (n':=2) J J J J J)<|dt (Za2 J J underlying230 uT3 ⟨O1,O1⟩)<|go 7 ?_;refine tt (Yi5 (n:=3) (fs:=[]) (vs:=[_]) (us:=[_,_]) (Zz4 v ps t f h ((i+j)/2) O1) J J J J K1 call176 (Zt 1 J J J (Zt 2 J J J (Zt 3 J J J Zx))) J B.h) λ_ _=>go 3 ?_;refine Zc J (λa=>?_) (λa=>?_)
  .have p:=a;refine go 6 ⟨O1,?_⟩;exact Yq (((i+j)/2)+1,j) ⟨⟨O10,O10⟩,λk b x=>p (mR x (Znr w e (by dsimp only at b;omega) O1)),m⟩ O10 K2 aA
  .have p:=a;refine go 5 ?_;exact Yq (i,((i+j)/2)) ⟨⟨O10,O10⟩,l,λk b c=>mR (jG.1 p) (Znr w e (by dsimp only at b;omega) c)⟩ O10 K2 aA
 .have r:¬i<j:=O1;refine go 12 ?_;exact Xj u () results110 (by rw [exI_s e s d r l m]) aA Za
theorem Yct(v:Value)(ps:List Zi)(t:Int)(f:∀g∈ps,Gin g)(c:Yt ps=true)(a:Mm ps t=true):Xo prog 112 #[v,.int .i64 t] [Qc 6 Pd qG v ps] (.tuple #[plV (exC ps t (ps.getD (Nd ps t) G0).2.1.2) (exC ps t (ps.getD (Nd ps t) G0).2.2.1.2) (exC ps t (ps.getD (Nd ps t) G0).2.2.2.2) (exO ps t),.int .i64 0]):=by
 refine Zf func112 ntmps112 λI G y e=>?_;obtain⟨d,h,p⟩:=Zeg f c a;obtain⟨s,u⟩:=Zku a;have b:=Zb6 c a;have w:=(Yz c).2.2;have r:0<=t-(ps.getD (Nd ps t) G0).1.1/\t-(ps.getD (Nd ps t) G0).1.1<=3600000:=h;have B:=d.t1;have D:=d.t2;have F:=d.t3;refine Oi (Ip (i:=1) J Zd) (λq=>?_);refine Zk7 (Oh 1 J Zd) (λH j=>?_);subst j;refine go 2 ?_;refine Yh (Yi 2) λx _=>Yh (Yi 3) λk _=>Yh (Zw 4) λl _=>go 6 ?_;refine cl 4 [1] (Yjg _ _ f c) λ_ _=>go 14 ?_;refine kf (aJ O4)<|go 8 ?_;refine kf (aJ O1)<|go 3 ?_;refine kfg (aJ O1)<|go 9 ?_;refine Zg (Qe (g:=(ps.getD (Nd ps t) G0)) (z:=(ps.getD (Nd ps t) G0).2.1) 1 51 J J (Ze) O7)<|Zg (Qe (g:=(ps.getD (Nd ps t) G0)) (z:=(ps.getD (Nd ps t) G0).2.2.1) 1 52 J J (Ze) O7)<|Zg (Qe (g:=(ps.getD (Nd ps t) G0)) (z:=(ps.getD (Nd ps t) G0).2.2.2) 1 53 J J (Ze) O7)<|Hr (λ_=>False) [8]<|Zm (n:=5) [(0,0),(1,0),(2,0),(3,0)]<|go 3 ?_;refine Xn J J (Xr (Zyl (vs:=[]) (us:=[_,_]) J aA K2))<|go 1 ?_;refine Qs (n:=4) 4 7 ?_ ?_
 .refine Nm (Zj 4 [3,2,1] (Zwh _ ps t _ _ f c a)) λ_ _=>?_;refine Zm (n:=0) [(5,0),(6,0),(7,1),(8,3)]<|Xn J J (Xr (Zy (ii:=1) (i:=(Nd ps t)) J J J J Zd Ia Ir J b))<|Xn J J (Xr (Pe (ii:=1) G0 J J J Zd pG b))<|Yv (Zw 5) λm _=>go 2 ?_;refine Zz<|go 13 ⟨O1,O1,?_⟩;refine cl 5 [51,52,53] (Ze3 _ _ _ _ _ _ _ _ _ (exA ps t) (exD ps t) d h p) λ_ _=>go 5 ?_;exact Mn e () results112 J aA Za
 .refine Nm (Zw 6) λo _=>?_;refine Zm (n:=0) [(4,1),(5,0),(6,0),(8,3)]<|Yv (Zj 6 [3,2,1] (Zwh _ ps t _ _ f c a)) λ_ _=>?_;refine Xn J J (Xr (Zy (ii:=1) (i:=(Nd ps t)) J J J J Zd Ia Ir J b))<|Xn J J (Xr (Pe (ii:=1) G0 J J J Zd pG b))<|go 2 ?_;refine Zz<|go 13 ⟨O1,O1,?_⟩;refine cl 6 [51,52,53] (Ze3 _ _ _ _ _ _ _ _ _ (exA ps t) (exD ps t) d h p) λ_ _=>go 5 ?_;exact Mn e () results112 J aA Za
end Go.Sky

