/- Rules, arithmetic and contracts: part 18. No conditions but those that each theorem names. -/
import Derived.Test.YteikicbnfbgpnaaGreatEa216
import Derived.MapKept
import Derived.RangeFuncNested
set_option linter.all false
set_option maxHeartbeats 4000000
namespace Go.Sky
open Go.Proofs.Tryz
open Go.Proofs
set_option synthInstance.maxHeartbeats 0
set_option synthInstance.maxSize 100000
set_option maxRecDepth 20000
set_option linter.unusedSimpArgs false
open Go Go.MapKept
variable{D d:Int}{i:Nat}{a b:List Zk}
variable {P:Program} {N:Nat} {sc:Nat->Prop} {env env':Pw} {H H':Hp} {Q Q':Exit->Act->World->Prop} {M:Nat->Prop}
abbrev PT:=SL×List Zk
abbrev PT0:PT:=((none,0,0),[])
abbrev Znu (x:PT):Value:=Xk x.1
abbrev qP (x:PT):Pc:=Xn 6 Xv qG (Xk x.1) x.2
def mpc(b:Nat)(c:Array MapEntry)(n:Nat):Pc:=
 {own:=true,fp:=λk=>k=b,holds:=λw=>w.heap[b]? = some (.map c n)
  lt:=λw k h f=>by subst f;exact(aS.1 h).1
  stable:=λw j h e=>by rw [<-h];exact e.block b (aS.1 h).1 (λg=>g rfl) }
def fewsB(m k:Nat)(c:List PT):Bool:=decide (c.length<=m) && c.all λx=>Zbc x.2 k
def Zjp(c:List PT):Bool:=c.all λx=>Yf x.2
abbrev ClT:=(Int×Int×Int×Int)×Bool×Int
abbrev clE (r:ClT):Value:= .tuple #[.agg #[.int .i64 r.1.1,.int .i64 r.1.2.1,.int .i64 r.1.2.2.1,.int .i64 r.1.2.2.2],.bool r.2.1,.int .i64 r.2.2]
def pth(ps:List PT)(i:Nat):List Zk:=(ps.getD i PT0).2
def clV(D n d:Int)(ps:List PT)(i k:Nat):ClT:=
 (if(Cc (Ma D n d (pth ps i) (pth ps k))).2.2=true then((i:Int),(k:Int),(Cc (Ma D n d (pth ps i) (pth ps k))).1,(Cc (Ma D n d (pth ps i) (pth ps k))).2.1)else(0,0,0,0),(Cc (Ma D n d (pth ps i) (pth ps k))).2.2,Mx (pth ps i) (pth ps k))
def ClA(D n d:Int)(ps:List PT)(i:Nat):Prop:=∀j k,j<k->k<ps.length->j<i->Fw D n d (pth ps j) (pth ps k)=true
def ClB(D n d:Int)(ps:List PT)(i m:Nat):Prop:=∀k,i<k->k<m->Fw D n d (pth ps i) (pth ps k)=true
def ClR(D n d:Int)(ps:List PT)(r:ClT):Prop:=
 (r=((0,0,0,0),false,0)/\ClA D n d ps ps.length)\/∃i k,i<k/\k<ps.length/\ClA D n d ps i/\ClB D n d ps i k/\Fw D n d (pth ps i) (pth ps k)=false/\r=clV D n d ps i k
def clA_0{n:Int}{ps:List PT} : ClA D n d ps 0:=λj k _ _ h=>absurd h (bD _)
def clB_0{n:Int}{ps:List PT} : ClB D n d ps i (i+1):=λk c e=>absurd c O1
def Yoe{n:Int}{ps:List PT}{k:Nat}(h:ClA D n d ps i)(c:ClB D n d ps i k)(hi:i<k)(f:k<ps.length)(e:Fw D n d (pth ps i) (pth ps k)=false):ClR D n d ps (clV D n d ps i k):= .inr ⟨i,k,hi,f,h,c,e,rfl⟩
theorem Zx6{n:Int}{ps:List PT}{r s:ClT}(h:ClR D n d ps r)(g:ClR D n d ps s):r=s:=by
 rcases h with⟨rfl,h⟩|⟨i,k,l,p,u,v,x,rfl⟩<;>rcases g with⟨rfl,g⟩|⟨j,m,f,o,q,t,w,rfl⟩
 .rfl
 .have:=h j m f o O1;grind
 .have:=g i k l p O1;grind
 .rcases fM i j with c|c|c
  .have:=q i k l p c;grind
  .subst c;rcases fM k m with e|e|e
   .have:=t k l e;grind
   .grind
   .have:=v m f e;grind
  .have:=u j m f o c;grind
theorem ap_no{n:Int}(h:(Cc (Ma D n d a b)).2.2=false)(c:Mx a b=0):Fw D n d a b=true:=by unfold Fw;grind
theorem ap_is{n:Int}(h:(Cc (Ma D n d a b)).2.2=true):Fw D n d a b=false:=by unfold Fw;grind
theorem ap_e{n:Int}(c:Mx a b≠0):Fw D n d a b=false:=by unfold Fw;grind
theorem Zgg{c:List PT}(h:Zjp c=true){x:PT}(e:x∈c):Yf x.2=true:=cI.1 h x e
theorem Ypr{c:List PT}{x:PT}(e:x∈c)(h:Yf x.2=false):Zjp c=false:=by grind [Zgg]
theorem Yhy{c:List PT}{m:Nat}(g:c.length<=m)(h:∀k,k<m->k<c.length->Yf (pth c k)=true):Zjp c=true:=
 cI.2 λx f=>by obtain⟨k,e,rfl⟩:=cQ.1 f;have:=h k O1 e;unfold pth at this;grind
end Go.Sky
namespace Go.Sky
open Go.Proofs
variable{a b:List Zk}{p q x y z x2 y2 z2:List Int}{D ov ov2:Int}{zs:List Ad}{t:TypeId}{kd:IntKind}
def pPq:Enc Tryz.prog 38 1 Znu:=Enc.flat Tryz.sizeOf38 Tryz.isAgg38 (λ_=>rfl)
@[reducible,instance] def encPqI:EncT Tryz.prog 38 1 Znu:=⟨pPq⟩
def shCl:Tryz.prog.stoodInHeld 64=false:=O8
def egCl:Tryz.prog.eqGuardType Tryz.prog.depth 64=false:=O8
theorem inCl(m:Nat)(w:World)(a b c d:Int):(Op.equalIn (m+2) 64 (.agg #[.int .i64 a,.int .i64 b,.int .i64 c,.int .i64 d]) (.agg #[.int .i64 a,.int .i64 b,.int .i64 c,.int .i64 d])).run Tryz.prog w= .ok true w:=by
 have e:Tryz.prog.underlying 64=some (.struct (Tryz.prog.fieldsOf 64)):=by unfold Program.fieldsOf;rw [Tryz.underlying64]
 rw [run_equalIn_agg w (m+1) 64 _ _ e shCl];unfold Program.fieldsOf;rw [Tryz.underlying64];simp [Op.eqFields,part,Tryz.isAgg3,run_equalIn_int _ _ _ _ _ _ _ Tryz.underlying3]
theorem eqCl(w:World){a b c d:Int}:(binOp .eql 64 (.agg #[.int .i64 a,.int .i64 b,.int .i64 c,.int .i64 d]) (.agg #[.int .i64 a,.int .i64 b,.int .i64 c,.int .i64 d])).run Tryz.prog w= .ok (.bool true) w:=by rw [run_eql_struct,inCl];rfl
theorem Ax(h:Tr p):Zt p 1=p:=by
 unfold Zt;have:p.map (· * (1:Int))=p:=by rw [show(λx:Int=>x*1)=id from nF λx=>fH x,mZ]
 rw [this,Ao h]
def dk_one{a b:Int} : dfK p q a b 1=dfP p q a b:=Ax (Qn _)
theorem Yqa{a b:Int} : sqK p q a b 1=sqP p q a b:=by unfold sqK sqP;rw [dk_one]
theorem ng_one(D ov ov2:Int):ngC [D,1,ov,ov2] 4=ngC [D,ov,ov2] 3:=by
 have c:ngC [D,1,ov,ov2] 1=ngC [D,ov,ov2] 1:=rfl;have t1:Tr (ngC [D,ov,ov2] 1):=(Zr9 _ 1).2.2;have d:ngC [D,1,ov,ov2] 2=ngC [D,ov,ov2] 1:=by show Zt (Zt (ngC [D,1,ov,ov2] 1) 1) 1=_;rw [c,Ax t1,Ax t1]
 have e:ngC [D,1,ov,ov2] 3=ngC [D,ov,ov2] 2:=by show Zt (Zt (ngC [D,1,ov,ov2] 2) ov) ov=Zt (Zt (ngC [D,ov,ov2] 1) ov) ov;rw [d]
 show Zt (Zt (ngC [D,1,ov,ov2] 3) ov2) ov2=Zt (Zt (ngC [D,ov,ov2] 2) ov2) ov2;rw [e]
def fqS(ov ov2:Int)(x y z x2 y2 z2:List Int)(i:Nat):List Int:=sqP (Zs i x y z) (Zs i x2 y2 z2) ov ov2
def smS(D ov ov2:Int)(x y z x2 y2 z2:List Int)(i:Nat):List Int:=smP (ngC [D,ov,ov2] 3) (fqS ov ov2 x y z x2 y2 z2) i
def Yjc(i:Nat):Zs i (1:Int) 1 1=1:=Cr (p:=λk:Int=>k=1) rfl rfl rfl
theorem fsZ(D ov ov2:Int)(x y z x2 y2 z2:List Int):fmZ D 1 1 ov ov2 x y z x2 y2 z2=Yb (smS D ov ov2 x y z x2 y2 z2 3):=by
 have c:fqZ 1 1 ov ov2 x y z x2 y2 z2=fqS ov ov2 x y z x2 y2 z2:=nF λi=>by unfold fqZ fqS;rw [Yjc,Yqa]
 unfold fmZ smZ smS cnZ;rw [c,ng_one]
def dsB(D:Int):Bool:=decide (0<=D) && decide (D<=4194304)
theorem Ys1(h:dsB D=true):0<=D/\D<=4194304:=by unfold dsB at h;rw [aN,cF,cF]at h;exact h
structure FsX (D ov ov2:Int) (x y z x2 y2 z2:List Int):Prop where
 X:∀i,FmX (Zs i x y z) (Zs i x2 y2 z2) ov ov2 1
 N:∀i,i<=3->NgX [D,ov,ov2] i
 Q:SmX (ngC [D,ov,ov2] 3) (fqS ov ov2 x y z x2 y2 z2)
theorem fsX{fr w d h:Int}(f:Sgo fr w ov x y z)(c:Sgo d h ov2 x2 y2 z2)(m:∀i,Ab KA (tzl (Zs i x y z)))(e:∀i,Ab KA (tzl (Zs i x2 y2 z2)))(o:dsB D=true):FsX D ov ov2 x y z x2 y2 z2:=by
 obtain⟨F,B⟩:=Ys1 o;have r:=f.o1;have s:=f.o2;have u:=c.o1;have v:=c.o2;have g:∀i,FmX (Zs i x y z) (Zs i x2 y2 z2) ov ov2 1:=λi=>fmX (m i) (e i) (f.lc i).2 (c.lc i).2 ⟨r,s⟩ ⟨u,v⟩ ⟨O4,O4⟩;have n:∀i,([D,ov,ov2].getD i 0).natAbs<=4294967296:=λi=>by
  match i with
  | 0=>show D.natAbs<=_;omega
  | 1=>show ov.natAbs<=_;omega
  | 2=>show ov2.natAbs<=_;omega
  | i+3=>show(0:Int).natAbs<=_;decide
 refine⟨g,λi hi=>ngX n (aB hi O4),?_⟩;obtain⟨j,k,l⟩:=Zr9 [D,ov,ov2] 3;refine smX (j.mono ?_) k l (λi=>(g i).ab8) (λi=>(g i).l8);show 1*D.natAbs*D.natAbs*ov.natAbs*ov.natAbs*ov2.natAbs*ov2.natAbs<=2^190;refine aB (aP (aP (aP (aP (aP (aP (aF 1) (show D.natAbs<=4194304 by omega)) (show D.natAbs<=4194304 by omega)) (show ov.natAbs<=4294967296 by omega)) (show ov.natAbs<=4294967296 by omega)) (show ov2.natAbs<=4294967296 by omega)) (show ov2.natAbs<=4294967296 by omega)) O7
theorem Ydo(h:FsX D ov ov2 x y z x2 y2 z2):Cvd (fmZ D 1 1 ov ov2 x y z x2 y2 z2):=by rw [fsZ];exact h.Q.d
theorem Ynx(i:∀g∈a,Gin g)(j:∀g∈b,Gin g)(c:Yf a=true)(d:Yf b=true)(I:dsB D=true){xs ys:List Zk}(o:xs.map Gx=Lx a b a)(s:ys.map Gx=Lx a b b):∀g∈Ma D 1 1 a b,Cvd g.2.2:=λg n=>by
 unfold Ma at n;obtain⟨k,F,e⟩:=cQ.1 n;rw [lX]at e;subst e;rw [mG]at F;have f:k<(Lx a b a).length:=O1;have h:k<(Lx a b b).length:=O1;have M:(Lx a b a)[k]∈xs.map Gx:=by rw [o];exact iS f
 have N:(Lx a b b)[k]∈ys.map Gx:=by rw [s];exact iS h
 obtain⟨q,G,w⟩:=dI.1 M;obtain⟨r,H,B⟩:=dI.1 N;obtain⟨u,l⟩:=Zf6 i c o q G;obtain⟨v,m⟩:=Zf6 j d s r H;rw [<-w,<-B];simp only [gpZ,Gx];exact Ydo (fsX (Oj u l) (Oj v m) (Za7 l) (Za7 m) I)
theorem Yny(e:∀g∈a,Gin g)(f:∀g∈b,Gin g)(c:Yf a=true)(d:Yf b=true)(l:dsB D=true)(h:zs.map unP=Ma D 1 1 a b){k:Nat}(i:k<zs.length):Cvd (zs.getD k Gp0).2.2:=by
 have j:unP (zs.getD k Gp0)∈Ma D 1 1 a b:=by rw [<-h];exact dI.2 ⟨_,Zd i,rfl⟩
 exact Ynx e f c d l (Zum (Lx a b a)) (Zum (Lx a b b)) _ j
section
variable {P:Program} {N:Nat} {sc:Nat->Prop} {env:Pw} {H:Hp}
theorem d_ix3i {o:Oper} {x y:Operand} {e:TypeId} {i:Nat}  {m d f g:Int} (n:o.op= .index t x y) (s:ev env x=some (.agg #[.int .i64 d,.int .i64 f,.int .i64 g])) (u:ev env y=some (.int kd m))
  (r:P.underlying t=some (.array 3 e)) (k:∀w,(sizeOf e).run P w= .ok 1 w) (j:∀w,(isAgg e).run P w= .ok false w) (c:m=(i:Int)) (l:i<3):Lk P N sc o env H (.int .i64 ([d,f,g].getD i 0)):=λa w hs=>by
 subst c;have h:i=0\/i=1\/i=2:=O1;rcases h with rfl|rfl|rfl<;>simp [execOp,n,hs.ev s,hs.ev u,Instr.index,asIntOf,run_underlying r,k,j,asAgg,part]
end
theorem df_sel{X Y Z:List Int}(i:Nat)(c:X=dfP x x2 ov ov2)(d:Y=dfP y y2 ov ov2)(e:Z=dfP z z2 ov ov2):Zs i X Y Z=dfP (Zs i x y z) (Zs i x2 y2 z2) ov ov2:=by subst c d e;unfold Zs;split<;>rfl
end Go.Sky
namespace Go.Sky
open Go.Proofs.Tryz
open Go.Proofs
set_option synthInstance.maxHeartbeats 0
set_option synthInstance.maxSize 100000
set_option maxRecDepth 20000
set_option linter.unusedSimpArgs false
variable{zd:Int}{d i:Nat}{vx vy vz vx2 vy2 vz2 va vb:Value}{x:Operand}{pa pb:List Zk}{ops:Array Oper}{o:Oper}{rest:List Oper}{ops':List Operand}{tys:Array TypeId}{w0:World}{M:Nat->Prop}{Jx:World->Prop}{pre:List Pc}
theorem Zgt:Qe prog 93 #[.int .i64 zd] [] (.bool (dsB zd)):=by
 refine Zg func93 ntmps93 λw0 e c a=>go 10 ?_;refine Xf 5 J (λb=>?_) (λb=>?_)
 .refine go 7 ?_;exact Xh a () results93 (by unfold dsB;first|(simp_all;done)|(simp_all;omega)) aA Za
 .refine go 7 ?_;exact Xh a () results93 (by unfold dsB;first|(simp_all;done)|(simp_all;omega)) aA Za
theorem Zmi{s t:Value}{c d:List Int}{fr B f k p b:Int}(e:FmX c d f b 1)(v:∀a∈c,Nc a)(h:c.length<=6)(w:∀a∈d,Nc a)(j:d.length<=6)(y:Nc f)(l:Nc b):Cal prog 161 #[s,t,.agg #[.int .i64 fr,.int .i64 B,.int .i64 f,vx,vy,vz],.agg #[.int .i64 k,.int .i64 p,.int .i64 b,vx2,vy2,vz2]] [Yx 1 Yj s c,Yx 1 Yj t d] true (G:=SL×List Int) (λg=>g.2=dfP c d f b) (λg=>Xk g.1) (λg=>[Yx 2 wv (Xk g.1) g.2]):=by refine Zg func161 ntmps161 λw0 H F m=>go 2 ?_;refine Yd (Yk 3) λD _=>Yd (Yk 4) λr _=>go 6 ?_;refine cl 5 [1] (Zg8 v (aB h O4)) λ_ _=>?_;refine Xg (Np 5 (q:=Yx 2 wv _ (tzl c)) (aD (Yx 2 wv _) (aK (Zqq h))) J J)<|go 10 ?_;refine cl 6 [2] (Zg8 w (aB j O4)) λ_ _=>?_;refine Xg (Np 6 (q:=Yx 2 wv _ (tzl d)) (aD (Yx 2 wv _) (aK (Zqq j))) J J)<|go 12 ?_;refine cl 6 [] (Ya b l) λ_ _=>cl 7 [5] (Ie b e.v1 e.b1 e.s1) λ_ _=>go 11 ?_;refine cl 7 [] (Ya f y) λ_ _=>cl 8 [6] (Ie f e.v2 e.a1 e.s2) λ_ _=>go 10 ?_;refine cl 9 [7,8] (Ykw (Zt (tzl c) b) (Zt (tzl d) f) e.v3 e.v4 e.s3) λ_ _=>?_;refine Xg (Np 9 (q:=Yx 2 wv _ (dfP c d f b)) (aD (Yx 2 wv _) J) J J)<|go 13 ?_;refine Zud (Xp 9 J Zr) (λz n=>?_);subst n;generalize dfP c d f b=u;exact Xh m (z,u) results161 J J (Ph 9 Za)
theorem Ybx{fr S e s t b:Int}{x y z h j k:List Int}(l:Sgo fr S e x y z)(c:Sgo s t b h j k)(W:∀i,Ab KA (tzl (Zs i x y z)))(D:∀i,Ab KA (tzl (Zs i h j k)))(N:dsB zd=true):Cal prog 94 #[.agg #[.int .i64 fr,.int .i64 S,.int .i64 e,vx,vy,vz],.agg #[.int .i64 s,.int .i64 t,.int .i64 b,vx2,vy2,vz2],.int .i64 zd] [Yx 1 Yj vx x,Yx 1 Yj vy y,Yx 1 Yj vz z,Yx 1 Yj vx2 h,Yx 1 Yj vy2 j,Yx 1 Yj vz2 k] true (G:=SL×List Int) (λg=>g.2=fmZ zd 1 1 e b x y z h j k) (λg=>Xk g.1) (λg=>[Yx 2 wv (Xk g.1) g.2]):=by
 refine Zg func94 ntmps94 λw0 sc Z H=>?_;have n:=fsX l c W D N;refine go 2<|Yd (Yk 7) λbx _=>Yd (Yk 8) λP _=>go 5 ?_;refine tt (Xx [(0,_)] 9 (enc:=Yj) ([-1]:List Int) J J K2 Py ti3 J J J J J pZ.cells J J Z.h) (λv _=>?_);refine Xg (Xo 9 J J pZ)<|cl 10 [9] (Zg8 (λa Y=>by rw [bN.1 Y];exact⟨O4,O4⟩)) λ_ _=>?_;refine Xg (Np 10 (q:=Yx 2 wv _ [-1]) (aD (Yx 2 wv _) tzlm1) J J)<|go 15 ?_;refine dt (Xy [(0,_),(1,_),(2,_)] J K6 (λa w hs=>Yo1 ((Yg J) a w hs) ((Yg J) a w hs) ((Yg J) a w hs)))<|go 4 ?_;refine Zf (Xs 10 80 J J J)<|lp (G:=Nat×Value) [3,4,23] [0,1,2,3,4,5,6,7,8,9,10] (λq=>[(24,.int .i64 (q.1:Int)),(7,q.2)]) (λq=>[(80,Yx 2 wv q.2 (ngC [zd,e,b] q.1))]) (λq=>q.1<=3) (λq=>3-q.1) (0,_) O2 K2 K1 ?_;rintro⟨i,vs⟩ hi;dsimp only at hi;dsimp only;have f:=n.N i hi;refine go 6<|Ze J (λu=>?_) (λu=>?_)
 .refine go 6 ?_;refine dt (d_ix3i (i:=i) J J J underlying165 Kx iA3 J O1)<|go 7 ?_;refine cl 10 [] (Ya ([zd,e,b].getD i 0) f.inn) λ_ _=>cl 11 [80] (Ie (xs:=(ngC [zd,e,b] i)) ([zd,e,b].getD i 0) f.v f.b f.s) λ_ _=>go 9 ?_;refine cl 11 [] (Ya ([zd,e,b].getD i 0) f.inn) λ_ _=>cl 12 [11] (Ie (xs:=(Zt (ngC [zd,e,b] i) ([zd,e,b].getD i 0))) ([zd,e,b].getD i 0) f.v2 f.b f.s2) λ_ _=>?_;refine go 11 ⟨O1,?_⟩;exact Zp (Xs 12 80 J J J)<|Yh (i+1,_) O2 O2 K2 K1
 .obtain rfl:i=3:=O1;refine go 7<|Qb (λ_=>False) [(0,0),(1,0),(2,0),(3,0),(4,0),(5,0),(7,0),(8,0),(9,0),(10,0),(11,0),(12,0),(14,0),(15,0),(16,0),(17,0),(18,0),(19,0),(22,0),(6,1),(13,1),(20,1),(21,0)]<|go 19<|Yn (Zl 13 [1,4] (Zmi (n.X 0) (l.hc 0) (l.lc 0).2 (c.hc 0) (c.lc 0).2 (Zp5 l) (Zp5 c))) λfq F=>Yn (Zl 14 [2,5] (Zmi (n.X 1) (l.hc 1) (l.lc 1).2 (c.hc 1) (c.lc 1).2 (Zp5 l) (Zp5 c))) λQ p=>Yn (Zl 15 [3,6] (Zmi (n.X 2) (l.hc 2) (l.lc 2).2 (c.hc 2) (c.lc 2).2 (Zp5 l) (Zp5 c))) λR r=>?_;refine Xc J J (Xl (Xy [(0,_),(1,_),(2,_)] J K6 (λa w hs=>Yoz ((Of 13 J Zr) a w hs) ((Of 14 J Zr) a w hs) ((Of 15 J Zr) a w hs))))<|go 3 ?_;refine lp (G:=Nat×Value) [63] [0,1,2,3,4,5,6,7,8,9,10,13,14,15] (λq=>[(64,.int .i64 (q.1:Int)),(7,q.2)]) (λq=>[(80,Yx 2 wv q.2 (smS zd e b x y z h j k q.1))]) (λq=>q.1<=3) (λq=>3-q.1) (0,_) O2 K2 K1 ?_;rintro⟨i,vs⟩ hi;dsimp only at hi;dsimp only;have m:=n.X i;refine go 6<|Ze J (λB=>?_) (λB=>?_)
  .refine go 5<|Zf (Ziv i 13 14 15 90 J J J J J J)<|Zf (Np 90 (q:=Yx 2 wv _ (dfP (Zs i x y z) (Zs i h j k) e b)) (aD (Yx 2 wv _) (df_sel i F p r)) J J)<|go 1 ?_;refine dt (Zqf i J J J underlying210 sizeOf40 isAgg40 J)<|go 7 ?_;refine cl 16 [90,90] (Zv4 (dfP (Zs i x y z) (Zs i h j k) e b) (dfP (Zs i x y z) (Zs i h j k) e b) m.v5 m.v5 m.m5) λ_ _=>?_;refine Xg (Np 16 (q:=Yx 2 wv _ (fqS e b x y z h j k i)) (aD (Yx 2 wv _) J) J J)<|go 9 ?_;refine cl 17 [80,16] (Ykx (smS zd e b x y z h j k i) (fqS e b x y z h j k i) (n.Q.v i O1) m.v8 (n.Q.s i O1)) λ_ _=>?_;refine go 11 ⟨O1,?_⟩;exact Zp (Xs 17 80 J J J)<|Yh (i+1,_) O2 O2 K2 K1
  .obtain rfl:i=3:=O1;refine go 8 ?_;refine cl 18 [80] (Lf (n.Q.v 3 (aF _))) λ_ _=>?_;refine Xg (Np 18 (q:=Yx 2 wv _ (fmZ zd 1 1 e b x y z h j k)) (aD (Yx 2 wv _) (fsZ zd e b x y z h j k).symm) J J)<|go 13 ?_;refine Zud (Xp 18 J Zr) (λsq I=>?_);subst I;generalize fmZ zd 1 1 e b x y z h j k=V;exact Xh H (sq,V) results94 J J (Ph 18 Za)
theorem Yqq(fr u t c f e:Int)(x y z v w B:List Int)(zd:Int)(F:Nc fr)(P:Nc u)(I:Nc t)(S:∀a∈x,Nc a)(V:∀a∈y,Nc a)(W:∀a∈z,Nc a)(l:Nc c)(n:Nc f)(m:Nc e)(p:∀a∈v,Nc a)(q:∀a∈w,Nc a)(r:∀a∈B,Nc a)(j:Bf fr u t x y z=true)(k:Bf c f e v w B=true)(H:fr=c)(Q:u=f)(s:dsB zd=true):Cal prog 37 #[.agg #[.int .i64 fr,.int .i64 u,.int .i64 t,vx,vy,vz],.agg #[.int .i64 c,.int .i64 f,.int .i64 e,vx2,vy2,vz2],.int .i64 zd] [Yx 1 Yj vx x,Yx 1 Yj vy y,Yx 1 Yj vz z,Yx 1 Yj vx2 v,Yx 1 Yj vy2 w,Yx 1 Yj vz2 B] true (G:=SL×List Int) (λg=>g.2=fmZ zd 1 1 t e x y z v w B) (λg=> .tuple #[Xk g.1,.int .i64 0]) (λg=>[Yx 2 wv (Xk g.1) g.2]):=by refine Zg func37 ntmps37 λw0 sc hw N=>go 2 ?_;refine Yd (Yk 7) λY _=>Yd (Yk 8) λR _=>go 8 ?_;refine cl 8 [1,2,3] (Zda F P I S V W) λ_ _=>?_;refine dt (dF (Yq J J) (aD (λb=>Value.bool (!b)) j))<|go 2 ?_;refine Hu 8 [4,5,6] (Zda l n m p q r) λ_ _=>?_;refine Hk (dF (Yq J J) (aD (λb=>Value.bool (!b)) k)) J J<|go 6 ?_;refine kfg (aI (λh=>h H))<|go 6<|kfg (aI (λh=>h Q))<|go 3 ?_;refine Hu 8 [] Zgt λ_ _=>?_;refine Hk (dF (Yq J J) (aD (λb=>Value.bool (!b)) s)) J J<|go 11 ?_;refine cl 9 [1,2,3,4,5,6] (Ybx (Sgo.of S V W j) (Sgo.of p q r k) (Za7 j) (Za7 k) s) λZ D=>go 5 ?_;exact Nm N _ results37 J D (Ph 9 Za)
theorem Ybw(l:∀g∈pa,Gin g)(m:∀g∈pb,Gin g)(f:Yf pa=true)(h:Yf pb=true)(N:pa.length<=5)(P:pb.length<=5)(Q:dsB zd=true):Cal prog 95 #[va,vb,.int .i64 zd] [Xn 6 Xv qG va pa,Xn 6 Xv qG vb pb] true (G:=Value×List Ad) (λg=>g.2.map unP=Ma zd 1 1 pa pb) (λg=> .tuple #[g.1,.int .i64 (Mx pa pb)]) (λg=>[Xn 3 Hm qGp g.1 g.2]):=by
 refine Zg func95 ntmps95 λw0 sc R s=>go 10 ?_;refine cl 3 [1,2] (Yft l m f h N P) λb c=>go 16<|Ze J (λe=>?_) (λe=>?_)
 .have F:=e;refine go 8<|Zp (Ci 72 3 Hm qGp) ?_;exact Nm s (.slice none 0 0,[]) results95 (by rw [Ymq F]) (Zsu O1).symm (Ph 72 Za)
 .have F:=e;refine go 16<|Zf (Qt 74 3 130 Hm)<|Zf (Yi qGp 76) ?_;have H:=Yeg l m f h;have W:b.1.2.length=(Lx pa pb pa).length:=by rw [<-c.1,bA]
  have Y:b.2.2.length=(Lx pa pb pb).length:=by rw [<-c.2,bA]
  refine lp (G:=Nat×Value×List Ad) [2,9,10,23,24] [0,1,2,3,4] (λq=>[(25,.int .i64 (q.1:Int)),(11,q.2.1)]) (λq=>[(74,Oe 3 130 Hm q.2.1 q.2.2),(76,Nf qGp q.2.2)]) (λq=>(q.1<=b.1.2.length)/\(q.2.2.map unP=(Ma zd 1 1 pa pb).take q.1)/\(q.2.2.length=q.1)) (λq=>b.1.2.length-q.1) (0,.slice none 0 0,[]) ⟨O2,(by rw [eE];rfl),rfl⟩ K2 K2 ?_;rintro⟨k,vq,S⟩ ⟨V,n,t⟩;dsimp only at V n t;dsimp only;refine go 6<|Ze J (λD=>?_) (λD=>?_)
  .refine go 5 ?_;obtain⟨y,p⟩:=Zf6 l f c.1 _ (Zd (d:=G0) (show k<b.1.2.length by omega));refine Zf (Pf (b.1.2.getD k G0) ((b.1.2.getD k G0).2.1) 3 51 J J (Zd O1) O6)<|Zf (Pf (b.1.2.getD k G0) ((b.1.2.getD k G0).2.2.1) 3 52 J J (Zd O1) O6)<|Zf (Pf (b.1.2.getD k G0) ((b.1.2.getD k G0).2.2.2) 3 53 J J (Zd O1) O6)<|go 2 ?_;refine dt (Zv 3 k J J J J Zc Lz Ir J)<|dt (Yw 3 G0 J J J Zc pG)<|Yd (Zw 5) λbx _=>go 4 ?_;obtain⟨B,r⟩:=Zf6 m h c.2 _ (Zd (d:=G0) (show k<b.2.2.length by omega));refine Zf (Pf (b.2.2.getD k G0) ((b.2.2.getD k G0).2.1) 4 54 J J (Zd O1) O6)<|Zf (Pf (b.2.2.getD k G0) ((b.2.2.getD k G0).2.2.1) 4 55 J J (Zd O1) O6)<|Zf (Pf (b.2.2.getD k G0) ((b.2.2.getD k G0).2.2.2) 4 56 J J (Zd O1) O6)<|Pj [4,5] [15]<|Zj 0 [(0,0),(1,0),(2,0),(3,0),(4,0),(5,0),(6,0),(7,0),(8,0),(9,0),(10,0),(11,1),(12,0),(13,1),(14,1),(15,3)]<|go 8 ?_;refine Xc J J (Ga (Zv 4 k J J J J Zc Lz Ir J) K2)<|Xc J J (Ga (Yw 4 G0 J J J Zc pG) K2)<|go 1 ?_;refine Yn (Zl 84 [51,52,53,54,55,56] (Ybx (Oj y p) (Oj B r) (Za7 p) (Za7 r) Q)) λu I=>?_;refine Xc J J (Ga (Xy [(0,_),(1,_),(2,_)] J K6 (λa w hs=>Zol ((Yg J) a w hs) ((Yg J) a w hs) ((Yg J) a w hs))) K2)<|Kp J (Xx [(0,_)] 6 (enc:=Hm) [(gpY (b.1.2.getD k G0) u)] J J K2 Zkg ti130 J J Ym0 J J pGp.cells J J R.h) (λv _=>?_);refine Kp J (Za5 74 J J J K2 (λj=>(Cg 74 6 40 J J J J J J O4 J (Zz pGp) Zkg ti130 J pGp J J J O9 O4 J R.h j))) λZ _=>go 2 ?_;refine Zo<|go 6 ⟨O1,?_⟩;exact Zp (Zq (q:=qGp) (z:=(gpY (b.1.2.getD k G0) u)) 76 84 76 J J J J J)<|Yh (k+1,_,S ++ [(gpY (b.1.2.getD k G0) u)]) ⟨O2,Ydi c.1 c.2 n O1 O1 I,by rw [bG,t];rfl⟩ O2 K2 K2
  .obtain rfl:k=b.1.2.length:=O1;refine go 14<|Zp (Xo 74 J J pGp)<|Zp (Xq 74 76 78 J J J J) ?_;exact Nm s (vq,S) results95 (by rw [Ymp F]) (Ymn c.1 H.1 n) (Ph 78 Za)
theorem Zjz(e:∀g∈pa,Gin g)(h:∀g∈pb,Gin g)(k:¬(Yf pa=true/\Yf pb=true/\dsB zd=true)):Qe prog 40 #[va,vb,.int .i64 zd] [Xn 6 Xv qG va pa,Xn 6 Xv qG vb pb] (.tuple #[.slice none 0 0,.int .i64 2]):=by
 refine Zg func40 ntmps40 λw0 m l f=>go 8 ?_;rcases Zv0 k with a|⟨a,c⟩|⟨a,c,j⟩
 .refine go 2 ?_;refine cl 2 [1] (Nu e) λ_ _=>?_;refine dt (dT (Yq J J) (aD (λb=>Value.bool (!b)) a))<|go 21 ?_;exact Nm f () results40 J aA Za
 .refine go 2 ?_;refine cl 2 [1] (Nu e) λ_ _=>?_;refine dt (dF (Yq J J) (aD (λb=>Value.bool (!b)) a))<|go 2 ?_;refine Hu 2 [2] (Nu h) λ_ _=>?_;refine Hk (dT (Yq J J) (aD (λb=>Value.bool (!b)) c)) J J<|go 17 ?_;exact Nm f () results40 J aA Za
 .refine go 2 ?_;refine cl 2 [1] (Nu e) λ_ _=>?_;refine dt (dF (Yq J J) (aD (λb=>Value.bool (!b)) a))<|go 2 ?_;refine Hu 2 [2] (Nu h) λ_ _=>?_;refine Hk (dF (Yq J J) (aD (λb=>Value.bool (!b)) c)) J J<|go 3 ?_;refine Hu 2 [] Zgt λ_ _=>?_;refine Hk (dT (Yq J J) (aD (λb=>Value.bool (!b)) j)) J J<|go 12 ?_;exact Nm f () results40 J aA Za
theorem Zgu(pa pb:List Zk)(zd:Int)(e:∀g∈pa,Gin g)(f:∀g∈pb,Gin g)(a:Yf pa=true)(c:Yf pb=true)(k:pa.length<=5)(l:pb.length<=5)(h:dsB zd=true):Cal prog 40 #[va,vb,.int .i64 zd] [Xn 6 Xv qG va pa,Xn 6 Xv qG vb pb] true (G:=Value×List Ad) (λg=>g.2.map unP=Ma zd 1 1 pa pb) (λg=> .tuple #[g.1,.int .i64 (Mx pa pb)]) (λg=>[Xn 3 Hm qGp g.1 g.2]):=by refine Zg func40 ntmps40 λw0 q p m=>go 10 ?_;refine cl 2 [1] (Nu e) λ_ _=>?_;refine dt (dF (Yq J J) (aD (λb=>Value.bool (!b)) a))<|go 2 ?_;refine Hu 2 [2] (Nu f) λ_ _=>?_;refine Hk (dF (Yq J J) (aD (λb=>Value.bool (!b)) c)) J J<|go 3 ?_;refine Hu 2 [] Zgt λ_ _=>?_;refine Hk (dF (Yq J J) (aD (λb=>Value.bool (!b)) h)) J J<|go 11 ?_;refine cl 3 [1,2] (Ybw e f a c k l h) λn j=>go 7 ?_;exact Nm m _ results40 J j (Ph 3 Za)
open Go.RowKit Below
variable {P:Program} {N:Nat} {sc:Nat->Prop} {env env':Pw} {H H':Hp} {Q Q':Exit->Act->World->Prop}
def Ym2(p:Prop):Pc:={ own:=false,fp:=λ_=>False,holds:=λ_=>p,lt:=λ_ _ _ h=>h.elim,stable:=λ_ _ h _=>h }
theorem wtd{j e:Nat}{b:Bool}(h:o.guard=some (j,b))(k:(ops[j]?).bind (·.dst)=some e)(g:lk env e=some (.bool b))(c:Nat.blt e N=true):∀a w,Sat N sc env H a w->Region.wanted o (yielded ops a.tmps)=true:=λa w hs=>by have f:=hs.yielded k g c;simp [Region.wanted,h,f]
theorem Lm{v:Value}(f:Lk P N sc o env H v)(e:∀a w,Sat N sc env H a w->Region.wanted o (yielded ops a.tmps)=true)(c:o.dst=some d)(b:Nat.blt d N=true)(h:LI P N sc ops rest Q ((d,v)::env) H):LI P N sc ops (o::rest) Q env H:=λa w hs=>by unfold wpListIn;rw [aM (e a w hs)];refine⟨λ_ _=>trivial,?_⟩;show o.uponIn Fence.wide 0 P a _ Q ((execOp a.eval o).run P w);rw [f a w hs];show wpListIn Fence.wide 0 P ops Q rest (a.put o.dst v) w;rw [c];exact h _ w (hs.put d v b)
theorem Zeu (vs:List Value)(pre:List Pc)    {l:Nat}     {W:World}  {J:Nat->World->Prop}  {α G:Type} {xs:List α} {ys:α->G->List Value} {D:α->G->List Pc} 
  {k:Nat} (y:α) (g:G) (hY:YJI P w0 l M J Jx xs ys D) (hy:xs[k]? = some y) (hJ:J k W) (hW:w0.heap.size<=W.heap.size) (m:∀p∈pre,∀b,p.fp b->b<w0.heap.size/\¬M b)
  (ho:o.op= .call { callee:= .value x,args:=ops'.toArray,argTypes:=tys }) (hg:∀a w,Sat N sc env H a w->Region.wanted o (yielded ops a.tmps)=true) (hd:o.dst=some d) (Z:Nat.blt d N=true) (hx:ev env x=some (.func (.yield l) #[] #[])) (r:EvL env ops' vs) (S:vs=ys y g)
  (h0:lk H 0=some (Yy W (λ_=>False))) (u:∀p∈D y g,p.own=false/\(∀b,p.fp b->W.heap.size<=b)/\∃i I,lk H i=some I/\∀w,I.holds w->p.holds w)
  (v:AllRo pre) (n:HSub (Xd 1 pre) H)
  (ht:∀c,J (k+1) c->w0.heap.size<=c.heap.size->LI P N sc ops rest Q ((d,.bool true)::env) ((0,Yy c (λ_=>False))::Xd 1 pre))
  (hf:∀c,Jx c->w0.heap.size<=c.heap.size->LI P N sc ops rest Q ((d,.bool false)::env) ((0,Yy c (λ_=>False))::Xd 1 pre)):LI P N sc ops (o::rest) Q env H:=λa w hs=>by
 subst S;have Y:=Hx (hs.hold 0 _ h0);obtain⟨fn,F,f,s,z,j⟩:=hY k y g hy W w hJ hW Y (λp hp=>by obtain⟨h1,h2,i,I,hi,hh⟩:=u p hp;exact⟨hh w (hs.hold i I hi),h1,h2⟩)
 have R:(o.semAt Fence.wide.round a.eval).run P w= .ok (.round l fn F f s) w:=by show(execOp a.eval o).run P w=_;have hm:=r.map hs;have V:=hs.ev hx;simp [execOp,ho,resolve,invoke,Deferred.ofValue,hm,V,z,Sem.run_bind]
 unfold wpListIn;rw [aM (hg a w hs)];refine⟨λ_ _=>trivial,?_⟩;rw [R];refine⟨λh=>(by cases h),j.mono ?_⟩;have B:w0.heap.size<=w.heap.size:=aB hW Y.size;rintro e c (⟨rfl,q,t⟩|⟨rfl,q,t⟩)
 .show wpListIn Fence.wide 0 P ops Q rest (a.put o.dst _) c;rw [hd];exact ht c q (aB B t.size) _ c ((hs.base m v n t).put d _ Z)
 .show wpListIn Fence.wide 0 P ops Q rest (a.put o.dst _) c;rw [hd];exact hf c q (aB B t.size) _ c ((hs.base m v n t).put d _ Z)
theorem Zlj{α:Type}{ps:List α}{p:α->Bool}{d:α}(hi:i<ps.length)(b:p (ps.getD i d)=true):(ps.filter p)[((ps.take i).filter p).length]? = some (ps.getD i d):=by
 have h:=gC i ps;have a:ps.drop i=ps.getD i d::ps.drop (i+1):=by rw [aL,aO hi,fD];exact eO hi
 conv=>lhs;arg 1;rw [<-h,a]
 rw [fZ,dV b];simp
theorem Ydp{α:Type}{ps:List α}{p:α->Bool}{d:α}(hi:i<ps.length)(a:p (ps.getD i d)=true):((ps.take (i+1)).filter p).length=((ps.take i).filter p).length+1:=by rw [Ps d _ _ hi,fZ,dV a,bG];rfl
theorem Ydq{α:Type}{ps:List α}{p:α->Bool}{d:α}(hi:i<ps.length)(a:p (ps.getD i d)=false):((ps.take (i+1)).filter p).length=((ps.take i).filter p).length:=by rw [Ps d _ _ hi,fZ,fL (by rw [a];exact eU),bG];rfl
theorem Zhu{φ:Prop}{n:Nat}{H:Hp}{k:Pc}(h:φ)(c:lk H 0=some k):∀p∈[Ym2 φ],p.own=false/\(∀b,p.fp b->n<=b)/\∃i a,lk H i=some a/\∀w,a.holds w->p.holds w:=λp f=>by rw [bN.1 f];exact⟨rfl,λb e=>e.elim,0,k,c,λ_ _=>h⟩
theorem Ydr{fn:Func}{al:Bool}{G:Type}{φ:G->Prop}{Yt:G->Value}{b:G->List Pc}(h:X N sc .ret (Zc6 P fn w0 pre al φ Yt b) env H):X N sc .ret (Zf9 P fn w0 pre al φ Yt b) env H:=λa w hs=>by obtain⟨e,v,f,c⟩:=h a w hs;show LeavesInM Fence.wide 0 P fn a.tmps _ a.defers .returning w;rw [e];exact⟨v,f,c⟩
end Go.Sky
namespace Go.Sky
open Go.Proofs.Tryz
open Go.Proofs
set_option synthInstance.maxHeartbeats 0
set_option synthInstance.maxSize 100000
set_option maxRecDepth 20000
set_option linter.unusedSimpArgs false
variable{D:Int}{a b:List Zk}{zs:List Ad}{va vb:Value}{Mf0 Mf:Nat->Prop}{body y:Code}{lbv:List Value}{pre:List Pc}{id r:Nat}{ops:List Oper}{c:Operand}{p:Prop}{Hall:Hp}{Wb:World}
theorem Za6(x y:Int)(g:Nc x)(h:Nc y)(e:y≠0):Qe prog 98 #[.int .i64 x,.int .i64 y] [] (.agg #[.bool (decide (Et x y<0)),.string (Qp (Et x y).natAbs),.bool (decide (Gn x y<0)),.string (Qp (Gn x y).natAbs)]):=by refine Zg func98 ntmps98 λl k j d=>go 2 ?_;refine Yd (Zw 1) λi _=>go 6 ?_;refine cl 1 [] (Zgb x y g h e) λ_ _=>go 3<|Yd (Zw 2) λf _=>go 11 ?_;exact Xh d () results98 J aA Za
theorem Zk3(v:Value)(zs:List Ad)(V:Nat)(I:∀z∈zs,Cvd z.2.2):Yhn prog 162 [.pointer (some ⟨V,0,none⟩)] [Ku V 50 #[v],Xn 3 Hm qGp v zs] (α:=Ad) (G:=R2) (zs.filter (λz:Ad=>It z.2.2)) (λc g=>[.agg #[.int .i64 c.1.1,.int .i64 c.1.2,Xk c.2.1],.agg #[.bool (decide (g.1<0)),.string (Qp (g.1).natAbs),.bool (decide (g.2<0)),.string (Qp (g.2).natAbs)]]) (λc g=>[Ym2 (Fnd c.2.2 (qv (0,1)) (qv (1,1)) g)]):=by
 refine Zty func162 J ntmps162 J K2 ?_;intro l M JI Jx w0 sc hw k o h H B;simp only [Qz,Xd];have N:=Hw.mk hw;refine Pi (Mi (i:=2) J Zc) λa6=>go 8 ?_;refine lp (G:=Nat×World) [0,8,9] [1,2] (λq=>[(10,.int .i64 (q.1:Int))]) (λq=>[(0,Yy q.2 (λ_=>False))]) (λq=>(q.1<=zs.length)/\(JI ((zs.take q.1).filter (λz:Ad=>It z.2.2)).length q.2)/\(w0.heap.size<=q.2.heap.size)) (λq=>zs.length-q.1) (0,w0) ⟨O2,H,aF _⟩ K1 K1 ?_;rintro⟨i,W⟩ ⟨hi,n,s⟩;dsimp only at hi n s;dsimp only;have b5:=Ydh N s;refine go 6<|Ze J (λF=>?_) (λF=>?_)
 .refine go 5<|Zf (Nd 2 55 (zs.getD i Gp0) J J (Zd O1) J) ?_;have j:=I (zs.getD i Gp0) (Zd O1);refine go 1 ?_;refine dt (Zv 2 i J J J J Zc Zkg sizeOf130 J)<|dt (Yw 2 Gp0 J J J Zc pGp)<|Yd (Zw 3) λbx _=>go 4 ?_;rcases tf (It (zs.getD i Gp0).2.2)with d|d
  .refine Pj [3] [12]<|Zj 11 [(0,0),(1,0)]<|go 3 ?_;refine Qq 10 2 9 ?_ ?_
   .refine Px (Zl 3 [] (Za6 0 1 ⟨O4,O4⟩ ⟨O4,O4⟩ O4)) λ_ _=>?_;refine Qq 9 3 9 ?_ ?_
    .refine Px (Zl 3 [] (Za6 1 1 ⟨O4,O4⟩ ⟨O4,O4⟩ O4)) λ_ _=>?_;refine Qq 8 4 9 ?_ ?_
     .refine Px (Zl 3 [55] (Eo (0,1) (1,1) j Zka Zj9 Zh6 d)) λ_ _=>?_;refine Zj 0 [(5,0),(6,0),(7,0),(8,0),(9,1),(10,1),(11,0),(12,3)]<|go 4 ?_;refine Yn (Qf 4) λY ho=>go 4<|Zo<|go 21 ⟨O1,?_⟩;exact Yh (i+1,W) ⟨O2,by rw [Ydq O1 d];exact n,s⟩ O2 K1 K1
     .refine Px (Qf 5) λZ a7=>?_;refine Zj 0 [(4,1),(5,0),(6,0),(7,0),(8,0),(10,1),(11,0),(12,3)]<|Yn (Zl 5 [55] (Eo (0,1) (1,1) j Zka Zj9 Zh6 d)) λ_ _=>go 8 ?_;refine Zo<|go 21 ⟨O1,?_⟩;exact Yh (i+1,W) ⟨O2,by rw [Ydq O1 d];exact n,s⟩ O2 K1 K1
    .refine Px (Qf 6) λa0 a8=>?_;refine Zj 0 [(3,1),(4,1),(5,0),(6,0),(7,0),(8,0),(10,1),(11,0),(12,3)]<|Yn (Zl 6 [] (Za6 1 1 ⟨O4,O4⟩ ⟨O4,O4⟩ O4)) λ_ _=>Yn (Zl 6 [55] (Eo (0,1) (1,1) j Zka Zj9 Zh6 d)) λ_ _=>go 8 ?_;refine Zo<|go 21 ⟨O1,?_⟩;exact Yh (i+1,W) ⟨O2,by rw [Ydq O1 d];exact n,s⟩ O2 K1 K1
   .refine Px (Qf 7) λa1 a9=>?_;refine Zj 0 [(2,1),(3,1),(4,1),(5,0),(6,0),(7,0),(8,0),(10,1),(11,0),(12,3)]<|Yn (Zl 7 [] (Za6 0 1 ⟨O4,O4⟩ ⟨O4,O4⟩ O4)) λ_ _=>Yn (Zl 7 [] (Za6 1 1 ⟨O4,O4⟩ ⟨O4,O4⟩ O4)) λ_ _=>Yn (Zl 7 [55] (Eo (0,1) (1,1) j Zka Zj9 Zh6 d)) λ_ _=>go 8 ?_;refine Zo<|go 21 ⟨O1,?_⟩;exact Yh (i+1,W) ⟨O2,by rw [Ydq O1 d];exact n,s⟩ O2 K1 K1
  .refine Pj [3] [12]<|Zj 11 [(0,0),(1,0)]<|go 3 ?_;refine Qq 10 2 9 ?_ ?_
   .refine Px (Zl 7 [] (Za6 0 1 ⟨O4,O4⟩ ⟨O4,O4⟩ O4)) λ_ _=>?_;refine Qq 9 3 9 ?_ ?_
    .refine Px (Zl 7 [] (Za6 1 1 ⟨O4,O4⟩ ⟨O4,O4⟩ O4)) λ_ _=>?_;refine Qq 8 4 9 ?_ ?_
     .refine Px (Zl 7 [55] (Fj (0,1) (1,1) j Zka Zj9 Zh6 d)) λP t=>?_;refine Zj 0 [(5,0),(6,0),(7,0),(8,0),(9,1),(10,1),(11,0),(12,3)]<|go 4 ?_;refine Yn (Qf 8) λa2 b0=>go 4<|Zo<|go 2<|Yg8 ?_;refine Lg (Zbd J J) J<|Lg (Zbd J J) J<|Lm (Zbd J J) (wtd J J J J) J J<|Lm (DI.h aA) (wtd J J J J) J J<|Lm (DI.h aA) (wtd J J J J) J J<|Zeu [_,_] [_,_] (zs.getD i Gp0) P B (Zlj O1 d) n s k J (wtd J J J J) J J J K2 J J (Zhu t J) K2 K2 (λm e f=>?_) (λm e f=>?_)
      .simp only [Xd];refine Lm (dF (Yq J J) J) (wtd J J J J) J J<|Lg (Aa J J J) J<|Bi<|go 9 ⟨O1,?_⟩;exact Yh (i+1,m) ⟨O2,by rw [Ydp O1 d];exact e,f⟩ O2 K1 K1
      .simp only [Xd];refine Lm (dT (Yq J J) J) (wtd J J J J) J J<|Lg (Aa J J J) J<|Bi<|go 7 ?_;exact Zb7 (.inl J) J J o h (.inr e)
     .refine Px (Qf 9) λa3 b2=>?_;refine Zj 0 [(4,1),(5,0),(6,0),(7,0),(8,0),(10,1),(11,0),(12,3)]<|Yn (Zl 9 [55] (Fj (0,1) (1,1) j Zka Zj9 Zh6 d)) λQ u=>go 8 ?_;refine Zo<|go 2<|Yg8 ?_;refine Lg (Zbd J J) J<|Lg (Zbd J J) J<|Lm (Zbd J J) (wtd J J J J) J J<|Lm (DI.h aA) (wtd J J J J) J J<|Lm (DI.h aA) (wtd J J J J) J J<|Zeu [_,_] [_,_] (zs.getD i Gp0) Q B (Zlj O1 d) n s k J (wtd J J J J) J J J K2 J J (Zhu u J) K2 K2 (λm e f=>?_) (λm e f=>?_)
      .simp only [Xd];refine Lm (dF (Yq J J) J) (wtd J J J J) J J<|Lg (Aa J J J) J<|Bi<|go 9 ⟨O1,?_⟩;exact Yh (i+1,m) ⟨O2,by rw [Ydp O1 d];exact e,f⟩ O2 K1 K1
      .simp only [Xd];refine Lm (dT (Yq J J) J) (wtd J J J J) J J<|Lg (Aa J J J) J<|Bi<|go 7 ?_;exact Zb7 (.inl J) J J o h (.inr e)
    .refine Px (Qf 10) λa4 b3=>?_;refine Zj 0 [(3,1),(4,1),(5,0),(6,0),(7,0),(8,0),(10,1),(11,0),(12,3)]<|Yn (Zl 10 [] (Za6 1 1 ⟨O4,O4⟩ ⟨O4,O4⟩ O4)) λ_ _=>Yn (Zl 10 [55] (Fj (0,1) (1,1) j Zka Zj9 Zh6 d)) λR w=>go 8 ?_;refine Zo<|go 2<|Yg8 ?_;refine Lg (Zbd J J) J<|Lg (Zbd J J) J<|Lm (Zbd J J) (wtd J J J J) J J<|Lm (DI.h aA) (wtd J J J J) J J<|Lm (DI.h aA) (wtd J J J J) J J<|Zeu [_,_] [_,_] (zs.getD i Gp0) R B (Zlj O1 d) n s k J (wtd J J J J) J J J K2 J J (Zhu w J) K2 K2 (λm e f=>?_) (λm e f=>?_)
     .simp only [Xd];refine Lm (dF (Yq J J) J) (wtd J J J J) J J<|Lg (Aa J J J) J<|Bi<|go 9 ⟨O1,?_⟩;exact Yh (i+1,m) ⟨O2,by rw [Ydp O1 d];exact e,f⟩ O2 K1 K1
     .simp only [Xd];refine Lm (dT (Yq J J) J) (wtd J J J J) J J<|Lg (Aa J J J) J<|Bi<|go 7 ?_;exact Zb7 (.inl J) J J o h (.inr e)
   .refine Px (Qf 11) λa5 b4=>?_;refine Zj 0 [(2,1),(3,1),(4,1),(5,0),(6,0),(7,0),(8,0),(10,1),(11,0),(12,3)]<|Yn (Zl 11 [] (Za6 0 1 ⟨O4,O4⟩ ⟨O4,O4⟩ O4)) λ_ _=>Yn (Zl 11 [] (Za6 1 1 ⟨O4,O4⟩ ⟨O4,O4⟩ O4)) λ_ _=>Yn (Zl 11 [55] (Fj (0,1) (1,1) j Zka Zj9 Zh6 d)) λS x=>go 8 ?_;refine Zo<|go 2<|Yg8 ?_;refine Lg (Zbd J J) J<|Lg (Zbd J J) J<|Lm (Zbd J J) (wtd J J J J) J J<|Lm (DI.h aA) (wtd J J J J) J J<|Lm (DI.h aA) (wtd J J J J) J J<|Zeu [_,_] [_,_] (zs.getD i Gp0) S B (Zlj O1 d) n s k J (wtd J J J J) J J J K2 J J (Zhu x J) K2 K2 (λm e f=>?_) (λm e f=>?_)
    .simp only [Xd];refine Lm (dF (Yq J J) J) (wtd J J J J) J J<|Lg (Aa J J J) J<|Bi<|go 9 ⟨O1,?_⟩;exact Yh (i+1,m) ⟨O2,by rw [Ydp O1 d];exact e,f⟩ O2 K1 K1
    .simp only [Xd];refine Lm (dT (Yq J J) J) (wtd J J J J) J J<|Lg (Aa J J J) J<|Bi<|go 7 ?_;exact Zb7 (.inl J) J J o h (.inr e)
 .obtain rfl:i=zs.length:=O1;rw [bL]at n;exact go 4<|Zb7 (.inr J) J J o h (.inl n)
theorem Zln(f:∀g∈a,Gin g)(i:∀g∈b,Gin g)(d:Yf a=true)(e:Yf b=true)(m:dsB D=true)(h:zs.map unP=Ma D 1 1 a b):∀z∈zs,Cvd z.2.2:=λz l=>by obtain⟨k,j,rfl⟩:=jU l;have:=Yny f i d e m h j;rwa [aL,aO j]at this
def nbF(z:Ad):Bool:=It z.2.2
theorem Zt8{n d:Int}(h:zs.map unP=Ma D n d a b)(e:¬Mx a b≠0)(f:(zs.filter λz=>It z.2.2).length=0):Fw D n d a b=true:=by
 refine ap_no ?_ (eX.1 e);rw [fst_no h λi hi=>?_];cases hn:It (zs.getD i Gp0).2.2 with
 | false=>rfl
 | true=>
  have:zs.getD i Gp0∈zs.filter λz=>It z.2.2:=fA.2 ⟨Zd hi,hn⟩;rw [aC f]at this;cases this
theorem Zie{n d:Int}{k:Nat}{x:Ad}(h:zs.map unP=Ma D n d a b)(i:(zs.filter λz=>It z.2.2)[k]? = some x):Fw D n d a b=false:=by
 have f:=(fA.1 (eV i));refine ap_is ?_;cases hf:(Cc (Ma D n d a b)).2.2 with
 | true=>rfl
 | false=>
  exfalso;have e:Zko (Ma D n d a b)=none:=by
   cases he:Zko (Ma D n d a b)with
   | none=>rfl
   | some g=>unfold Cc at hf;rw [he]at hf;cases hf
  have:=jC.1 e (unP x) (by rw [<-h];exact dI.2 ⟨x,f.1,rfl⟩);exact this f.2
theorem Zq1{v:Value}:Cal prog 96 #[v] [Xn 3 Hm qGp v zs] true (G:=Nat) (λg=>True) (λg=> .func (.func 162) #[] #[.pointer (some ⟨g,0,none⟩)]) (λg=>[Ku g 50 #[v]]):=by refine Zg func96 ntmps96 λk i h d=>?_;refine Zby (Xp 1 J Zc) (λj e=>?_);subst e;refine go 2<|Yd (Yk 2) λf _=>go 5 ?_;refine dt (Zxq [] [_] J aA K1)<|go 4 ?_;exact Zp (Zfr 2 J J)<|Xh d _ results96 J aA (Ph 2 Za)
theorem Zq3{h i:List Zk}{l:Int}(d:∀g∈h,Gin g)(e:∀g∈i,Gin g)(m:¬(Yf h=true/\Yf i=true/\dsB l=true)):Qe prog 42 #[va,vb,.int .i64 l] [Xn 6 Xv qG va h,Xn 6 Xv qG vb i] (.tuple #[.bool false,.int .i64 2]):=by refine Zcx func42 J ntmps42 J K2 ?_;intro q o k f;have k:=Hw.mk k;simp only [Qz,Xd];refine Zf (Qt 98 3 130 Hm)<|Zf (Xo 98 J J pGp)<|go 2<|Yd (Zw 3) λn _=>Yd (Zw 4) λj _=>go 7 ?_;refine cl 4 [1,2] (Zjz d e m) λ_ _=>go 11<|kt (aG O4)<|go 12 ?_;exact Ydr<|Nm f () results42 J aA Za
theorem Zbo(s t:List Zk)(I:Int)(F:∀g∈s,Gin g)(G:∀g∈t,Gin g)(z:Yf s=true)(B:Yf t=true)(N:s.length<=5)(P:t.length<=5)(H:dsB I=true):Qe prog 42 #[va,vb,.int .i64 I] [Xn 6 Xv qG va s,Xn 6 Xv qG vb t] (.tuple #[.bool (Fw I 1 1 s t),.int .i64 (Mx s t)]):=by
 refine Zcx func42 J ntmps42 J K2 ?_;intro u sc Q o;have Q:=Hw.mk Q;simp only [Qz,Xd];refine go 2<|Yd (Zw 3) λf _=>Yd (Zw 4) λd _=>go 7 ?_;refine cl 5 [1,2] (Zgu _ _ _ F G z B N P H) λj n=>go 14<|Ze J (λm=>?_) (λm=>?_)
 .have v:=m;refine go 9 ?_;exact Ydr<|Nm o () results42 (by rw [ap_e v]) aA Za
 .have v:=m;refine go 6 ?_;refine cl 6 [5] Zq1 λb _=>go 3 ?_;refine Zxd ([Ku b 50 #[j.1],Xn 3 Hm qGp j.1 j.2]) u (λ(_:Nat) (_:Unit)=>[(0,Yy u (λ_=>False)),(3,box f 4 #[.bool false]),(4,box d 26 #[.int .i64 0])]) (λk _=>k=0) (λ(_:Unit)=>[(0,Yy u (λ_=>False)),(3,box f 4 #[.bool false]),(4,box d 26 #[.int .i64 0])]) (λ_=>Fw I 1 1 s t=false) () J (by intro e w;first|exact enters_of func162 O8 rfl e w|exact call162 e w) (Zk3 j.1 j.2 b (Zln F G z B H n)) ?_ (λ_ _=>J) J Q.h J J K3 (λ_ _=>⟨J,J⟩) (λ_=>⟨J,J⟩) (λk x Y j W i l Mf V=>?_) J (λj i D Z=>?_) (λ_ R=>?_)
  .intro p S;simp only [aX,cM,fO]at S;rcases S with rfl|rfl
   .exact⟨J,6,J⟩
   .exact⟨J,5,J⟩
  .refine Zf0 (env':=[(6,.pointer (some ⟨f,0,none⟩)),(7,.pointer (some ⟨d,0,none⟩))]) (H':=[(92,Yy V Mf),(0,Yy u (λ_=>False)),(3,box f 4 #[.bool false]),(4,box d 26 #[.int .i64 0])]) (λa w hs=>hs.weaken ⟨J,J,aA⟩ ⟨J,J,J,J,aA⟩)<|Zs7 λa w hs=>⟨J,[(6,.pointer (some ⟨f,0,none⟩)),(7,.pointer (some ⟨d,0,none⟩))],[(0,Yy u (λ_=>False)),(3,box f 4 #[.bool false]),(4,box d 26 #[.int .i64 0])],J,(λq h=>by cases h;rfl),⟨.inr (λb M=>⟨0,_,J,M⟩),.inl J,.inl J,aA⟩,hs.weaken ⟨J,J,aA⟩ ⟨J,J,J,J,aA⟩,λWb _=>?_⟩;refine Zbw<|Zs9 J<|go 2 ?_;refine go 1 ?_;exact Ypk<|Yac λa w hs=>Or.inr ⟨J,(),Zie n W,⟨.inr (λb M=>⟨0,_,J,M⟩),.inl J,.inl J,aA⟩,[],hs.weaken aA ⟨J,J,J,J,aA⟩⟩
  .refine go 2 ?_;refine go 1 ?_;refine Zyk λa w hs=>⟨J,[(6,.pointer (some ⟨f,0,none⟩)),(7,.pointer (some ⟨d,0,none⟩))],[(0,Yy u (λ_=>False)),(3,box f 4 #[.bool true]),(4,box d 26 #[.int .i64 0])],J,⟨⟨_,J,J,λ_ h=>h⟩,⟨_,J,J,λ_ h=>h⟩,⟨_,J,J,λ_ h=>h⟩,aA⟩,hs.weaken ⟨J,J,aA⟩ ⟨J,J,J,J,aA⟩,?_⟩;exact Nm o () results42 (by rw [Zt8 n v i,eX.1 v]) aA Za
  .exact Nm o () results42 (by rw [R,eX.1 v]) aA Za
open Go.RowKit Below
variable {P:Program} {N:Nat} {sc:Nat->Prop} {env env':Pw} {H H':Hp} {Q Q':Exit->Act->World->Prop}
theorem er_rfi {l0:Nat}  {b9:World} {g:Operand} {gf:Nat} {ps:List Nat} {assign:Code}   {α G:Type} {xs:List α} {ys:α->G->List Value} {u:α->G->List Pc} {w0:World}
  {GG GX:Type} (Y:Nat->GG->Hp) (b0:Nat->GG->Prop) (HX:GX->Hp) (b1:GX->Prop) (c0:GG) (f1:LpAt l0 Mf0 b9) (c1:lk H 92=some (Yy b9 Mf0))
  (hg:ev env g=some (.func (.func gf) #[] lbv.toArray)) (eg:∀args w,(callFunc gf args).run P w= .ok (.enter gf args) w) (hc:Yhn P gf lbv pre xs ys u)
  (hp:∀p∈pre,p.own=false/\∃i,lk H i=some p) (h7:∀x z,(ys x z).length=ps.length) (g0:(ps.all λp=>Nat.blt p N)=true)
  (hw:∀b,w0.heap.size<=b->sc b) (h0:lk H 0=some (Yy w0 (λ_=>False)))
  (c8:b0 0 c0) (a4:HSub (Y 0 c0) H) (hk:∀k m,lk (Y k m) 0=some (Yy w0 (λ_=>False))/\lk (Y k m) 93=none) (f8:∀Z,lk (HX Z) 0=some (Yy w0 (λ_=>False))/\lk (HX Z) 93=none)
  (b4:∀k x z m,xs[k]? = some x->b0 k m->∀l Mf I a W,Sat N sc (renv ps (ys x z) env) ((93,Yy I Mf)::adds 100 (u x z) (Y k m)) a W->
   assign.wpIn (Fence.wide.inRound l) 0 P (RAn 93 P N sc l Mf (adds 100 (u x z) (Y k m)) body (Y (k+1)) (b0 (k+1)) HX b1 I) a W)
  (hD:∀m,b0 xs.length m->X N sc .normal Q env (Y xs.length m))
  (hX:∀Z,b1 Z->X N sc .ret Q env (HX Z)) :
  ER P N sc l0 (.rangeFunc g ps.toArray assign body) Q env H:=λa w hs=>by
 have b2:∀i p,lk H i=some p->∀b,p.fp b->b<w.heap.size:=λi p hi b n=>p.lt w b (hs.hold i p hi) n;have g5:w0.heap.size<=w.heap.size:=(hs.hold 0 _ h0).size;have e2:Chg Mf0 b9 w:=hs.hold 92 _ c1;obtain⟨⟨r0,e6⟩,e5⟩:=f1;have g7:w.heap[l0]? = some (.loop r0):=(e2.block _ (aS.1 e6).1 e5).trans e6;refine wpIn_rangeFunc ?_;intro d4 f5;obtain⟨d,B⟩:∃d:LoopState->Option Code->Loop,d=λst pe=>{ state:=st,pending:=pe,fn:=d4,tmps:=a.tmps,params:=ps.toArray,assign,body,defers:=r0.defers }:=⟨_,rfl⟩;obtain⟨W1,d8⟩:∃W1,w.alloc (.loop (d .ready none))=W1:=⟨_,rfl⟩;have f2:W1.heap[w.heap.size]? = some (.loop (d .ready none)):=by grind [World.alloc_heap_new]
 have e1:Below w.heap.size w W1:=by rw [<-d8];exact(Below.refl _ w).alloc (aF _) _
 have h8:W1.heap.size=w.heap.size+1:=by rw [<-d8];simp
 have e0:(#[.func (.yield w.heap.size) #[] #[]] ++ lbv.toArray:Array Value)=(Value.func (.yield w.heap.size) #[] #[]::lbv).toArray:=O6;refine⟨w.heap.size,[],W1,{ target:= .fn (.func gf) lbv.toArray,args:=#[.func (.yield w.heap.size) #[] #[]] },W1,gf,
  (Value.func (.yield w.heap.size) #[] #[]::lbv).toArray,W1,?_,?_,λ_ _=>trivial,?_,λh=>(by cases h),?_⟩
 .simp_all [run_enterLoop_inner]
 .simp only [resolve,hs.ev hg];simp [go_sem]
 .simp [invoke,go_sem,eg]
 have a9:∀(F:Hp) (r:Loop),Zke λW=>W.heap[w.heap.size]? = some (.loop r)/\W1.heap.size<=W.heap.size/\Kps sc w (w.heap.size+1) (Mof (w.heap.size+1) H) F W:=λF r W W' ⟨h1,h3,h4⟩ hB=>
  ⟨(hB.block _ (aS.1 h1).1).trans h1,aB h3 hB.size,h4.stays hB⟩
 have f9:¬Mof (w.heap.size+1) H w.heap.size:=λh=>by
  rcases h with⟨i,q,hq,_,hf⟩|h
  all_goals grind
 have b3:∀(F:Hp) (W:World),Kps sc w (w.heap.size+1) (Mof (w.heap.size+1) H) F W->∀(o:Obj),Kps sc w (w.heap.size+1) (Mof (w.heap.size+1) H) F (W.putObj w.heap.size o):=λF W h o=>h.put b2 ⟨aF _,O6⟩;refine callsIn_wide.2 ((hc w.heap.size (λb=>(∃i q,lk H i=some q/\q.own=true/\q.fp b)\/b=w.heap.size)
  (λk W=>∃m,b0 k m/\(W.heap[w.heap.size]? = some (.loop (d .ready none))/\W1.heap.size<=W.heap.size/\Kps sc w (w.heap.size+1) (Mof (w.heap.size+1) H) (Y k m) W))
  (λW=>∃Z,b1 Z/\(W.heap[w.heap.size]? = some (.loop (d .done (some .ret)))/\W1.heap.size<=W.heap.size/\Kps sc w (w.heap.size+1) (Mof (w.heap.size+1) H) (HX Z) W)) W1
  ?_ ?_ ?_ ?_ ?_ ?_).mono ?_)
 .intro p s;obtain⟨ho,i,hi⟩:=hp p s;exact p.stable _ _ (hs.hold i p hi) (Chg.of_below e1)
 .rintro p s b n (⟨i,q,hq,g2,g1⟩|rfl)
  .obtain⟨ho,j,hj⟩:=hp p s;exact hs.sep i j q p (λe=>O5) hq hj g2 b g1 n
  grind
 .rintro k W W' ⟨m,c6,h⟩ hB;exact⟨m,c6,a9 _ _ W W' h hB⟩
 .rintro W W' ⟨Z,c6,h⟩ hB;exact⟨Z,c6,a9 _ _ W W' h hB⟩
 .refine⟨c0,c8,f2,aF _,λi it hi=>it.stable _ _ (hs.hold i it (a4.lk i it hi)) (Chg.of_below e1),λi j it jt d1 hi hj=>hs.sep i j it jt d1 (a4.lk i it hi) (a4.lk j jt hj),
   λi it c8 hi=>hs.scope i it c8 (a4.lk i it hi),λi it hi _ b n=> .inl (b2 i it (a4.lk i it hi) b n),λi it hi ho b n=> .inl ⟨i,it,a4.lk i it hi,ho,n⟩⟩
 .rintro k x z hx W I ⟨m,R,hl,e8,S⟩ h9 hB a7;have e4:I.heap[w.heap.size]? = some (.loop (d .ready none)):=(hB.block _ O1).trans hl;have hy:=run_yield (P:=P) (args:=(ys x z).toArray) e4 O5;have f6:∀p∈u x z,∀b,p.fp b->w.heap.size+1<=b:=λp hp b n=>O5;have s1:Sat N sc env (Y k m) { tmps:=a.tmps,defers:=[] } I:=(S.stays hB).sat hs.size rfl hs.env;have s2:Sat N sc env (adds 100 (u x z) (Y k m)) { tmps:=a.tmps,defers:=[] } I:=s1.adds (w1:=I) _ _ λp s=>⟨(a7 p s).1,(a7 p s).2.1,λb n=>hw b O5,λj jt hj ho b n a6=>by have h1:=(a7 p s).2.2 b n;have h2:=jt.lt W b (S.hold j jt hj) a6;omega⟩
  have b5:∀j q,lk (adds 100 (u x z) (Y k m)) j=some q->(q∈u x z)\/lk (Y k m) j=some q:=λj q h=>Zsg _ _ _ j q h;have s:∀j q,lk (adds 100 (u x z) (Y k m)) j=some q->∀b,q.fp b->q.own=true->Mof (w.heap.size+1) H b:=λj q hj b n ho=>by
   rcases b5 j q hj with h|h
   .grind
   .exact S.mf j q h ho b n
  have b8:∀j q,lk (adds 100 (u x z) (Y k m)) j=some q->∀b,q.fp b->q.own=false->b<w.heap.size\/w.heap.size+1<=b:=λj q hj b n ho=>by
   rcases b5 j q hj with h|h
   .grind
   .exact S.off j q h ho b n
  have s3:=s2.rounds ps (ys x z) g0;have s4:Sat N sc (renv ps (ys x z) env) ((93,Yy I (Mfs sc (w.heap.size+1) H))::adds 100 (u x z) (Y k m)) _ I:=s3.add 93 (Yy I (Mfs sc (w.heap.size+1) H)) (Chg.refl _ _) (λj jt d1 hj Ff b n a6=>by
   rcases Ff with h|h
   .cases h
   .exact n.2 (.inl (s j jt hj b a6 h))) (λb n=>eW.1 λhn=>n.2 (.inr hn))
  have d0:¬Mfs sc (w.heap.size+1) H w.heap.size:=λh=>h.elim f9 (λhn=>hn (hw _ g5));rw [B]at hy;refine⟨d4,_,assign,body,hy,roundIn_of_wpIn f5 ?_⟩;have hr:=b4 k x z m hx R w.heap.size (Mfs sc (w.heap.size+1) H) I _ I s4;have e3:(ps.toArray.zip (ys x z).toArray).foldl (λt (p,v)=>t.setIfInBounds p v) a.tmps=(ps.zip (ys x z)).foldl (λt pv=>t.setIfInBounds pv.1 pv.2) a.tmps:=O6;have e7:w.heap.size+1<=I.heap.size:=O5;have f7:∀(F:Hp),lk F 0=some (Yy w0 (λ_=>False))/\lk F 93=none->∀q,lk F 0=some q->q.own=false:=λF h q hq=>by rw [h.1]at hq;cases hq;rfl
  rw [show(ps.toArray.zip (ys x z).toArray).foldl (λt (x:Nat×Value)=>t.setIfInBounds x.1 x.2) a.tmps=(ps.zip (ys x z)).foldl (λt pv=>t.setIfInBounds pv.1 pv.2) a.tmps from e3];refine wpIn_mono hr ?_;rintro e a1 W2 ⟨rfl,d3,H1,c1,d6,e9,V,c5⟩;have a0:Chg (Mfs sc (w.heap.size+1) H) I W2:=V.hold 93 _ (Ys _ _ _);have h6:W2.heap[w.heap.size]? = some (.loop (d .ready none)):=(a0.block _ O1 d0).trans e4;have p1:=V.ps c1 O1 d6 e7 e9 s b8 b2;have g9:I.heap.size<=W2.heap.size:=a0.size;obtain⟨f,M⟩:∃f,W2.putObj w.heap.size (.loop { d .ready none with state:= .busy })=f:=⟨_,rfl⟩;have g6:Sat N sc d3 ((93,Yy f (Mfs sc (w.heap.size+1) H))::H1) a1 f:=by
   have p2:=b3 _ _ p1 (.loop { d .ready none with state:= .busy });rw [M]at p2;refine(p2.sat V.size V.defers V.env).add 93 (Yy f (Mfs sc (w.heap.size+1) H)) (Chg.refl _ _) (λj jt d1 hj Ff b n a6=>?_) (λb n=>eW.1 λhn=>n.2 (.inr hn));rcases Ff with h|h
   .cases h
   .exact n.2 (.inl (p2.mf j jt hj h b a6))
  have g4:W2.heap.size=f.heap.size:=by rw [<-M];simp
  have b7:f.heap[w.heap.size]? = some (.loop { d .ready none with state:= .busy }):=by grind [World.putObj_heap_same]
  refine⟨f,by grind [run_beginRound],wpIn_mono (c5 f ⟨⟨_,b7⟩,d0⟩ a1 f g6) ?_⟩;have b6:∀(F:Hp) (env':Pw) (a3:Act) (W3:World),(lk F 0=some (Yy w0 (λ_=>False))/\lk F 93=none)->FpM F (adds 100 (u x z) (Y k m))->Sat N sc env' ((93,Yy f (Mfs sc (w.heap.size+1) H))::F) a3 W3->∀(r:Loop),
    W3.heap[w.heap.size]? = some (.loop { d .ready none with state:= .busy })/\(((W3.putObj w.heap.size (.loop r)).heap[w.heap.size]? = some (.loop r)/\
     W1.heap.size<=(W3.putObj w.heap.size (.loop r)).heap.size/\Kps sc w (w.heap.size+1) (Mof (w.heap.size+1) H) F (W3.putObj w.heap.size (.loop r)))/\
     Chg (λb=>((∃i q,lk H i=some q/\q.own=true/\q.fp b)\/b=w.heap.size)\/W1.heap.size<=b) I (W3.putObj w.heap.size (.loop r))):=by
   intro F env' a3 W3 c9 f0 a5 r;have a2:Chg (Mfs sc (w.heap.size+1) H) f W3:=a5.hold 93 _ (Ys _ _ _);have a8:=(a2.block _ O1 d0).trans b7;have h5:=a2.size;have p3:=a5.ps c9.2 O1 (f7 F c9) O1 f0 s b8 b2;refine⟨a8,⟨World.putObj_heap_same O1,O9,b3 _ _ p3 _⟩,?_⟩;have k0:(Yy w0 (λ_=>False)).holds I:=S.stays hB |>.hold 0 _ (hk k m).1;have k3:(Yy w0 (λ_=>False)).holds W3:=p3.hold 0 _ c9.1;refine⟨?_,?_,?_,O9,λb n hn=>?_⟩
   .exact a2.os.trans ((by rw [<-M];rfl:f.os=W2.os).trans a0.os)
   .exact a2.tape.trans ((by rw [<-M];rfl:f.tape=W2.tape).trans a0.tape)
   .exact a2.output.trans ((by rw [<-M];rfl:f.output=W2.output).trans a0.output)
   .have f4:b≠w.heap.size:=λe=>hn (.inl (.inr e));have f3:¬Mof (w.heap.size+1) H b:=λh=>by
     rcases h with h|h
     all_goals grind
    refine(World.putObj_heap_other f4).trans ?_;by_cases g3:sc b
    .have d7:¬Mfs sc (w.heap.size+1) H b:=λh=>h.elim f3 (λh=>h g3);refine(a2.block b O1 d7).trans ?_;have:f.heap[b]? = W2.heap[b]?:=by grind [World.putObj_heap_other]
     exact this.trans (a0.block b n d7)
    .have d9:b<w0.heap.size:=by grind
     exact(k3.block b d9 (λh=>h)).trans (k0.block b d9 (λh=>h)).symm
  rintro e a3 W3 (⟨rfl,d5,c7,c3,env',a5⟩|⟨rfl,Z,c7,c3,env',a5⟩)
  .obtain⟨a8,c4,c2⟩:=b6 _ env' a3 W3 (hk (k+1) d5) c3 a5 (d .ready none);have:=run_endRound (P:=P) none a8;rw [show({ ({ d .ready none with state:= .busy } : Loop)with state:=if(none:Option Code).isNone then LoopState.ready else .done,pending:=none } : Loop)=d .ready none by grind]at this;exact⟨_,_,this,.inl ⟨rfl,⟨d5,c7,c4⟩,c2⟩⟩
  .obtain⟨a8,c4,c2⟩:=b6 _ env' a3 W3 (f8 Z) c3 a5 (d .done (some .ret));have:=run_endRound (P:=P) (some .ret) a8;rw [show({ ({ d .ready none with state:= .busy } : Loop)with state:=if(some Code.ret).isNone then LoopState.ready else .done,pending:=some .ret } : Loop)=d .done (some .ret) by rw [B];rfl]at this;exact⟨_,_,this,.inr ⟨rfl,⟨Z,c7,c4⟩,c2⟩⟩
 .rintro e W2 ⟨⟨v,rfl⟩,⟨m,R,hl,e8,d2⟩|⟨Z,R,hl,e8,d2⟩⟩
  .refine⟨none,_,by have:=run_endLoop (P:=P) hl O5;rw [B]at this;omega,?_⟩;have p3:=b3 _ _ d2 (.loop (d .exhausted none));rw [B]at p3;have s3:=p3.sat (a:=a) hs.size hs.defers hs.env;exact hD m R _ _ s3
  .refine⟨some .ret,_,by have:=run_endLoop (P:=P) hl O5;rw [B]at this;exact this,wpIn_ret ?_⟩;have p3:=b3 _ _ d2 (.loop { d .done (some .ret)with state:= .exhausted });rw [B]at p3;exact hX Z R _ _ (p3.sat (a:=a) hs.size hs.defers hs.env)
theorem Zon{ops:Array Oper}{r:Nat}(f:Zle ops.toList):∀(e:Nat) (d:Array Bool) (a:Act) (w:World),wpAny P .any ops (Fc Q) e d a w->wpAnyIn (Fence.wide.inRound r) 0 P .any ops Q e d a w
 | 0,_,_,_,h=>h
 | e+1,d,a,w,h=>by
  refine⟨h.1,λi hi=>?_⟩;have g:=h.2 i hi;unfold wpOp at g;unfold wpOpIn;split
  .rename_i j;simp only [j]at g;exact Zon f _ _ a w g
  .rename_i o j;simp only [j]at g;split
   .rename_i k;simp only [k,kL]at g;exact Oper.wpIn_mono (λa w l=>Zon f _ _ a w l) (Ycu (f o O5) (g.resolve_right λh=>Dc h.2))
   .rename_i k;simp only [k]at g;exact⟨λ_ _=>trivial,Zon f _ _ _ w g⟩
theorem Zhv  {l:List Oper} (e:List Nat) (f:List Nat) (d:l.all ndB=true)
  (h:A P N sc (Off H e) l.toArray f Q l.length (Array.replicate l.length false) env H) (g:P.follows .mixedOrders=true:=by kernel_rfl):ER P N sc r (.region id l.toArray true) Q env H:=λa w hs=>by
 refine wpIn_region_any g (Zon (Zes d) _ _ _ _ (Ak f (C:=Chg (Off H e)) _ _ _ _ ?_));simpa using h a _ hs.drew
def Gd(h:ER P N sc r y Q env H):X N sc .normal (Exit.then (λa w=>y.wpIn (Fence.wide.inRound r) 0 P Q a w) Q) env H:=λa w hs=>h a w hs
def Zfj(h:X N sc .normal Q env H):X N sc .normal (Fc Q) env H:=λa w hs=>h a w hs
def Hh(d:ops.all ndB=true)(h:L P N sc ops.toArray ops (Fc Q) env H):ER P N sc r (.region id ops.toArray false) Q env H:=Zs8 d h
def Ym9(h:X N sc .normal Q env H):ER P N sc r .skip Q env H:=Zs7 h
def Zay(h:X N sc .ret Q env H):ER P N sc r .ret Q env H:=Yac h
def Yss{x:Code}[Decidable p](d:ev env c=some (.bool (decide p)))(f:p->ER P N sc r x Q env H)(e:¬p->ER P N sc r y Q env H):ER P N sc r (.cond c x y) Q env H:=
 Zxa d (λh=>f (cC h)) (λh=>e (fY h))
def Ysq{c:Code}(d:∀a w,Sat N sc env H a w->p)(h:p->ER P N sc r c Q env H):ER P N sc r c Q env H:=λa w hs=>h (d a w hs) a w hs
def xq_rn{n:Nat}{g i:Type}{h:g->Hp}{d:g->Prop}{j:i->Hp}{e:i->Prop}(f:g)(hi:d f)(k:FpM (h f) Hall)(l:HSub ((n,Yy Wb Mf)::h f) H):X N sc .normal (RBn n N sc Mf Hall h d j e Wb) env H:=
 λa w hs=>Or.inl ⟨rfl,f,hi,k,[],hs.weaken aA l⟩
def Zqo{n:Nat}{i f:Type}{j:i->Hp}{h:i->Prop}{g:f->Hp}{d:f->Prop}(e:f)(hi:d e)(k:FpM (g e) Hall)(l:HSub ((n,Yy Wb Mf)::g e) H):X N sc .ret (RBn n N sc Mf Hall j h g d Wb) env H:=
 λa w hs=>Or.inr ⟨rfl,e,hi,k,[],hs.weaken aA l⟩
def x_ra {n l:Nat}    {h i:Type} {j:h->Hp} {g:h->Prop} {k:i->Hp} {e:i->Prop} {m:World} (d:Pw) (f:Hp) (v:Sub d env) (x:HSub ((n,Yy m Mf)::f) H) (s:lk f n=none) (o:∀q,lk f 0=some q->q.own=false) (t:FpM f Hall)
  (u:∀Wb,LpAt l Mf Wb->ER P N sc l body (RBn n N sc Mf Hall j g k e Wb) d ((n,Yy Wb Mf)::f)):X N sc .normal (RAn n P N sc l Mf Hall body j g k e m) env H:=
 λa w hs=>⟨rfl,d,f,s,o,t,hs.weaken v x,u⟩
theorem Yna  {l:List Oper} (M:Nat->Prop) (e:List Nat) (f:P.follows .mixedOrders=true) (d:l.all ndB=true)
  (h:A P N sc M l.toArray e Q l.length (Array.replicate l.length false) env H):ER P N sc r (.region id l.toArray true) Q env H:=λa w hs=>by
 refine wpIn_region_any f (Zon (Zes d) _ _ _ _ (Ak e (C:=Chg M) _ _ _ _ ?_));simpa using h a _ hs.drew
theorem Ysr  {l:List Oper} (M:Nat->Prop) (d:List (Nat×Nat)) (n:P.follows .mixedOrders=true) (e:l.all ndB=true)
  (g:(Region.noSelect l.toArray && Nat.beq d.length l.length && Fs l.toArray (Ay d) d (Array.replicate l.length false) &&
   (Region.ready .any l.toArray (Ez d (Array.replicate l.length false))).isEmpty)=true)
  (h:LD P N sc M l.toArray (X N sc .normal Q) d env H):ER P N sc r (.region id l.toArray true) Q env H:=by
 simp only [aN]at g;obtain⟨⟨⟨i,f⟩,j⟩,k⟩:=g;have f:=dZ f;refine Yna M (Ay d) n e ?_;have:=LD.sound i _ _ env H j h (λenv H m=>Zo m k);grind
end Go.Sky
namespace Go.Sky
open Go.RowKit Below
variable{x:Nat×Nat}{D:Int}{a b:List Zk}{zs:List Ad}{z:Ad}{u:R2}{k i:Nat}{ls:List PT}
section
variable {P:Program} {N:Nat} {sc:Nat->Prop} {env:Pw} {H:Hp}
def f_fct{p:Prop}(i:Nat)(hi:lk H i=some (Ym2 p)):∀a w,Sat N sc env H a w->p:=λa w hs=>hs.hold i _ hi
end
theorem Yjv{x:Int}(d:Nc x):Et x 1=x/\Gn x 1=1:=by
 have c:Qi x 1=1:=by simp [Zsj]
 have f:¬Kc x 1:=by unfold Kc;rw [c,mV];have:=Li d;have e:bl (1/1:Int).natAbs<=1:=O4;omega
 simp_all [Zba,mV]
theorem gap_t{n d:Int}(j:∀g∈a,Gin g)(c:Yf a=true)(h:zs.map unP=Ma D n d a b)(t:z∈zs):0<=z.1.1/\z.1.1<z.1.2/\z.1.2<=3600000:=by have l:unP z∈Ma D n d a b:=O5;unfold Ma at l;obtain⟨k,p,e⟩:=cQ.1 l;rw [lX]at e;rw [mG]at p;have f:k<(Lx a b a).length:=O1;obtain⟨q,r⟩:=Zf6 j c (Zum _) _ (dI.2 ⟨_,iS f,rfl⟩);have s:=Oj q r;have t1:=s.t1;have t2:=s.t2;have t3:=s.t3;have m:z.1.1=(Lx a b a)[k].1.1:=(aD (λg=>g.1) e).symm;have o:z.1.2=(Lx a b a)[k].1.2.1:=(aD (λg=>g.2.1) e).symm;rw [m,o];exact⟨t1,t2,t3⟩
abbrev wtM (z:Ad) (u:R2):R2:=(Et (u.1*(z.1.2-z.1.1)) (u.2*1),Gn (u.1*(z.1.2-z.1.1)) (u.2*1))
abbrev wtT (z:Ad) (u:R2):R2:=(Et ((wtM z u).1*1+z.1.1*(wtM z u).2) ((wtM z u).2*1),Gn ((wtM z u).1*1+z.1.1*(wtM z u).2) ((wtM z u).2*1))
abbrev wtV (g:R2×Int):Value:= .tuple #[.agg #[.bool (decide (g.1.1<0)),.string (Qp (g.1.1).natAbs),.bool (decide (g.1.2<0)),.string (Qp (g.1.2).natAbs)],.int .i64 g.2]
theorem Yot{x g:Int}(h:g∣x)(d:g≠0):bl (x/g).natAbs<=bl x.natAbs:=by refine Pz ?_;obtain⟨c,rfl⟩:=h;simp_all [gL,bT,jF]
theorem nrf{x y:Int}(m:bl x.natAbs<=65536)(n:bl y.natAbs<=65536)(g:0<y):¬Kc x y/\bl (Et x y).natAbs<=bl x.natAbs/\bl (Gn x y).natAbs<=bl y.natAbs/\0<Gn x y:=by
 have c:Qi x y≠0:=Zsk O1;have e:Qi x y∣x:=by grind [Zsj,Int.gcd_dvd_left]
 have f:Qi x y∣y:=by grind [Zsj,Int.gcd_dvd_right]
 have j:=Yot e c;have l:=Yot f c;have d:¬Kc x y:=λh=>by unfold Kc at h;omega
 refine⟨d,?_,?_,Zr8 d g⟩
 all_goals simp_all [Zba]
theorem wt_m{s t:Rat}(n:0<=z.1.1/\z.1.1<z.1.2/\z.1.2<=3600000)(c:Fnd z.2.2 s t u):bl (wtM z u).1.natAbs<=5300/\bl (wtM z u).2.natAbs<=5300/\0<(wtM z u).2:=by
 have m:bl (z.1.2-z.1.1).natAbs<=64:=Li ⟨O1,O1⟩;have e:=c.b1;have f:=c.b2;have g:=Zy u.1 (z.1.2-z.1.1);have d:=by have:=c.lw.1;omega
 obtain⟨-,h,j,l⟩:=nrf (x:=u.1*(z.1.2-z.1.1)) O1 O1 d;grind
def WtP(D:Int)(a b:List Zk)(g:R2×Int):Prop:=
 (Mx a b≠0/\g=((0,0),Mx a b))\/(Mx a b=0/\Fw D 1 1 a b=true/\g=((0,0),9))\/
  (Mx a b=0/\Fw D 1 1 a b=false/\g.2=0/\∃z:Ad,unP z∈Ma D 1 1 a b/\∃u,Fnd z.2.2 (qv (0,1)) (qv (1,1)) u/\g.1=wtT z u)
theorem Zoy{x:Ad}(h:zs.map unP=Ma D 1 1 a b)(d:¬Mx a b≠0)(c:(zs.filter λz=>It z.2.2)[k]? = some x)(e:Fnd x.2.2 (qv (0,1)) (qv (1,1)) u):WtP D a b (wtT x u,0):=
 .inr (.inr ⟨eX.1 d,Zie h c,rfl,x,by rw [<-h];exact dI.2 ⟨x,(fA.1 (eV c)).1,rfl⟩,u,e,rfl⟩)
def wt_no(h:zs.map unP=Ma D 1 1 a b)(c:¬Mx a b≠0)(d:(zs.filter λz=>It z.2.2).length=0):WtP D a b ((0,0),9):= .inr (.inl ⟨eX.1 c,Zt8 h c d,rfl⟩)
def Zzh(n i:Nat):List (Nat×Nat):=(List.range (n-(i+1))).map λj=>(i,i+1+j)
def prU(n:Nat):Nat->List (Nat×Nat)
 | 0=>[]
 | i+1=>prU n i ++ Zzh n i
abbrev prs (n:Nat):List (Nat×Nat):=prU n n
theorem prU_le{n m:Nat}(h:i<=m):∃r,prU n m=prU n i ++ r:=by
 obtain⟨d,rfl⟩:=Nat.exists_eq_add_of_le h;clear h
 induction d with
 | zero=>simp
 | succ d e=>
  obtain⟨r,c⟩:=e;exact⟨r ++ Zzh n _,by rw [<-eC,<-c];rfl⟩
theorem pr_len{n:Nat} : (prU n (i+1)).length=(prU n i).length+(n-(i+1)):=by show(prU n i ++ Zzh n i).length=_;unfold Zzh;simp
theorem pr_at{n j:Nat}(hi:i<n)(d:j<n-(i+1)):(prs n)[(prU n i).length+j]? = some (i,i+1+j):=by obtain⟨r,c⟩:=prU_le (show i+1<=n from hi);unfold prs;rw [c,show prU n _=prU n i ++ Zzh n i from rfl,eC];unfold Zzh;grind
theorem Ykr{n:Nat}(hi:i<n)(c:i+1<=k)(d:k<n):(prs n)[(prU n i).length+(k-(i+1))]? = some (i,k):=by rw [pr_at hi O1];grind
theorem Zzi{n m:Nat}(h:(i,k)∈prU n m):i<m/\i<k/\k<n:=by
 induction m with
 | zero=>cases h
 | succ m d=>
  rcases cW.1 h with h|h
  .grind
  .obtain⟨j,c,e⟩:=dI.1 h;grind
def lx(p q:Nat×Nat):Prop:=p.1<q.1\/(p.1=q.1/\p.2<q.2)
theorem pr_pw(n:Nat):∀m,(prU n m).Pairwise lx
 | 0=>List.Pairwise.nil
 | m+1=>by
  refine List.pairwise_append.2 ⟨pr_pw n m,?_,λp d q e=>?_⟩
  .unfold Zzh;rw [List.pairwise_map];exact(List.pairwise_lt_range).imp λ{a b} h=> .inr ⟨rfl,O1⟩
  .obtain⟨c,_⟩:=Zzi d;obtain⟨j,f,rfl⟩:=dI.1 e;exact .inl c
theorem Ykq (y:Nat×Nat){n:Nat}(l:(prs n)[k]? = some x)(m:y.1<y.2/\y.2<n)(h:lx y x):∃j,j<k/\(prs n)[j]? = some y:=by
 obtain⟨a,b⟩:=y;have c:=Ykr (i:=a) O1 O1 m.2;refine⟨_,?_,c⟩;obtain⟨p,f⟩:=fC.1 l;obtain⟨o,e⟩:=fC.1 c;rcases fM _ k with d|d|d
 .omega
 .subst d;rw [f]at e;subst e;rcases h with h|h<;>omega
 .have:=List.pairwise_iff_getElem.1 (pr_pw n n) k _ p o d;rw [f,e]at this;rcases h with h|h<;>rcases this with g|g<;>omega
def PrI(D:Int)(ls:List PT)(k:Nat):Prop:=∀j p,j<k->(prs ls.length)[j]? = some p->Fw D 1 1 (pth ls p.1) (pth ls p.2)=true
theorem prI_s(h:PrI D ls k)(g:(prs ls.length)[k]? = some x)(f:Fw D 1 1 (pth ls x.1) (pth ls x.2)=true):PrI D ls (k+1):=λj p d e=>by
 rcases aY.1 d with c|c
 .exact h j p c e
 grind
theorem prI_A(h:PrI D ls k)(g:(prs ls.length)[k]? = some x):ClA D 1 1 ls x.1/\ClB D 1 1 ls x.1 x.2/\x.1<x.2/\x.2<ls.length:=by
 obtain⟨-,l,m⟩:=Zzi (eV g);refine⟨λa b d e n=>?_,λb d e=>?_,l,m⟩
 .obtain⟨j,f,c⟩:=Ykq (a,b) g ⟨d,e⟩ (.inl n);have:=h j _ f c;omega
 .obtain⟨j,f,c⟩:=Ykq (x.1,b) g ⟨d,show b<ls.length by omega⟩ (.inr ⟨rfl,e⟩);have:=h j _ f c;omega
theorem Yrj(h:PrI D ls (prs ls.length).length):ClR D 1 1 ls ((0,0,0,0),false,0):= .inl ⟨rfl,λa b d e f=>by have c:=Ykr f d e;have:=h _ _ (fC.1 c).1 c;omega⟩
theorem Yri(h:PrI D ls k)(j:(prs ls.length)[k]? = some x)(c:Mx (pth ls x.1) (pth ls x.2)≠0):ClR D 1 1 ls ((0,0,0,0),false,Mx (pth ls x.1) (pth ls x.2)):=by obtain⟨d,e,f,g⟩:=prI_A h j;have:=Yoe d e f g (ap_e c);have l:Ma D 1 1 (pth ls x.1) (pth ls x.2)=[]:=Zsu λm=>c (by unfold Mx;omega);unfold clV at this;rw [l]at this;exact this
theorem Zz3{x:Ad}(c:(zs.filter λz=>It z.2.2)[0]? = some x):Cc (zs.map unP)=(x.1.1,x.1.2,true):=by
 induction zs with
 | nil=>grind
 | cons z zs d=>
  cases hn:It _ with
  | true=>
   rw [dV O1]at c;obtain rfl:z=x:=Option.some.inj c;have e:Zko ((z::zs).map unP)=some _:=kZ (by exact hn);unfold Cc;rw [e];rfl
  | false=>
   rw [fL O5]at c;have e:Zko _=Zko (zs.map unP):=lA (by rw [show It (unP z).2.2=false from hn];simp);have:=d c;unfold Cc at this ⊢;grind
theorem Yrh{e:Nat}{y:Ad}(h:PrI D ls k)(n:(prs ls.length)[k]? = some x)(o:¬Mx (pth ls x.1) (pth ls x.2)≠0)(d:zs.map unP=Ma D 1 1 (pth ls x.1) (pth ls x.2))(m:e=0)(c:(zs.filter λz=>It z.2.2)[e]? = some y) :
  ClR D 1 1 ls (((x.1:Int),(x.2:Int),y.1.1,y.1.2),true,0):=by
 subst m;obtain⟨f,g,j,l⟩:=prI_A h n;have:=Yoe f g j l (Zie d c);unfold clV at this;rw [<-d,Zz3 c]at this;grind
def vidx_t(hi:i<ls.length)(h:Yf (pth ls i)=false):Zjp ls=false:=Ypr (Zd hi) h
end Go.Sky
namespace Go.Sky
variable{D d ov2 t:Int}{a b:List Zk}{i:Nat}
def dfA(p q:List Int)(c ov2:Int)(t:Rat):Rat:=Zi p t*(ov2:Rat)-Zi q t*(c:Rat)
theorem Yq5(p q:List Int)(a b:Int)(t:Rat):Zi (dfP p q a b) t=dfA p q a b t:=by unfold dfP dfA;grind [Yjw,Dx,Ll]
theorem Zra(p q:List Int)(a b k:Int)(t:Rat):Zi (sqK p q a b k) t=((k:Rat)*dfA p q a b t)*((k:Rat)*dfA p q a b t):=by unfold sqK dfK;rw [Xb,Dx,Yq5]
def fvE(D n d c ov2:Int)(x y z e f g:List Int)(t:Rat):Rat:=
 ((d:Rat)*dfA x e c ov2 t)*((d:Rat)*dfA x e c ov2 t)+((d:Rat)*dfA y f c ov2 t)*((d:Rat)*dfA y f c ov2 t)+((n:Rat)*dfA z g c ov2 t)*((n:Rat)*dfA z g c ov2 t)
  - ((D:Rat)*(d:Rat)*(c:Rat)*(ov2:Rat))*((D:Rat)*(d:Rat)*(c:Rat)*(ov2:Rat))
theorem Yq6(D d c ov2:Int)(t:Rat):Zi (cnZ D d c ov2) t=- (((D:Rat)*(d:Rat)*(c:Rat)*(ov2:Rat))*((D:Rat)*(d:Rat)*(c:Rat)*(ov2:Rat))):=by show Zi (Zt (Zt (Zt (Zt (Zt (Zt (Zt (Zt [-1] D) D) d) d) c) c) ov2) ov2) t=_;simp only [Dx];rw [show Zi [-1] t=(-1:Rat)from by show((-1:Int))+t*0=_;grind];grind
theorem Zrb(D n d c ov2:Int)(x y z e f g:List Int)(t:Rat):Zi (smZ D n d c ov2 x y z e f g 3) t=fvE D n d c ov2 x y z e f g t:=by show Zi (Gb (Gb (Gb (cnZ D d c ov2) (fqZ n d c ov2 x y z e f g 0)) (fqZ n d c ov2 x y z e f g 1)) (fqZ n d c ov2 x y z e f g 2)) t=_;rw [Zmp,Zmp,Zmp,Yq6];show _+Zi (sqK x e c ov2 d) t+Zi (sqK y f c ov2 d) t+Zi (sqK z g c ov2 n) t=_;rw [Zra,Zra,Zra];unfold fvE;grind
theorem Zyo(D n d c ov2:Int)(x y z e f g:List Int):Tr (smZ D n d c ov2 x y z e f g 3):=Qn _
theorem negZ{n e:Int}{x y z f g j:List Int}(h:Cvd (fmZ D n d e ov2 x y z f g j)):It (fmZ D n d e ov2 x y z f g j)=false↔∀t:Rat,0<=t->t<=1->0<=fvE D n d e ov2 x y z f g j t:=by
 have c:It _=true↔Ya8 _ _ _:=Zhf h O1 O1 O7;have o:qv (0,1)=0:=O7;have p:qv (1,1)=1:=O7;rw [o,p]at c;rw [<-Bool.not_eq_true,c];constructor
 .intro q t k l;refine lB.1 λm=>q ⟨t,k,l,?_⟩;unfold fmZ;grind [Zm3,Zyo,Zrb]
 .rintro r ⟨t,k,l,m⟩;unfold fmZ at m;grind [Zm3,Zyo,Zrb,Rat.not_le]
theorem sq_le{a b c:Rat}(f:0<=a)(h:a<=b):(a*c)*(a*c)<=(b*c)*(b*c):=by have e:=aE (show 0<=b-a by grind) (show 0<=b+a by grind);have g:=aE e (Yip c);grind
theorem Ysm{n e g:Int}(d:Int){f:Int}{x y z j k h:List Int}(t:Rat)(l:0<=e)(m:e<=D)(o:0<=n)(p:n<=g):fvE D n d f ov2 x y z j k h t<=fvE e g d f ov2 x y z j k h t:=by
 have q:(0:Rat)<=(e):=by exact_mod_cast l
 have r:(e)<=(D:Rat):=by exact_mod_cast m
 have s:(0:Rat)<=(n):=by exact_mod_cast o
 have u:(n:Rat)<=(g):=by exact_mod_cast p
 have v:=sq_le (c:=(d)*(f)*(ov2)) q r;have w:=sq_le (c:=dfA z h f ov2 t) s u;unfold fvE;grind
def fvU(D n d:Int)(g h:Zkt)(t:Rat):Rat:=fvE D n d g.1.2.2 h.1.2.2 g.2.1 g.2.2.1 g.2.2.2 h.2.1 h.2.2.1 h.2.2.2 t
theorem Yso(l:List GpU):(Cc l).2.2=false↔∀g∈l,It g.2.2=false:=by
 constructor
 .intro h g c;cases he:Zko l with
  | some q=>unfold Cc at h;grind
  | none=>
   have:=jC.1 he g c;grind
 .intro h;have:Zko l=none:=jC.2 λg c=>O5;unfold Cc;grind
theorem Zyj{α β γ:Type}(f:α->β->γ)(x:γ):∀(l:List α) (m:List β),x∈List.zipWith f l m↔∃g h,(g,h)∈l.zip m/\f g h=x
 | [],m=>O6
 | _::_,[]=>O6
 | a::l,b::m=>by
  rw [kY,aX,Zyj f x l m];constructor
  .rintro(rfl|⟨g,h,j,e⟩)
   .exact⟨a,b,.head _,rfl⟩
   .exact⟨g,h,.tail _ j,e⟩
  .rintro⟨g,h,j,e⟩;rcases aX.1 j with c|c
   .cases c;exact .inl e.symm
   .exact .inr ⟨g,h,c,e⟩
theorem ap_e2{n:Int} : Fw D n d a b=true↔Mx a b=0/\(Cc (Ma D n d a b)).2.2=false:=by unfold Fw;simp
theorem Yo4{n:Int}(c:∀g∈Ma D n d a b,Cvd g.2.2):Fw D n d a b=true↔Mx a b=0/\∀g h,(g,h)∈(Lx a b a).zip (Lx a b b)->∀t:Rat,0<=t->t<=1->0<=fvU D n d g h t:=by
 rw [ap_e2,Yso];have f:∀x,x∈Ma D n d a b↔∃g h,(g,h)∈(Lx a b a).zip _/\gpZ D n d g h=x:=λx=>Zyj _ x _ _;generalize Ma D n d a b=L at f c;refine and_congr nG ⟨λh g q l=>?_,λh g m=>?_⟩
 .have k:=(f _).2 ⟨g,q,l,rfl⟩;have j:=c _ k;have o:=h _ k;simp only [gpZ]at j o;exact(negZ j).1 o
 .obtain⟨p,q,l,e⟩:=(f g).1 m;have j:=c g m;rw [<-e]at j ⊢;simp only [gpZ]at j ⊢;exact(negZ j).2 (h p q l)
theorem Yud{n f k:Int}(j:∀g∈Ma D n d a b,Cvd g.2.2)(c:∀g∈Ma f k d a b,Cvd g.2.2)(l:0<=f)(m:f<=D)(o:0<=n)(p:n<=k)(h:Fw D n d a b=true):Fw f k d a b=true:=by obtain⟨e,r⟩:=(Yo4 j).1 h;exact(Yo4 c).2 ⟨e,λg q s t t0 t1=>eD (r g q s t t0 t1) (Ysm d t l m o p)⟩
def Zhq(ps:List Zk)(t:Int):Bool:=decide (spF ps<=t) && decide (t<=spL ps)
theorem Yma{ps:List Zk}(h:Zhq ps t=true):spF ps<=t/\t<=spL ps:=by unfold Zhq at h;rw [aN,cF,cF]at h;exact h
def exI(ps:List Zk)(t:Int):Nat:=ps.findIdx λg=>decide (t<=g.1.2.1)
theorem Zfz{ps:List Zk}(e:Yf ps=true)(hi:i+1<ps.length):(ps.getD (i+1) G0).1.1=(ps.getD i G0).1.2.1:=by have h:=(Qd e).1 (i+1) hi;have c:=Zdn (Nx h) (jZ i);rw [h]at c;refine aZ λf=>?_;have:=me_no (g:=ps.getD i G0) (h:=ps.getD (i+1) G0) f;rw [show i+1-1=i from rfl,this]at c;cases c
theorem ex_ok{ps:List Zk}(k:∀g∈ps,Gin g)(e:Yf ps=true)(f:Zhq ps t=true)(hi:i<ps.length)(c:∀j,j<i->¬t<=(ps.getD j G0).1.2.1)(h:t<=(ps.getD i G0).1.2.1) :
  SgG (ps.getD i G0)/\(0<=t-(ps.getD i G0).1.1/\t-(ps.getD i G0).1.1<=3600000)/\(1<=(ps.getD i G0).1.2.1-(ps.getD i G0).1.1/\(ps.getD i G0).1.2.1-(ps.getD i G0).1.1<=3600000):=by
 have hs:SgG (ps.getD i G0):=Oj (k _ (Zd hi)) (Nx ((Qd e).1 i hi));have m:=hs.t1;have n:=hs.t2;have o:=hs.t3;have l:(ps.getD i G0).1.1<=t:=by
  match i,hi,c with
  | 0,_,_=>exact(Yma f).1
  | j+1,hi,c=>
   have:=c j (gP j);rw [Zfz e hi];omega
 exact⟨hs,⟨O1,O1⟩,⟨O1,O1⟩⟩
theorem ex_no{ps:List Zk}(c:Yf ps=true)(f:Zhq ps t=true)(e:∀j,j<ps.length->¬t<=(ps.getD j G0).1.2.1):False:=by have g:=(Qd c).2.1;exact e (ps.length-1) O1 (Yma f).2
def exA(ps:List Zk)(t:Int):Int:=t-(ps.getD (exI ps t) G0).1.1
def exD(ps:List Zk)(t:Int):Int:=(ps.getD (exI ps t) G0).1.2.1-(ps.getD (exI ps t) G0).1.1
def exO(ps:List Zk)(t:Int):Int:=(ps.getD (exI ps t) G0).1.2.2*exD ps t^5/gS (ps.getD (exI ps t) G0).1.2.2 (exA ps t) (exD ps t) (ps.getD (exI ps t) G0).2.1.2 (ps.getD (exI ps t) G0).2.2.1.2 (ps.getD (exI ps t) G0).2.2.2.2 3
def exL(ps:List Zk)(t:Int):List Int:=Zox ((ps.getD (exI ps t) G0).1.2.2*exD ps t^5) (mk 3 (plC (exA ps t) (exD ps t) (ps.getD (exI ps t) G0).2.1.2 (ps.getD (exI ps t) G0).2.2.1.2 (ps.getD (exI ps t) G0).2.2.2.2))
section
variable {P:Program} {N:Nat} {sc:Nat->Prop} {env:Pw} {H:Hp}
end
end Go.Sky
namespace Go.Sky
variable{t d:Int}{c:List Int}
theorem Yp3{ps:List Zk}(f:∀g∈ps,Gin g)(b:Yf ps=true){k m:Nat}(o:k<=m)(a:m<ps.length):(ps.getD k G0).1.2.1<=(ps.getD m G0).1.2.1:=by
 induction m with
 | zero=>
   obtain rfl:k=0:=O1;exact eP _
 | succ m i=>
  rcases aW m k with h|h
  .obtain rfl:k=m+1:=O1;exact eP _
  .have j:=i h O1;have l:=Zfz b a;have e:SgG (ps.getD (m+1) G0):=Oj (f _ (Zd a)) (Nx ((Qd b).1 _ a));have n:=e.t2;omega
theorem Zz8{ps:List Zk}(b:Yf ps=true)(f:Zhq ps t=true):exI ps t<ps.length:=by refine aZ λh=>ex_no b f λj e a=>h ?_;exact List.findIdx_lt_length.2 ⟨_,Zd e,aG a⟩
theorem ex_all{ps:List Zk}(i:∀g∈ps,Gin g)(b:Yf ps=true)(f:Zhq ps t=true):SgG (ps.getD (exI ps t) G0)/\(0<=exA ps t/\exA ps t<=3600000)/\(1<=exD ps t/\exD ps t<=3600000):=by
 have h:=Zz8 b f;refine ex_ok i b f h (λj e a=>?_) ?_
 .have:=lC e;rw [aL,aO (jL e h)]at a;exact fY this a
 .have:=lY (xs:=ps) (p:=λg:Zk=>decide (t<=g.1.2.1)) (w:=h);rw [aL,aO h];exact cC this
def exC(ps:List Zk)(t:Int)(c:List Int):Int:=pl c (exA ps t) (exD ps t)/gS (ps.getD (exI ps t) G0).1.2.2 (exA ps t) (exD ps t) (ps.getD (exI ps t) G0).2.1.2 (ps.getD (exI ps t) G0).2.2.1.2 (ps.getD (exI ps t) G0).2.2.2.2 3
theorem rev_qs(c:List Int)(x:Rat):Zi c x=Hy (λk=>(cf c k:Rat)*x^k) c.length:=by grind [Zgz,Zcq]
theorem plT_q(c:List Int)(a:Int)(e:d≠0):∀n,n<6->((plT c a d n:Int):Rat)=(d:Rat)^5*((cf c n:Rat)*((a:Rat)/(d:Rat))^n):=λn b=>by
 have f:(d:Rat)≠0:=O11;unfold plT;rw [show c.getD n 0=cf c n from rfl]
 match n,b with
 | 0,_=>grind
 | 1,_=>grind
 | 2,_=>grind
 | 3,_=>grind
 | 4,_=>grind
 | 5,_=>grind
theorem pls_q(c:List Int)(a:Int){d:Int}(b:d≠0):∀n,n<=6->((plS c a d n:Int):Rat)=(d:Rat)^5*Hy (λk=>(cf c k:Rat)*((a:Rat)/(d:Rat))^k) n
 | 0,_=>by show((0))=_*0;simp
 | n+1,e=>by rw [show plS c a d _=plS c a d n+plT c a d n from rfl,Mc,Rat.mul_add,<-plT_q c a b n O1,<-pls_q c a b n O1];push_cast;rfl
theorem pl_q(b:c.length<=6)(a:Int)(e:d≠0):((pl c a d:Int):Rat)=(d:Rat)^5*Zi c ((a:Rat)/(d:Rat)):=by unfold pl;grind [pls_q,rev_qs]
theorem Zp7(o a d:Int)(x y z:List Int):∀i j,j<=i->gS o a d x y z i∣gS o a d x y z j/\∀k,k<j->gS o a d x y z i∣pl (Zs k x y z) a d
 | 0,j,g=>by simp_all
 | i+1,j,g=>by
  have b:gS o a d x y z (i+1)∣gS o a d x y z i:=Int.gcd_dvd_left ..;have l:gS o a d x y z (i+1)∣pl _ a d:=jJ ..;rcases aW i j with h|h
  .obtain rfl:j=i+1:=O1;refine⟨mX _,λk e=>?_⟩;rcases aY.1 e with f|f
   .exact fQ b ((Zp7 o a d x y z i i (aF _)).2 k f)
   grind
  .exact⟨fQ b (Zp7 o a d x y z i j h).1,λk e=>fQ b ((Zp7 o a d x y z i j h).2 k e)⟩
def spX(g:Zk)(i:Nat)(s:Rat):Rat:=Zi (Zs i g.2.1.2 g.2.2.1.2 g.2.2.2.2) s
def Yr9{g:Zk}(h:SgG g)(i:Nat):(Zs i g.2.1.2 g.2.2.1.2 g.2.2.2.2).length<=6:=(h.lc i).2
theorem low_q (a:Int)(d:Int){g:Zk}(h:SgG g)(l:0<=a/\a<=3600000)(m:1<=d/\d<=3600000){i:Nat}(hi:i<3) :
  ((pl (Zs i g.2.1.2 g.2.2.1.2 g.2.2.2.2) a d/gS g.1.2.2 a d g.2.1.2 g.2.2.1.2 g.2.2.2.2 3:Int):Rat)*(g.1.2.2:Rat)=((g.1.2.2*d^5/gS g.1.2.2 a d g.2.1.2 g.2.2.1.2 g.2.2.2.2 3:Int):Rat)*spX g i ((a:Rat)/(d:Rat)):=by
 have n:d≠0:=O1;have s:=(Znn h l m 3).1;obtain⟨r,k⟩:=Zp7 _ a d _ _ _ 3 3 (aF _);have j:=(Zp7 g.1.2.2 a d g.2.1.2 g.2.2.1.2 g.2.2.2.2 3 0 O6).1;have f:=iW (k i hi);have e:g.1.2.2*d^5/gS _ a d _ _ _ 3*gS _ a d _ _ _ 3=g.1.2.2*d^5:=iW j;have p:=pl_q (Yr9 h i) a n;unfold spX;generalize pl _ a d/gS _ a d _ _ _ 3=C at f ⊢;generalize g.1.2.2*d^5/gS _ a d _ _ _ 3=O at e ⊢;generalize gS _ a d _ _ _ 3=b at *;generalize Zi _ _=R at *;generalize g.1.2.2=q at *;have o:(b:Rat)≠0:=by exact_mod_cast (show b≠0 by omega)
 have u:(O)*(b)=(q)*(d:Rat)^5:=by exact_mod_cast e
 have v:(C)*(b)=(d)^5*R:=by rw [<-p];exact_mod_cast f
 grind
theorem exD_le{ps:List Zk}(e:Yf ps=true)(f:Zhq ps t=true):exA ps t<=exD ps t:=by
 have a:=Zz8 e f;have b:=lY (w:=a);have g:t<=(ps.getD (exI ps t) G0).1.2.1:=by rw [aL,aO a];exact cC b
 unfold exA exD;omega
def exN(ps:List Zk)(t:Int)(i:Nat):Int:=exC ps t (Zs i (ps.getD (exI ps t) G0).2.1.2 (ps.getD (exI ps t) G0).2.2.1.2 (ps.getD (exI ps t) G0).2.2.2.2)
def rdN(ps:List Zk)(t:Int)(i:Nat):Int:=(exN ps t i+exN ps t i+exO ps t)/(exO ps t+exO ps t)
def rdL(ps:List Zk)(t:Int):Nat->List Int
 | 0=>[0,0,0]
 | i+1=>(rdL ps t i).set i (rdN ps t i)
structure AtB (n o:Int):Prop where
 b1:bl n.natAbs<=30000
 b2:bl o.natAbs<=30000
 n2:bl (n+n).natAbs<=30000
 o2:bl (o+o).natAbs<=30000
 s:bl (n+n+o).natAbs<=30000
 z:o+o≠0
 q:((n+n+o)/(o+o)).natAbs<=9223372036854775807
section
variable {P:Program} {N:Nat} {sc:Nat->Prop} {env:Pw} {H:Hp}
end
end Go.Sky
namespace Go.Sky
end Go.Sky

