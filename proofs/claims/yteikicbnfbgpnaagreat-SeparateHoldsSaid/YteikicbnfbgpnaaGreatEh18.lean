/- Rules, arithmetic and contracts: part 19. No conditions but those that each theorem names. -/
import Derived.Test.YteikicbnfbgpnaaGreatEh17
import Derived.MapKept
import Derived.RangeFuncNested
set_option linter.all false
set_option maxHeartbeats 4000000
namespace Go.Sky
open Go.Proofs.Tryz
open Go.Proofs
set_option synthInstance.maxHeartbeats 0
set_option synthInstance.maxSize 100000
set_option maxRecDepth 20000
set_option linter.unusedSimpArgs false
variable{ys:List GpT}{m i:Nat}{D d:Int}{a b:List Zf}
def bdI:List GpU->Int
 | []=>-1
 | g::l=>if Ck g.2.2 then 0 else if bdI l<0 then -1 else bdI l+1
theorem gp_eq{xs:List GpT}(h:xs.map unP=ys.map unP):xs.length=ys.length/\∀k,(xs.getD k Gp0).1.1=(ys.getD k Gp0).1.1/\(xs.getD k Gp0).1.2=(ys.getD k Gp0).1.2/\(xs.getD k Gp0).2.2=(ys.getD k Gp0).2.2:=by have e:=aL List.length h;rw [aP,aP]at e;refine⟨e,λk=>?_⟩;have:=aL (λl=>l.getD k (0,0,[])) h;rw [Zj2,Zj2]at this;unfold unP at this;injection this with h1 h2;injection h2 with h2 h3;exact⟨h1,h2,h3⟩
theorem Zhn{ps:List Zf}(h:Zbh ps m=true):ps.length<=m:=by unfold Zbh at h;rw [aO]at h;exact bH h.2
theorem Ygs{v u:Value}{zs:List GpT}(j:zs.map unP=ys.map unP):Xy prog 31 #[v,u] [Xp 3 Cd qGp v zs,Xp 3 Cd qGp u ys] (.bool true):=by
 refine Zg func31 ntmps31 λo n k f=>?_;refine Of (Ir (i:=1) J Zd) (λg=>?_);obtain⟨l,c⟩:=gp_eq j;refine go 12 ?_;refine kf (aE O1)<|go 12 ?_;refine lp (G:=Nat) [0,1] [0,1,2] (λi=>[(5,.int .i64 (i:Int))]) (λi=>[]) (λi=>i<=zs.length) (λi=>zs.length-i) 0 O2 K1 aA ?_;rintro i hi;refine go 9 ?_;refine Zc J (λe=>?_) (λe=>?_)
 .refine go 5 ?_;refine Zh (Gd 1 55 (zs.getD i Gp0) J J Ze J)<|Zh (Gd 2 56 (ys.getD i Gp0) J J Ze J)<|Xu (λ_=>False) [(0,0),(1,0),(2,0),(3,0),(4,0),(5,0),(6,0),(7,0),(8,0),(9,0),(10,0),(11,0),(12,0),(13,0),(14,0),(15,0),(16,0),(17,0),(18,0),(19,0),(20,0),(21,0),(22,0),(23,0),(24,0),(25,0),(26,0),(27,0),(28,0),(29,0),(30,0),(31,0),(32,0),(33,0),(34,0),(35,1),(36,0),(37,0)]<|go 2 ?_;refine Xg J J (Xd (Zq 1 i J J J J Zd Zon sizeOf130 J))<|Xg J J (Xd (Nt 1 J J J Zd Zm8 J Ly J))<|Xg J J (Xd (Ms 1 Gp0 J J J Zd iA3 J))<|go 2 ?_;refine Xg J J (Xd (Zq 2 i J J J J Zd Zon sizeOf130 J))<|Xg J J (Xd (Nt 2 J J J Zd Zm8 J Ly J))<|Xg J J (Xd (Ms 2 Gp0 J J J Zd iA3 J))<|Xg J J (Xd (dF (Zlz J J J) (vB (aE (λh=>h (c i).1)))))<|go 3 ?_;refine Fl (Xd (Zq 1 i J J J J Zd Zon sizeOf130 J)) J J J J J<|Fl (Xd (Nt 1 J J J Zd Zm8 J Ly J)) J J J J J<|Fl (Xd (Ms 1 Gp0 J J J Zd iA3 J)) J J J J J<|go 2 ?_;refine Fl (Xd (Zq 2 i J J J J Zd Zon sizeOf130 J)) J J J J J<|Fl (Xd (Nt 2 J J J Zd Zm8 J Ly J)) J J J J J<|Fl (Xd (Ms 2 Gp0 J J J Zd iA3 J)) J J J J J<|Fl (Xd (dF (Zlz J J J) (vB (aE (λh=>h (c i).2.1))))) J J J J J<|go 4 ?_;refine Fl (Xd (Zq 1 i J J J J Zd Zon sizeOf130 J)) J J J J J<|Fl (Xd (Nt 1 J J J Zd Zm8 J sizeOf40 J)) J J J J J<|Fl (Xd (Ms 1 Gp0 J J J Zd isAgg40 J)) J J J J J<|go 2 ?_;refine Fl (Xd (Zq 2 i J J J J Zd Zon sizeOf130 J)) J J J J J<|Fl (Xd (Nt 2 J J J Zd Zm8 J sizeOf40 J)) J J J J J<|Fl (Xd (Ms 2 Gp0 J J J Zd isAgg40 J)) J J J J J<|Zeh J J J J J (Pg 2 Znm J J J K2 call23 (Zk 55 J J J (Zk 56 J J J Zr)) J k.h) (λ_ _=>?_);refine Fl (Xd (dF (Yj0 J J) (vB (aE (λh=>h (c i).2.2))))) J J J J J<|go 12 ⟨O1,?_⟩;exact Yu (i+1) O2 O2 K1 aA
 .refine go 11 ?_;exact Xn f () results31 J aA Za
open Go Go.MapKept
variable {P:Program} {N:Nat} {sc:Nat->Prop} {env env':Qy} {H H':Hp} {Q Q':Exit->Act->World->Prop} {M:Nat->Prop}
abbrev PT:=SL×List Zf
abbrev PT0:PT:=((none,0,0),[])
abbrev Zlu (x:PT):Value:=Xx x.1
abbrev qP (x:PT):Pc:=Xp 6 Xv qG (Xx x.1) x.2
def mpc(b:Nat)(c:Array MapEntry)(n:Nat):Pc:=
 {own:=true,fp:=λk=>k=b,holds:=λw=>w.heap[b]? = some (.map c n)
  lt:=λw k h f=>by subst f;exact(aZ.1 h).1
  stable:=λw j h e=>by rw [<-h];exact e.block b (aZ.1 h).1 (λg=>g rfl) }
def fewsB(m k:Nat)(c:List PT):Bool:=decide (c.length<=m) && c.all λx=>Zbh x.2 k
def Ze5(c:List PT):Bool:=c.all λx=>Yc x.2
abbrev ClT:=(Int×Int×Int×Int)×Bool×Int
abbrev clE (r:ClT):Value:= .tuple #[.agg #[.int .i64 r.1.1,.int .i64 r.1.2.1,.int .i64 r.1.2.2.1,.int .i64 r.1.2.2.2],.bool r.2.1,.int .i64 r.2.2]
def pth(ps:List PT)(i:Nat):List Zf:=(ps.getD i PT0).2
def clV(D n d:Int)(ps:List PT)(i k:Nat):ClT:=
 (if(Az (Mi D n d (pth ps i) (pth ps k))).2.2=true then((i:Int),(k:Int),(Az (Mi D n d (pth ps i) (pth ps k))).1,(Az (Mi D n d (pth ps i) (pth ps k))).2.1)else(0,0,0,0),(Az (Mi D n d (pth ps i) (pth ps k))).2.2,Oo (pth ps i) (pth ps k))
def ClA(D n d:Int)(ps:List PT)(i:Nat):Prop:=∀j k,j<k->k<ps.length->j<i->Ho D n d (pth ps j) (pth ps k)=true
def ClB(D n d:Int)(ps:List PT)(i m:Nat):Prop:=∀k,i<k->k<m->Ho D n d (pth ps i) (pth ps k)=true
def ClR(D n d:Int)(ps:List PT)(r:ClT):Prop:=
 (r=((0,0,0,0),false,0)/\ClA D n d ps ps.length)\/∃i k,i<k/\k<ps.length/\ClA D n d ps i/\ClB D n d ps i k/\Ho D n d (pth ps i) (pth ps k)=false/\r=clV D n d ps i k
def clA_0{n:Int}{ps:List PT} : ClA D n d ps 0:=λj k _ _ h=>absurd h (bZ _)
def clB_0{n:Int}{ps:List PT} : ClB D n d ps i (i+1):=λk c e=>absurd c O1
def Ykl{n:Int}{ps:List PT}{k:Nat}(h:ClA D n d ps i)(c:ClB D n d ps i k)(hi:i<k)(f:k<ps.length)(e:Ho D n d (pth ps i) (pth ps k)=false):ClR D n d ps (clV D n d ps i k):= .inr ⟨i,k,hi,f,h,c,e,rfl⟩
theorem Zu5{n:Int}{ps:List PT}{r s:ClT}(h:ClR D n d ps r)(g:ClR D n d ps s):r=s:=by
 rcases h with⟨rfl,h⟩|⟨i,k,p,t,w,x,e,rfl⟩<;>rcases g with⟨rfl,g⟩|⟨j,m,o,q,u,v,c,rfl⟩
 .rfl
 .have:=h j m o q O1;rw [this]at c;cases c
 .have:=g i k p t O1;rw [this]at e;cases e
 .rcases iW i j with f|f|f
  .have:=u i k p t f;rw [this]at e;cases e
  .subst f;rcases iW k m with l|l|l
   .have:=v k p l;rw [this]at e;cases e
   .subst l;rfl
   .have:=x m o l;rw [this]at c;cases c
  .have:=w j m o q f;rw [this]at c;cases c
theorem ap_no{n:Int}(h:(Az (Mi D n d a b)).2.2=false)(c:Oo a b=0):Ho D n d a b=true:=by unfold Ho;rw [h,aJ c];rfl
theorem ap_is{n:Int}(h:(Az (Mi D n d a b)).2.2=true):Ho D n d a b=false:=by unfold Ho;rw [h];exact mE _
theorem ap_e{n:Int}(c:Oo a b≠0):Ho D n d a b=false:=by unfold Ho;rw [aE c];rfl
def Ze4{c:List PT}(h:Ze5 c=true){x:PT}(e:x∈c):Yc x.2=true:=cI.1 h x e
theorem Ylw{c:List PT}{x:PT}(e:x∈c)(h:Yc x.2=false):Ze5 c=false:=by
 cases hv:Ze5 c with
 | false=>rfl
 | true=>rw [Ze4 hv e]at h;cases h
theorem Yeo{c:List PT}(g:c.length<=m)(h:∀k,k<m->k<c.length->Yc (pth c k)=true):Ze5 c=true:=
 cI.2 λx f=>by obtain⟨k,e,rfl⟩:=cY.1 f;have:=h k O1 e;unfold pth at this;rwa [aC,aD e]at this
end Go.Sky
namespace Go.Sky
open Go.Proofs
variable{a b:List Zf}{p q x y z x2 y2 z2:List Int}{D ov ov2:Int}{zs:List GpT}{t:TypeId}{kd:IntKind}
def pPq:Enc Tryz.prog 38 1 Zlu:=Enc.flat Tryz.sizeOf38 Tryz.isAgg38 (λ_=>rfl)
@[reducible,instance] def encPqI:EncT Tryz.prog 38 1 Zlu:=⟨pPq⟩
def shCl:Tryz.prog.stoodInHeld 64=false:=O7
def egCl:Tryz.prog.eqGuardType Tryz.prog.depth 64=false:=O7
theorem inCl(m:Nat)(w:World)(a b c d:Int):(Op.equalIn (m+2) 64 (.agg #[.int .i64 a,.int .i64 b,.int .i64 c,.int .i64 d]) (.agg #[.int .i64 a,.int .i64 b,.int .i64 c,.int .i64 d])).run Tryz.prog w= .ok true w:=by
 have e:Tryz.prog.underlying 64=some (.struct (Tryz.prog.fieldsOf 64)):=by unfold Program.fieldsOf;rw [Tryz.underlying64]
 rw [run_equalIn_agg w (m+1) 64 _ _ e shCl];unfold Program.fieldsOf;rw [Tryz.underlying64];simp [Op.eqFields,part,Tryz.isAgg3,run_equalIn_int _ _ _ _ _ _ _ Tryz.underlying3]
theorem eqCl(w:World){a b c d:Int}:(binOp .eql 64 (.agg #[.int .i64 a,.int .i64 b,.int .i64 c,.int .i64 d]) (.agg #[.int .i64 a,.int .i64 b,.int .i64 c,.int .i64 d])).run Tryz.prog w= .ok (.bool true) w:=by rw [run_eql_struct,inCl];rfl
theorem Zek(h:Tr p):Zm p 1=p:=by
 unfold Zm;have:p.map (· * (1:Int))=p:=by rw [show(λx:Int=>x*1)=id from qA λx=>gD x,pO]
 rw [this,Ap h]
def dk_one{a b:Int} : dfK p q a b 1=dfP p q a b:=Zek (Qo _)
theorem Ymc{a b:Int} : sqK p q a b 1=sqP p q a b:=by unfold sqK sqP;rw [dk_one]
theorem ng_one(D ov ov2:Int):ngC [D,1,ov,ov2] 4=ngC [D,ov,ov2] 3:=by
 have c:ngC [D,1,ov,ov2] 1=ngC [D,ov,ov2] 1:=rfl;have t1:Tr (ngC [D,ov,ov2] 1):=(Zpv _ 1).2.2;have d:ngC [D,1,ov,ov2] 2=ngC [D,ov,ov2] 1:=by show Zm (Zm (ngC [D,1,ov,ov2] 1) 1) 1=_;rw [c,Zek t1,Zek t1]
 have e:ngC [D,1,ov,ov2] 3=ngC [D,ov,ov2] 2:=by show Zm (Zm (ngC [D,1,ov,ov2] 2) ov) ov=Zm (Zm (ngC [D,ov,ov2] 1) ov) ov;rw [d]
 show Zm (Zm (ngC [D,1,ov,ov2] 3) ov2) ov2=Zm (Zm (ngC [D,ov,ov2] 2) ov2) ov2;rw [e]
def fqS(ov ov2:Int)(x y z x2 y2 z2:List Int)(i:Nat):List Int:=sqP (Zo i x y z) (Zo i x2 y2 z2) ov ov2
def smS(D ov ov2:Int)(x y z x2 y2 z2:List Int)(i:Nat):List Int:=smP (ngC [D,ov,ov2] 3) (fqS ov ov2 x y z x2 y2 z2) i
def Yf2(i:Nat):Zo i (1:Int) 1 1=1:=Be (p:=λk:Int=>k=1) rfl rfl rfl
theorem fsZ(D ov ov2:Int)(x y z x2 y2 z2:List Int):fmZ D 1 1 ov ov2 x y z x2 y2 z2=Zx (smS D ov ov2 x y z x2 y2 z2 3):=by
 have c:fqZ 1 1 ov ov2 x y z x2 y2 z2=fqS ov ov2 x y z x2 y2 z2:=qA λi=>by unfold fqZ fqS;rw [Yf2,Ymc]
 unfold fmZ smZ smS cnZ;rw [c,ng_one]
def dsB(D:Int):Bool:=decide (0<=D) && decide (D<=4194304)
theorem ds_b(h:dsB D=true):0<=D/\D<=4194304:=by unfold dsB at h;rw [aO,cK,cK]at h;exact h
structure FsX (D ov ov2:Int) (x y z x2 y2 z2:List Int):Prop where
 X:∀i,FmX (Zo i x y z) (Zo i x2 y2 z2) ov ov2 1
 N:∀i,i<=3->NgX [D,ov,ov2] i
 Q:SmX (ngC [D,ov,ov2] 3) (fqS ov ov2 x y z x2 y2 z2)
theorem fsX{fr w d h:Int}(f:Sgo fr w ov x y z)(c:Sgo d h ov2 x2 y2 z2)(m:∀i,Ab KA (tzl (Zo i x y z)))(e:∀i,Ab KA (tzl (Zo i x2 y2 z2)))(o:dsB D=true):FsX D ov ov2 x y z x2 y2 z2:=by
 obtain⟨F,B⟩:=ds_b o;have r:=f.o1;have s:=f.o2;have u:=c.o1;have v:=c.o2;have g:∀i,FmX (Zo i x y z) (Zo i x2 y2 z2) ov ov2 1:=λi=>fmX (m i) (e i) (f.lc i).2 (c.lc i).2 ⟨r,s⟩ ⟨u,v⟩ ⟨O3,O3⟩;have n:∀i,([D,ov,ov2].getD i 0).natAbs<=4294967296:=λi=>by
  match i with
  | 0=>show D.natAbs<=_;omega
  | 1=>show ov.natAbs<=_;omega
  | 2=>show ov2.natAbs<=_;omega
  | i+3=>show(0:Int).natAbs<=_;decide
 refine⟨g,λi hi=>ngX n (aB hi O3),?_⟩;obtain⟨j,k,l⟩:=Zpv [D,ov,ov2] 3;refine smX (j.mono ?_) k l (λi=>(g i).ab8) (λi=>(g i).l8);show 1*D.natAbs*D.natAbs*ov.natAbs*ov.natAbs*ov2.natAbs*ov2.natAbs<=2^190;refine aB (bA (bA (bA (bA (bA (bA (aI 1) (show D.natAbs<=4194304 by omega)) (show D.natAbs<=4194304 by omega)) (show ov.natAbs<=4294967296 by omega)) (show ov.natAbs<=4294967296 by omega)) (show ov2.natAbs<=4294967296 by omega)) (show ov2.natAbs<=4294967296 by omega)) O6
theorem Yoo(h:FsX D ov ov2 x y z x2 y2 z2):Cvd (fmZ D 1 1 ov ov2 x y z x2 y2 z2):=by rw [fsZ];exact h.Q.d
theorem Yj7(i:∀g∈a,Gin g)(j:∀g∈b,Gin g)(c:Yc a=true)(d:Yc b=true)(I:dsB D=true){xs ys:List Zf}(o:xs.map Ns=Mx a b a)(s:ys.map Ns=Mx a b b):∀g∈Mi D 1 1 a b,Cvd g.2.2:=λg n=>by
 unfold Mi at n;obtain⟨k,F,e⟩:=cY.1 n;rw [List.getElem_zipWith]at e;subst e;rw [oK]at F;have f:k<(Mx a b a).length:=O1;have h:k<(Mx a b b).length:=O1;have M:(Mx a b a)[k]∈xs.map Ns:=by rw [o];exact gQ f
 have N:(Mx a b b)[k]∈ys.map Ns:=by rw [s];exact gQ h
 obtain⟨q,G,w⟩:=dH.1 M;obtain⟨r,H,B⟩:=dH.1 N;obtain⟨u,l⟩:=Zq6 i c o q G;obtain⟨v,m⟩:=Zq6 j d s r H;rw [<-w,<-B];simp only [gpZ,Ns];exact Yoo (fsX (Qv u l) (Qv v m) (Zg8 l) (Zg8 m) I)
theorem cvd_as(e:∀g∈a,Gin g)(f:∀g∈b,Gin g)(c:Yc a=true)(d:Yc b=true)(l:dsB D=true)(h:zs.map unP=Mi D 1 1 a b){k:Nat}(i:k<zs.length):Cvd (zs.getD k Gp0).2.2:=by
 have j:unP (zs.getD k Gp0)∈Mi D 1 1 a b:=by rw [<-h];exact dH.2 ⟨_,Ze i,rfl⟩
 exact Yj7 e f c d l (Zyc (Mx a b a)) (Zyc (Mx a b b)) _ j
section
variable {P:Program} {N:Nat} {sc:Nat->Prop} {env:Qy} {H:Hp}
theorem d_ix3i {o:Oper} {x y:Operand} {e:TypeId} {i:Nat}  {m d f g:Int} (n:o.op= .index t x y) (s:ev env x=some (.agg #[.int .i64 d,.int .i64 f,.int .i64 g])) (u:ev env y=some (.int kd m))
  (r:P.underlying t=some (.array 3 e)) (k:∀w,(sizeOf e).run P w= .ok 1 w) (j:∀w,(isAgg e).run P w= .ok false w) (c:m=(i:Int)) (l:i<3):Mt P N sc o env H (.int .i64 ([d,f,g].getD i 0)):=λa w hs=>by
 subst c;have h:i=0\/i=1\/i=2:=O1;rcases h with rfl|rfl|rfl<;>simp [execOp,n,hs.ev s,hs.ev u,Instr.index,asIntOf,run_underlying r,k,j,asAgg,part]
end
theorem df_sel{X Y Z:List Int}(i:Nat)(c:X=dfP x x2 ov ov2)(d:Y=dfP y y2 ov ov2)(e:Z=dfP z z2 ov ov2):Zo i X Y Z=dfP (Zo i x y z) (Zo i x2 y2 z2) ov ov2:=by subst c d e;unfold Zo;split<;>rfl
end Go.Sky
namespace Go.Sky
open Go.Proofs.Tryz
open Go.Proofs
set_option synthInstance.maxHeartbeats 0
set_option synthInstance.maxSize 100000
set_option maxRecDepth 20000
set_option linter.unusedSimpArgs false
variable{zd:Int}{d i:Nat}{vx vy vz vx2 vy2 vz2 va vb:Value}{x:Operand}{ops:Array Oper}{o:Oper}{rest:List Oper}{ops':List Operand}{tys:Array TypeId}{w0:World}{M:Nat->Prop}{Jx:World->Prop}{pre:List Pc}
theorem Zki:Xy prog 93 #[.int .i64 zd] [] (.bool (dsB zd)):=by
 refine Zg func93 ntmps93 λw0 e c a=>go 10 ?_;refine Xf 5 J (λb=>?_) (λb=>?_)
 .refine go 7 ?_;exact Xn a () results93 (by unfold dsB;first|(simp_all;done)|(simp_all;omega)) aA Za
 .refine go 7 ?_;exact Xn a () results93 (by unfold dsB;first|(simp_all;done)|(simp_all;omega)) aA Za
theorem Zkj{s t:Value}{c d:List Int}{fr B f k p b:Int}(e:FmX c d f b 1)(v:∀a∈c,Oc a)(h:c.length<=6)(w:∀a∈d,Oc a)(j:d.length<=6)(y:Oc f)(l:Oc b):Cal prog 161 #[s,t,.agg #[.int .i64 fr,.int .i64 B,.int .i64 f,vx,vy,vz],.agg #[.int .i64 k,.int .i64 p,.int .i64 b,vx2,vy2,vz2]] [Yw 1 Yq s c,Yw 1 Yq t d] true (G:=SL×List Int) (λg=>g.2=dfP c d f b) (λg=>Xx g.1) (λg=>[Yw 2 wv (Xx g.1) g.2]):=by refine Zg func161 ntmps161 λw0 H F m=>go 2 ?_;refine Yk (Ym 3) λD _=>Yk (Ym 4) λr _=>go 6 ?_;refine cl 5 [1] (Zfu v (aB h O3)) λ_ _=>?_;refine Xh (On 5 (q:=Yw 2 wv _ (tzl c)) (aL (Yw 2 wv _) (aH (Zoo h))) J J)<|go 10 ?_;refine cl 6 [2] (Zfu w (aB j O3)) λ_ _=>?_;refine Xh (On 6 (q:=Yw 2 wv _ (tzl d)) (aL (Yw 2 wv _) (aH (Zoo j))) J J)<|go 12 ?_;refine cl 6 [] (Zs b l) λ_ _=>cl 7 [5] (Kc b e.v1 e.b1 e.s1) λ_ _=>go 11 ?_;refine cl 7 [] (Zs f y) λ_ _=>cl 8 [6] (Kc f e.v2 e.a1 e.s2) λ_ _=>go 10 ?_;refine cl 9 [7,8] (Yg8 (Zm (tzl c) b) (Zm (tzl d) f) e.v3 e.v4 e.s3) λ_ _=>?_;refine Xh (On 9 (q:=Yw 2 wv _ (dfP c d f b)) (aL (Yw 2 wv _) J) J J)<|go 13 ?_;refine Zrv (Qp 9 J Zl) (λz n=>?_);subst n;generalize dfP c d f b=u;exact Xn m (z,u) results161 J J (Oi 9 Za)
theorem Zy1{fr S e s t b:Int}{x y z h j k:List Int}(l:Sgo fr S e x y z)(c:Sgo s t b h j k)(W:∀i,Ab KA (tzl (Zo i x y z)))(D:∀i,Ab KA (tzl (Zo i h j k)))(N:dsB zd=true):Cal prog 94 #[.agg #[.int .i64 fr,.int .i64 S,.int .i64 e,vx,vy,vz],.agg #[.int .i64 s,.int .i64 t,.int .i64 b,vx2,vy2,vz2],.int .i64 zd] [Yw 1 Yq vx x,Yw 1 Yq vy y,Yw 1 Yq vz z,Yw 1 Yq vx2 h,Yw 1 Yq vy2 j,Yw 1 Yq vz2 k] true (G:=SL×List Int) (λg=>g.2=fmZ zd 1 1 e b x y z h j k) (λg=>Xx g.1) (λg=>[Yw 2 wv (Xx g.1) g.2]):=by
 refine Zg func94 ntmps94 λw0 sc Z H=>?_;have n:=fsX l c W D N;refine go 2 ?_;refine Yk (Ym 7) λbx _=>Yk (Ym 8) λP _=>go 5 ?_;refine tt (Qs [(0,_)] 9 (enc:=Yq) ([-1]:List Int) J J K2 Pf ti3 J J J J J pZ.cells J J Z.h) (λv _=>?_);refine Xh (Qj 9 J J pZ)<|cl 10 [9] (Zfu (λa Y=>by rw [bN.1 Y];exact⟨O3,O3⟩)) λ_ _=>?_;refine Xh (On 10 (q:=Yw 2 wv _ [-1]) (aL (Yw 2 wv _) tzlm1) J J)<|go 15 ?_;refine dt (Qa [(0,_),(1,_),(2,_)] J K6 (λa w hs=>Yk6 ((Yi J) a w hs) ((Yi J) a w hs) ((Yi J) a w hs)))<|go 4 ?_;refine Zh (Qz 10 80 J J J)<|lp (G:=Nat×Value) [3,4,23] [0,1,2,3,4,5,6,7,8,9,10] (λq=>[(24,.int .i64 (q.1:Int)),(7,q.2)]) (λq=>[(80,Yw 2 wv q.2 (ngC [zd,e,b] q.1))]) (λq=>q.1<=3) (λq=>3-q.1) (0,_) O2 K2 K1 ?_;rintro⟨i,vs⟩ hi;dsimp only at hi;dsimp only;have f:=n.N i hi;refine go 6 ?_;refine Zc J (λu=>?_) (λu=>?_)
 .refine go 6 ?_;refine dt (d_ix3i (i:=i) J J J underlying165 Ly iA3 J O1)<|go 7 ?_;refine cl 10 [] (Zs ([zd,e,b].getD i 0) f.inn) λ_ _=>cl 11 [80] (Kc (xs:=(ngC [zd,e,b] i)) ([zd,e,b].getD i 0) f.v f.b f.s) λ_ _=>go 9 ?_;refine cl 11 [] (Zs ([zd,e,b].getD i 0) f.inn) λ_ _=>cl 12 [11] (Kc (xs:=(Zm (ngC [zd,e,b] i) ([zd,e,b].getD i 0))) ([zd,e,b].getD i 0) f.v2 f.b f.s2) λ_ _=>?_;refine go 11 ⟨O1,?_⟩;exact Zv (Qz 12 80 J J J)<|Yu (i+1,_) O2 O2 K2 K1
 .obtain rfl:i=3:=O1;refine go 7 ?_;refine Xu (λ_=>False) [(0,0),(1,0),(2,0),(3,0),(4,0),(5,0),(7,0),(8,0),(9,0),(10,0),(11,0),(12,0),(14,0),(15,0),(16,0),(17,0),(18,0),(19,0),(22,0),(6,1),(13,1),(20,1),(21,0)]<|go 19 ?_;refine Xe (Zj 13 [1,4] (Zkj (n.X 0) (l.hc 0) (l.lc 0).2 (c.hc 0) (c.lc 0).2 (Zn4 l) (Zn4 c))) λfq F=>Xe (Zj 14 [2,5] (Zkj (n.X 1) (l.hc 1) (l.lc 1).2 (c.hc 1) (c.lc 1).2 (Zn4 l) (Zn4 c))) λQ p=>Xe (Zj 15 [3,6] (Zkj (n.X 2) (l.hc 2) (l.lc 2).2 (c.hc 2) (c.lc 2).2 (Zn4 l) (Zn4 c))) λR r=>?_;refine Xg J J (Xd (Qa [(0,_),(1,_),(2,_)] J K6 (λa w hs=>Yk4 ((Ob 13 J Zl) a w hs) ((Ob 14 J Zl) a w hs) ((Ob 15 J Zl) a w hs))))<|go 3 ?_;refine lp (G:=Nat×Value) [63] [0,1,2,3,4,5,6,7,8,9,10,13,14,15] (λq=>[(64,.int .i64 (q.1:Int)),(7,q.2)]) (λq=>[(80,Yw 2 wv q.2 (smS zd e b x y z h j k q.1))]) (λq=>q.1<=3) (λq=>3-q.1) (0,_) O2 K2 K1 ?_;rintro⟨i,vs⟩ hi;dsimp only at hi;dsimp only;have m:=n.X i;refine go 6 ?_;refine Zc J (λB=>?_) (λB=>?_)
  .refine go 5 ?_;refine Zh (Zg9 i 13 14 15 90 J J J J J J)<|Zh (On 90 (q:=Yw 2 wv _ (dfP (Zo i x y z) (Zo i h j k) e b)) (aL (Yw 2 wv _) (df_sel i F p r)) J J)<|go 1 ?_;refine dt (Zob i J J J underlying210 sizeOf40 isAgg40 J)<|go 7 ?_;refine cl 16 [90,90] (Zta (dfP (Zo i x y z) (Zo i h j k) e b) (dfP (Zo i x y z) (Zo i h j k) e b) m.v5 m.v5 m.m5) λ_ _=>?_;refine Xh (On 16 (q:=Yw 2 wv _ (fqS e b x y z h j k i)) (aL (Yw 2 wv _) J) J J)<|go 9 ?_;refine cl 17 [80,16] (Yg9 (smS zd e b x y z h j k i) (fqS e b x y z h j k i) (n.Q.v i O1) m.v8 (n.Q.s i O1)) λ_ _=>?_;refine go 11 ⟨O1,?_⟩;exact Zv (Qz 17 80 J J J)<|Yu (i+1,_) O2 O2 K2 K1
  .obtain rfl:i=3:=O1;refine go 8 ?_;refine cl 18 [80] (Me (n.Q.v 3 (aI _))) λ_ _=>?_;refine Xh (On 18 (q:=Yw 2 wv _ (fmZ zd 1 1 e b x y z h j k)) (aL (Yw 2 wv _) (fsZ zd e b x y z h j k).symm) J J)<|go 13 ?_;refine Zrv (Qp 18 J Zl) (λsq I=>?_);subst I;generalize fmZ zd 1 1 e b x y z h j k=V;exact Xn H (sq,V) results94 J J (Oi 18 Za)
theorem Yms(fr u t c f e:Int)(x y z v w B:List Int)(zd:Int)(F:Oc fr)(P:Oc u)(I:Oc t)(S:∀a∈x,Oc a)(V:∀a∈y,Oc a)(W:∀a∈z,Oc a)(l:Oc c)(n:Oc f)(m:Oc e)(p:∀a∈v,Oc a)(q:∀a∈w,Oc a)(r:∀a∈B,Oc a)(j:Dq fr u t x y z=true)(k:Dq c f e v w B=true)(H:fr=c)(Q:u=f)(s:dsB zd=true):Cal prog 37 #[.agg #[.int .i64 fr,.int .i64 u,.int .i64 t,vx,vy,vz],.agg #[.int .i64 c,.int .i64 f,.int .i64 e,vx2,vy2,vz2],.int .i64 zd] [Yw 1 Yq vx x,Yw 1 Yq vy y,Yw 1 Yq vz z,Yw 1 Yq vx2 v,Yw 1 Yq vy2 w,Yw 1 Yq vz2 B] true (G:=SL×List Int) (λg=>g.2=fmZ zd 1 1 t e x y z v w B) (λg=> .tuple #[Xx g.1,.int .i64 0]) (λg=>[Yw 2 wv (Xx g.1) g.2]):=by refine Zg func37 ntmps37 λw0 sc hw N=>go 2 ?_;refine Yk (Ym 7) λY _=>Yk (Ym 8) λR _=>go 8 ?_;refine cl 8 [1,2,3] (Zb4 F P I S V W) λ_ _=>?_;refine dt (dF (Ye J J) (aL (λb=>Value.bool (!b)) j))<|go 2 ?_;refine Kf 8 [4,5,6] (Zb4 l n m p q r) λ_ _=>?_;refine Kl (dF (Ye J J) (aL (λb=>Value.bool (!b)) k)) J J<|go 6 ?_;refine kfg (aE (λh=>h H))<|go 6 ?_;refine kfg (aE (λh=>h Q))<|go 3 ?_;refine Kf 8 [] Zki λ_ _=>?_;refine Kl (dF (Ye J J) (aL (λb=>Value.bool (!b)) s)) J J<|go 11 ?_;refine cl 9 [1,2,3,4,5,6] (Zy1 (Sgo.of S V W j) (Sgo.of p q r k) (Zg8 j) (Zg8 k) s) λZ D=>go 5 ?_;exact Ma N _ results37 J D (Oi 9 Za)
theorem Zy0{e f:List Zf}(n:∀g∈e,Gin g)(p:∀g∈f,Gin g)(j:Yc e=true)(l:Yc f=true)(Q:e.length<=5)(R:f.length<=5)(S:dsB zd=true):Cal prog 95 #[va,vb,.int .i64 zd] [Xp 6 Xv qG va e,Xp 6 Xv qG vb f] true (G:=Value×List GpT) (λg=>g.2.map unP=Mi zd 1 1 e f) (λg=> .tuple #[g.1,.int .i64 (Oo e f)]) (λg=>[Xp 3 Cd qGp g.1 g.2]):=by
 refine Zg func95 ntmps95 λw0 sc V u=>go 10 ?_;refine cl 3 [1,2] (Ycn n p j l Q R) λb c=>go 16 ?_;refine Zc J (λh=>?_) (λh=>?_)
 .have I:=h;refine go 8 ?_;exact Zv (Zfh 72 3 Cd qGp)<|Ma u (.slice none 0 0,[]) results95 (by rw [Yiy I]) (Zw1 O1).symm (Oi 72 Za)
 .have I:=h;refine go 16 ?_;refine Zh (Pt 74 3 130 Cd)<|Zh (Xi qGp 76) ?_;have N:=Yo9 n p j l;have Z:b.1.2.length=(Mx e f e).length:=by rw [<-c.1,aP]
  have a0:b.2.2.length=(Mx e f f).length:=by rw [<-c.2,aP]
  refine lp (G:=Nat×Value×List GpT) [2,9,10,23,24] [0,1,2,3,4] (λq=>[(25,.int .i64 (q.1:Int)),(11,q.2.1)]) (λq=>[(74,Pz 3 130 Cd q.2.1 q.2.2),(76,Ib qGp q.2.2)]) (λq=>(q.1<=b.1.2.length)/\(q.2.2.map unP=(Mi zd 1 1 e f).take q.1)/\(q.2.2.length=q.1)) (λq=>b.1.2.length-q.1) (0,.slice none 0 0,[]) ⟨O2,(by rw [fB];rfl),rfl⟩ K2 K2 ?_;rintro⟨k,vq,W⟩ ⟨Y,r,y⟩;dsimp only at Y r y;dsimp only;refine go 6 ?_;refine Zc J (λH=>?_) (λH=>?_)
  .refine go 5 ?_;obtain⟨D,s⟩:=Zq6 n j c.1 _ (Ze (d:=G0) (show k<b.1.2.length by omega));refine Zh (Pp (b.1.2.getD k G0) ((b.1.2.getD k G0).2.1) 3 51 J J Ze O8)<|Zh (Pp (b.1.2.getD k G0) ((b.1.2.getD k G0).2.2.1) 3 52 J J Ze O8)<|Zh (Pp (b.1.2.getD k G0) ((b.1.2.getD k G0).2.2.2) 3 53 J J Ze O8)<|go 2 ?_;refine dt (Zq 3 k J J J J Zd Hs Fk J)<|dt (Xw 3 G0 J J J Zd pG)<|Yk (Zw 5) λbx _=>go 4 ?_;obtain⟨F,t⟩:=Zq6 p l c.2 _ (Ze (d:=G0) (show k<b.2.2.length by omega));refine Zh (Pp (b.2.2.getD k G0) ((b.2.2.getD k G0).2.1) 4 54 J J Ze O8)<|Zh (Pp (b.2.2.getD k G0) ((b.2.2.getD k G0).2.2.1) 4 55 J J Ze O8)<|Zh (Pp (b.2.2.getD k G0) ((b.2.2.getD k G0).2.2.2) 4 56 J J Ze O8)<|Lb [4,5] [15]<|Zt 0 [(0,0),(1,0),(2,0),(3,0),(4,0),(5,0),(6,0),(7,0),(8,0),(9,0),(10,0),(11,1),(12,0),(13,1),(14,1),(15,3)]<|go 8 ?_;refine Xg J J (Au (Zq 4 k J J J J Zd Hs Fk J) K2)<|Xg J J (Au (Xw 4 G0 J J J Zd pG) K2)<|go 1 ?_;refine Xe (Zj 84 [51,52,53,54,55,56] (Zy1 (Qv D s) (Qv F t) (Zg8 s) (Zg8 t) S)) λB P=>?_;refine Xg J J (Au (Qa [(0,_),(1,_),(2,_)] J K6 (λa w hs=>Zvd ((Yi J) a w hs) ((Yi J) a w hs) ((Yi J) a w hs))) K2)<|Dg J (Qs [(0,_)] 6 (enc:=Cd) [(gpY (b.1.2.getD k G0) B)] J J K2 Zon ti130 J J fillG J J pGp.cells J J V.h) (λv _=>?_);refine Dg J (Yez 74 J J J K2 (λm=>(Zyl 74 6 40 J J J J J J O3 J (Zy pGp) Zon ti130 J pGp J J J O9 O3 J V.h m))) λa1 _=>go 2 ?_;refine Yl<|go 6 ⟨O1,?_⟩;exact Zv (Yh (q:=qGp) (z:=(gpY (b.1.2.getD k G0) B)) 76 84 76 J J J J J)<|Yu (k+1,_,W ++ [(gpY (b.1.2.getD k G0) B)]) ⟨O2,Yoh c.1 c.2 r O1 O1 P,by rw [aW,y];rfl⟩ O2 K2 K2
  .obtain rfl:k=b.1.2.length:=O1;refine go 14 ?_;exact Zv (Qj 74 J J pGp)<|Zv (Ph 74 76 78 J J J J)<|Ma u (vq,W) results95 (by rw [gapE_n I]) (gp_all c.1 N.1 r) (Oi 78 Za)
theorem Zi7(a c:List Zf)(zd:Int)(h:∀g∈a,Gin g)(j:∀g∈c,Gin g)(e:Yc a=true)(f:Yc c=true)(m:a.length<=5)(n:c.length<=5)(k:dsB zd=true):Cal prog 40 #[va,vb,.int .i64 zd] [Xp 6 Xv qG va a,Xp 6 Xv qG vb c] true (G:=Value×List GpT) (λg=>g.2.map unP=Mi zd 1 1 a c) (λg=> .tuple #[g.1,.int .i64 (Oo a c)]) (λg=>[Xp 3 Cd qGp g.1 g.2]):=by refine Zg func40 ntmps40 λw0 s r p=>go 10 ?_;refine cl 2 [1] (Lr h) λ_ _=>?_;refine dt (dF (Ye J J) (aL (λb=>Value.bool (!b)) e))<|go 2 ?_;refine Kf 2 [2] (Lr j) λ_ _=>?_;refine Kl (dF (Ye J J) (aL (λb=>Value.bool (!b)) f)) J J<|go 3 ?_;refine Kf 2 [] Zki λ_ _=>?_;refine Kl (dF (Ye J J) (aL (λb=>Value.bool (!b)) k)) J J<|go 11 ?_;refine cl 3 [1,2] (Zy0 h j e f m n k) λq l=>go 7 ?_;exact Ma p _ results40 J l (Oi 3 Za)
open Go.RowKit Below
variable {P:Program} {N:Nat} {sc:Nat->Prop} {env env':Qy} {H H':Hp} {Q Q':Exit->Act->World->Prop}
def fctP(p:Prop):Pc:={ own:=false,fp:=λ_=>False,holds:=λ_=>p,lt:=λ_ _ _ h=>h.elim,stable:=λ_ _ h _=>h }
theorem wtd{j e:Nat}{b:Bool}(h:o.guard=some (j,b))(k:(ops[j]?).bind (·.dst)=some e)(g:lk env e=some (.bool b))(c:Nat.blt e N=true):∀a w,Sat N sc env H a w->Region.wanted o (yielded ops a.tmps)=true:=λa w hs=>by have f:=hs.yielded k g c;simp [Region.wanted,h,f]
theorem Mp{v:Value}(f:Mt P N sc o env H v)(e:∀a w,Sat N sc env H a w->Region.wanted o (yielded ops a.tmps)=true)(c:o.dst=some d)(b:Nat.blt d N=true)(h:LI P N sc ops rest Q ((d,v)::env) H):LI P N sc ops (o::rest) Q env H:=λa w hs=>by unfold wpListIn;rw [aK (e a w hs)];refine⟨λ_ _=>trivial,?_⟩;show o.uponIn Fence.wide 0 P a _ Q ((execOp a.eval o).run P w);rw [f a w hs];show wpListIn Fence.wide 0 P ops Q rest (a.put o.dst v) w;rw [c];exact h _ w (hs.put d v b)
theorem Zdi (vs:List Value)(pre:List Pc)    {l:Nat}     {W:World}  {J:Nat->World->Prop}  {α G:Type} {xs:List α} {ys:α->G->List Value} {D:α->G->List Pc} 
  {k:Nat} (y:α) (g:G) (hY:YJI P w0 l M J Jx xs ys D) (hy:xs[k]? = some y) (hJ:J k W) (hW:w0.heap.size<=W.heap.size) (m:∀p∈pre,∀b,p.fp b->b<w0.heap.size/\¬M b)
  (ho:o.op= .call { callee:= .value x,args:=ops'.toArray,argTypes:=tys }) (hg:∀a w,Sat N sc env H a w->Region.wanted o (yielded ops a.tmps)=true) (hd:o.dst=some d) (Z:Nat.blt d N=true) (hx:ev env x=some (.func (.yield l) #[] #[])) (r:EvL env ops' vs) (S:vs=ys y g)
  (h0:lk H 0=some (Yo W (λ_=>False))) (u:∀p∈D y g,p.own=false/\(∀b,p.fp b->W.heap.size<=b)/\∃i I,lk H i=some I/\∀w,I.holds w->p.holds w)
  (v:AllRo pre) (n:HSub (Yt 1 pre) H)
  (ht:∀c,J (k+1) c->w0.heap.size<=c.heap.size->LI P N sc ops rest Q ((d,.bool true)::env) ((0,Yo c (λ_=>False))::Yt 1 pre))
  (hf:∀c,Jx c->w0.heap.size<=c.heap.size->LI P N sc ops rest Q ((d,.bool false)::env) ((0,Yo c (λ_=>False))::Yt 1 pre)):LI P N sc ops (o::rest) Q env H:=λa w hs=>by
 subst S;have Y:=Iw (hs.hold 0 _ h0);obtain⟨fn,F,f,s,z,j⟩:=hY k y g hy W w hJ hW Y (λp hp=>by obtain⟨h1,h2,i,I,hi,hh⟩:=u p hp;exact⟨hh w (hs.hold i I hi),h1,h2⟩)
 have R:(o.semAt Fence.wide.round a.eval).run P w= .ok (.round l fn F f s) w:=by show(execOp a.eval o).run P w=_;have hm:=r.map hs;have V:=hs.ev hx;simp [execOp,ho,resolve,invoke,Deferred.ofValue,hm,V,z,Sem.run_bind]
 unfold wpListIn;rw [aK (hg a w hs)];refine⟨λ_ _=>trivial,?_⟩;rw [R];refine⟨λh=>(by cases h),j.mono ?_⟩;have B:w0.heap.size<=w.heap.size:=aB hW Y.size;rintro e c (⟨rfl,q,t⟩|⟨rfl,q,t⟩)
 .show wpListIn Fence.wide 0 P ops Q rest (a.put o.dst _) c;rw [hd];exact ht c q (aB B t.size) _ c ((hs.base m v n t).put d _ Z)
 .show wpListIn Fence.wide 0 P ops Q rest (a.put o.dst _) c;rw [hd];exact hf c q (aB B t.size) _ c ((hs.base m v n t).put d _ Z)
theorem Zjj{α:Type}{ps:List α}{p:α->Bool}{d:α}(hi:i<ps.length)(b:p (ps.getD i d)=true):(ps.filter p)[((ps.take i).filter p).length]? = some (ps.getD i d):=by
 have h:=fU i ps;have a:ps.drop i=ps.getD i d::ps.drop (i+1):=by rw [aC,aD hi,fG];exact dS hi
 conv=>lhs;arg 1;rw [<-h,a]
 rw [gC,eP b];simp
theorem Yal{α:Type}{ps:List α}{p:α->Bool}{d:α}(hi:i<ps.length)(a:p (ps.getD i d)=true):((ps.take (i+1)).filter p).length=((ps.take i).filter p).length+1:=by rw [Po d _ hi,gC,eP a,aW];rfl
theorem Yam{α:Type}{ps:List α}{p:α->Bool}{d:α}(hi:i<ps.length)(a:p (ps.getD i d)=false):((ps.take (i+1)).filter p).length=((ps.take i).filter p).length:=by rw [Po d _ hi,gC,gG (by rw [a];exact dJ),aW];rfl
theorem Zgd{φ:Prop}{n:Nat}{H:Hp}{k:Pc}(h:φ)(c:lk H 0=some k):∀p∈[fctP φ],p.own=false/\(∀b,p.fp b->n<=b)/\∃i a,lk H i=some a/\∀w,a.holds w->p.holds w:=λp f=>by rw [bN.1 f];exact⟨rfl,λb e=>e.elim,0,k,c,λ_ _=>h⟩
theorem fk_of{fn:Func}{al:Bool}{G:Type}{φ:G->Prop}{Yj:G->Value}{b:G->List Pc}(h:X N sc .ret (Zby P fn w0 pre al φ Yj b) env H):X N sc .ret (Zey P fn w0 pre al φ Yj b) env H:=λa w hs=>by obtain⟨e,v,f,c⟩:=h a w hs;show LeavesInM Fence.wide 0 P fn a.tmps _ a.defers .returning w;rw [e];exact⟨v,f,c⟩
end Go.Sky
namespace Go.Sky
open Go.Proofs.Tryz
open Go.Proofs
set_option synthInstance.maxHeartbeats 0
set_option synthInstance.maxSize 100000
set_option maxRecDepth 20000
set_option linter.unusedSimpArgs false
variable{D:Int}{a b:List Zf}{zs:List GpT}{Mf0 Mf:Nat->Prop}{body y:Code}{lbv:List Value}{pre:List Pc}{r id:Nat}{ops:List Oper}{c:Operand}{Hall:Hp}{Wb:World}
theorem Av(x y:Int)(g:Oc x)(h:Oc y)(e:y≠0):Xy prog 98 #[.int .i64 x,.int .i64 y] [] (.agg #[.bool (decide (Fq x y<0)),.string (Qe (Fq x y).natAbs),.bool (decide (Gv x y<0)),.string (Qe (Gv x y).natAbs)]):=by refine Zg func98 ntmps98 λl k j d=>go 2 ?_;refine Yk (Zw 1) λi _=>go 6 ?_;refine cl 1 [] (Zol x y g h e) λ_ _=>go 3 ?_;refine Yk (Zw 2) λf _=>go 11 ?_;exact Xn d () results98 J aA Za
theorem Zoy(v:Value)(zs:List GpT)(S:Nat)(H:∀z∈zs,Cvd z.2.2):Yec prog 162 [.pointer (some ⟨S,0,none⟩)] [Ka S 50 #[v],Xp 3 Cd qGp v zs] (α:=GpT) (G:=R2) (zs.filter (λz:GpT=>Ck z.2.2)) (λc g=>[.agg #[.int .i64 c.1.1,.int .i64 c.1.2,Xx c.2.1],.agg #[.bool (decide (g.1<0)),.string (Qe (g.1).natAbs),.bool (decide (g.2<0)),.string (Qe (g.2).natAbs)]]) (λc g=>[fctP (Fnd c.2.2 (qv (0,1)) (qv (1,1)) g)]):=by
 refine Zrg func162 J ntmps162 J K2 ?_;intro l M JI Jx w0 sc hw k o h F x;simp only [Qq,Yt];have I:=Hw.mk hw;refine Of (Ir (i:=2) J Zd) λa5=>go 8 ?_;refine lp (G:=Nat×World) [0,8,9] [1,2] (λq=>[(10,.int .i64 (q.1:Int))]) (λq=>[(0,Yo q.2 (λ_=>False))]) (λq=>(q.1<=zs.length)/\(JI ((zs.take q.1).filter (λz:GpT=>Ck z.2.2)).length q.2)/\(w0.heap.size<=q.2.heap.size)) (λq=>zs.length-q.1) (0,w0) ⟨O2,F,aI _⟩ K1 K1 ?_;rintro⟨i,W⟩ ⟨hi,n,p⟩;dsimp only at hi n p;dsimp only;have b4:=Yah I p;refine go 6 ?_;refine Zc J (λB=>?_) (λB=>?_)
 .refine go 5 ?_;refine Zh (Gd 2 55 (zs.getD i Gp0) J J Ze J) ?_;have j:=H (zs.getD i Gp0) Ze;refine go 1 ?_;refine dt (Zq 2 i J J J J Zd Zon sizeOf130 J)<|dt (Xw 2 Gp0 J J J Zd pGp)<|Yk (Zw 3) λbx _=>go 4 ?_;rcases tf (Ck (zs.getD i Gp0).2.2)with d|d
  .refine Lb [3] [12]<|Zt 11 [(0,0),(1,0)]<|go 3 ?_;refine Na 10 2 9 ?_ ?_
   .refine Lh (Zj 3 [] (Av 0 1 ⟨O3,O3⟩ ⟨O3,O3⟩ O3)) λ_ _=>?_;refine Na 9 3 9 ?_ ?_
    .refine Lh (Zj 3 [] (Av 1 1 ⟨O3,O3⟩ ⟨O3,O3⟩ O3)) λ_ _=>?_;refine Na 8 4 9 ?_ ?_
     .refine Lh (Zj 3 [55] (Fo (0,1) (1,1) j Zih Zig Zij d)) λ_ _=>?_;refine Zt 0 [(5,0),(6,0),(7,0),(8,0),(9,1),(10,1),(11,0),(12,3)]<|go 4 ?_;refine Xe (Lq 4) λV ho=>go 4 ?_;refine Yl<|go 21 ⟨O1,?_⟩;exact Yu (i+1,W) ⟨O2,by rw [Yam O1 d];exact n,p⟩ O2 K1 K1
     .refine Lh (Lq 5) λY a6=>?_;refine Zt 0 [(4,1),(5,0),(6,0),(7,0),(8,0),(10,1),(11,0),(12,3)]<|Xe (Zj 5 [55] (Fo (0,1) (1,1) j Zih Zig Zij d)) λ_ _=>go 8 ?_;refine Yl<|go 21 ⟨O1,?_⟩;exact Yu (i+1,W) ⟨O2,by rw [Yam O1 d];exact n,p⟩ O2 K1 K1
    .refine Lh (Lq 6) λZ a7=>?_;refine Zt 0 [(3,1),(4,1),(5,0),(6,0),(7,0),(8,0),(10,1),(11,0),(12,3)]<|Xe (Zj 6 [] (Av 1 1 ⟨O3,O3⟩ ⟨O3,O3⟩ O3)) λ_ _=>Xe (Zj 6 [55] (Fo (0,1) (1,1) j Zih Zig Zij d)) λ_ _=>go 8 ?_;refine Yl<|go 21 ⟨O1,?_⟩;exact Yu (i+1,W) ⟨O2,by rw [Yam O1 d];exact n,p⟩ O2 K1 K1
   .refine Lh (Lq 7) λa0 a8=>?_;refine Zt 0 [(2,1),(3,1),(4,1),(5,0),(6,0),(7,0),(8,0),(10,1),(11,0),(12,3)]<|Xe (Zj 7 [] (Av 0 1 ⟨O3,O3⟩ ⟨O3,O3⟩ O3)) λ_ _=>Xe (Zj 7 [] (Av 1 1 ⟨O3,O3⟩ ⟨O3,O3⟩ O3)) λ_ _=>Xe (Zj 7 [55] (Fo (0,1) (1,1) j Zih Zig Zij d)) λ_ _=>go 8 ?_;refine Yl<|go 21 ⟨O1,?_⟩;exact Yu (i+1,W) ⟨O2,by rw [Yam O1 d];exact n,p⟩ O2 K1 K1
  .refine Lb [3] [12]<|Zt 11 [(0,0),(1,0)]<|go 3 ?_;refine Na 10 2 9 ?_ ?_
   .refine Lh (Zj 7 [] (Av 0 1 ⟨O3,O3⟩ ⟨O3,O3⟩ O3)) λ_ _=>?_;refine Na 9 3 9 ?_ ?_
    .refine Lh (Zj 7 [] (Av 1 1 ⟨O3,O3⟩ ⟨O3,O3⟩ O3)) λ_ _=>?_;refine Na 8 4 9 ?_ ?_
     .refine Lh (Zj 7 [55] (Gm (0,1) (1,1) j Zih Zig Zij d)) λN s=>?_;refine Zt 0 [(5,0),(6,0),(7,0),(8,0),(9,1),(10,1),(11,0),(12,3)]<|go 4 ?_;refine Xe (Lq 8) λa1 a9=>go 4 ?_;refine Yl<|go 2 ?_;refine Ydt<|Mh (Zaa J J) J<|Mh (Zaa J J) J<|Mp (Zaa J J) (wtd J J J J) J J<|Mp (DI.h aA) (wtd J J J J) J J<|Mp (DI.h aA) (wtd J J J J) J J<|Zdi [_,_] [_,_] (zs.getD i Gp0) N x (Zjj O1 d) n p k J (wtd J J J J) J J J K2 J J (Zgd s J) K2 K2 (λm e f=>?_) (λm e f=>?_)
      .simp only [Yt];refine Mp (dF (Ye J J) J) (wtd J J J J) J J<|Mh (Cp J J J) J<|Ca<|go 9 ⟨O1,?_⟩;exact Yu (i+1,m) ⟨O2,by rw [Yal O1 d];exact e,f⟩ O2 K1 K1
      .simp only [Yt];refine Mp (dT (Ye J J) J) (wtd J J J J) J J<|Mh (Cp J J J) J<|Ca<|go 7 ?_;exact Zay (.inl J) J J o h (.inr e)
     .refine Lh (Lq 9) λa2 b0=>?_;refine Zt 0 [(4,1),(5,0),(6,0),(7,0),(8,0),(10,1),(11,0),(12,3)]<|Xe (Zj 9 [55] (Gm (0,1) (1,1) j Zih Zig Zij d)) λP t=>go 8 ?_;refine Yl<|go 2 ?_;refine Ydt<|Mh (Zaa J J) J<|Mh (Zaa J J) J<|Mp (Zaa J J) (wtd J J J J) J J<|Mp (DI.h aA) (wtd J J J J) J J<|Mp (DI.h aA) (wtd J J J J) J J<|Zdi [_,_] [_,_] (zs.getD i Gp0) P x (Zjj O1 d) n p k J (wtd J J J J) J J J K2 J J (Zgd t J) K2 K2 (λm e f=>?_) (λm e f=>?_)
      .simp only [Yt];refine Mp (dF (Ye J J) J) (wtd J J J J) J J<|Mh (Cp J J J) J<|Ca<|go 9 ⟨O1,?_⟩;exact Yu (i+1,m) ⟨O2,by rw [Yal O1 d];exact e,f⟩ O2 K1 K1
      .simp only [Yt];refine Mp (dT (Ye J J) J) (wtd J J J J) J J<|Mh (Cp J J J) J<|Ca<|go 7 ?_;exact Zay (.inl J) J J o h (.inr e)
    .refine Lh (Lq 10) λa3 b2=>?_;refine Zt 0 [(3,1),(4,1),(5,0),(6,0),(7,0),(8,0),(10,1),(11,0),(12,3)]<|Xe (Zj 10 [] (Av 1 1 ⟨O3,O3⟩ ⟨O3,O3⟩ O3)) λ_ _=>Xe (Zj 10 [55] (Gm (0,1) (1,1) j Zih Zig Zij d)) λQ u=>go 8 ?_;refine Yl<|go 2 ?_;refine Ydt<|Mh (Zaa J J) J<|Mh (Zaa J J) J<|Mp (Zaa J J) (wtd J J J J) J J<|Mp (DI.h aA) (wtd J J J J) J J<|Mp (DI.h aA) (wtd J J J J) J J<|Zdi [_,_] [_,_] (zs.getD i Gp0) Q x (Zjj O1 d) n p k J (wtd J J J J) J J J K2 J J (Zgd u J) K2 K2 (λm e f=>?_) (λm e f=>?_)
     .simp only [Yt];refine Mp (dF (Ye J J) J) (wtd J J J J) J J<|Mh (Cp J J J) J<|Ca<|go 9 ⟨O1,?_⟩;exact Yu (i+1,m) ⟨O2,by rw [Yal O1 d];exact e,f⟩ O2 K1 K1
     .simp only [Yt];refine Mp (dT (Ye J J) J) (wtd J J J J) J J<|Mh (Cp J J J) J<|Ca<|go 7 ?_;exact Zay (.inl J) J J o h (.inr e)
   .refine Lh (Lq 11) λa4 b3=>?_;refine Zt 0 [(2,1),(3,1),(4,1),(5,0),(6,0),(7,0),(8,0),(10,1),(11,0),(12,3)]<|Xe (Zj 11 [] (Av 0 1 ⟨O3,O3⟩ ⟨O3,O3⟩ O3)) λ_ _=>Xe (Zj 11 [] (Av 1 1 ⟨O3,O3⟩ ⟨O3,O3⟩ O3)) λ_ _=>Xe (Zj 11 [55] (Gm (0,1) (1,1) j Zih Zig Zij d)) λR w=>go 8 ?_;refine Yl<|go 2 ?_;refine Ydt<|Mh (Zaa J J) J<|Mh (Zaa J J) J<|Mp (Zaa J J) (wtd J J J J) J J<|Mp (DI.h aA) (wtd J J J J) J J<|Mp (DI.h aA) (wtd J J J J) J J<|Zdi [_,_] [_,_] (zs.getD i Gp0) R x (Zjj O1 d) n p k J (wtd J J J J) J J J K2 J J (Zgd w J) K2 K2 (λm e f=>?_) (λm e f=>?_)
    .simp only [Yt];refine Mp (dF (Ye J J) J) (wtd J J J J) J J<|Mh (Cp J J J) J<|Ca<|go 9 ⟨O1,?_⟩;exact Yu (i+1,m) ⟨O2,by rw [Yal O1 d];exact e,f⟩ O2 K1 K1
    .simp only [Yt];refine Mp (dT (Ye J J) J) (wtd J J J J) J J<|Mh (Cp J J J) J<|Ca<|go 7 ?_;exact Zay (.inl J) J J o h (.inr e)
 .obtain rfl:i=zs.length:=O1;rw [bO]at n;refine go 4 ?_;exact Zay (.inr J) J J o h (.inl n)
theorem Zq2(f:∀g∈a,Gin g)(i:∀g∈b,Gin g)(d:Yc a=true)(e:Yc b=true)(m:dsB D=true)(h:zs.map unP=Mi D 1 1 a b):∀z∈zs,Cvd z.2.2:=λz l=>by obtain⟨k,j,rfl⟩:=lL l;have:=cvd_as f i d e m h j;rwa [aC,aD j]at this
def nbF(z:GpT):Bool:=Ck z.2.2
theorem Ybw{n d:Int}(h:zs.map unP=Mi D n d a b)(e:¬Oo a b≠0)(f:(zs.filter λz=>Ck z.2.2).length=0):Ho D n d a b=true:=by
 refine ap_no ?_ (gL.1 e);rw [fst_no h λi hi=>?_];cases hn:Ck (zs.getD i Gp0).2.2 with
 | false=>rfl
 | true=>
  have:zs.getD i Gp0∈zs.filter λz=>Ck z.2.2:=fA.2 ⟨Ze hi,hn⟩;rw [aF f]at this;cases this
theorem Zmf{n d:Int}{k:Nat}{x:GpT}(h:zs.map unP=Mi D n d a b)(i:(zs.filter λz=>Ck z.2.2)[k]? = some x):Ho D n d a b=false:=by
 have f:=(fA.1 (eU i));refine ap_is ?_;cases hf:(Az (Mi D n d a b)).2.2 with
 | true=>rfl
 | false=>
  exfalso;have e:Zqg (Mi D n d a b)=none:=by
   cases he:Zqg (Mi D n d a b)with
   | none=>rfl
   | some g=>unfold Az at hf;rw [he]at hf;cases hf
  have:=kO.1 e (unP x) (by rw [<-h];exact dH.2 ⟨x,f.1,rfl⟩);exact this f.2
theorem Zv5{v:Value}:Cal prog 96 #[v] [Xp 3 Cd qGp v zs] true (G:=Nat) (λg=>True) (λg=> .func (.func 162) #[] #[.pointer (some ⟨g,0,none⟩)]) (λg=>[Ka g 50 #[v]]):=by refine Zg func96 ntmps96 λk i h d=>?_;refine Zhr (Qp 1 J Zd) (λj e=>?_);subst e;refine go 2 ?_;refine Yk (Ym 2) λf _=>go 5 ?_;refine dt (Zur [] [_] J aA K1)<|go 4 ?_;exact Zv (Zee 2 J J)<|Xn d _ results96 J aA (Oi 2 Za)
theorem Kp{V W:Value}(s t:List Zf)(I:Int)(F:∀g∈s,Gin g)(G:∀g∈t,Gin g)(z:Yc s=true)(B:Yc t=true)(N:s.length<=5)(P:t.length<=5)(H:dsB I=true):Xy prog 42 #[V,W,.int .i64 I] [Xp 6 Xv qG V s,Xp 6 Xv qG W t] (.tuple #[.bool (Ho I 1 1 s t),.int .i64 (Oo s t)]):=by
 refine Zjr func42 J ntmps42 J K2 ?_;intro u sc Q o;have Q:=Hw.mk Q;simp only [Qq,Yt];refine go 2 ?_;refine Yk (Zw 3) λf _=>Yk (Zw 4) λd _=>go 7 ?_;refine cl 5 [1,2] (Zi7 _ _ _ F G z B N P H) λj n=>go 14 ?_;refine Zc J (λm=>?_) (λm=>?_)
 .have v:=m;refine go 9 ?_;exact fk_of<|Ma o () results42 (by rw [ap_e v]) aA Za
 .have v:=m;refine go 6 ?_;refine cl 6 [5] Zv5 λb _=>go 3 ?_;refine Yau ([Ka b 50 #[j.1],Xp 3 Cd qGp j.1 j.2]) u (λ(_:Nat) (_:Unit)=>[(0,Yo u (λ_=>False)),(3,box f 4 #[.bool false]),(4,box d 26 #[.int .i64 0])]) (λk _=>k=0) (λ(_:Unit)=>[(0,Yo u (λ_=>False)),(3,box f 4 #[.bool false]),(4,box d 26 #[.int .i64 0])]) (λ_=>Ho I 1 1 s t=false) () J (by intro e w;first|exact enters_of func162 O7 rfl e w|exact call162 e w) (Zoy j.1 j.2 b (Zq2 F G z B H n)) ?_ (λ_ _=>J) J Q.h J J K3 (λ_ _=>⟨J,J⟩) (λ_=>⟨J,J⟩) (λk x gi j Z i l Mf Y=>?_) J (λj i D od=>?_) (λ_ R=>?_)
  .intro p S;simp only [bB,dL,iD]at S;rcases S with rfl|rfl
   .exact⟨J,6,J⟩
   .exact⟨J,5,J⟩
  .refine Zhq (env':=[(6,.pointer (some ⟨f,0,none⟩)),(7,.pointer (some ⟨d,0,none⟩))]) (H':=[(92,Yo Y Mf),(0,Yo u (λ_=>False)),(3,box f 4 #[.bool false]),(4,box d 26 #[.int .i64 0])]) (λa w hs=>hs.weaken ⟨J,J,aA⟩ ⟨J,J,J,J,aA⟩)<|Zqr λa w hs=>⟨J,[(6,.pointer (some ⟨f,0,none⟩)),(7,.pointer (some ⟨d,0,none⟩))],[(0,Yo u (λ_=>False)),(3,box f 4 #[.bool false]),(4,box d 26 #[.int .i64 0])],J,(λq h=>by cases h;rfl),⟨.inr (λb M=>⟨0,_,J,M⟩),.inl J,.inl J,aA⟩,hs.weaken ⟨J,J,aA⟩ ⟨J,J,J,J,aA⟩,λWb _=>?_⟩;refine Zcn<|Zqt J<|go 2 ?_;refine go 1 ?_;exact Ylp<|Zxa λa w hs=>Or.inr ⟨J,(),Zmf n Z,⟨.inr (λb M=>⟨0,_,J,M⟩),.inl J,.inl J,aA⟩,[],hs.weaken aA ⟨J,J,J,J,aA⟩⟩
  .refine go 2 ?_;refine go 1 ?_;refine Yb8 λa w hs=>⟨J,[(6,.pointer (some ⟨f,0,none⟩)),(7,.pointer (some ⟨d,0,none⟩))],[(0,Yo u (λ_=>False)),(3,box f 4 #[.bool true]),(4,box d 26 #[.int .i64 0])],J,⟨⟨_,J,J,λ_ h=>h⟩,⟨_,J,J,λ_ h=>h⟩,⟨_,J,J,λ_ h=>h⟩,aA⟩,hs.weaken ⟨J,J,aA⟩ ⟨J,J,J,J,aA⟩,?_⟩;exact Ma o () results42 (by rw [Ybw n v i,gL.1 v]) aA Za
  .exact Ma o () results42 (by rw [R,gL.1 v]) aA Za
open Go.RowKit Below
variable {P:Program} {N:Nat} {sc:Nat->Prop} {env env':Qy} {H H':Hp} {Q Q':Exit->Act->World->Prop}
theorem er_rfi {l0:Nat}  {c0:World} {g:Operand} {gf:Nat} {ps:List Nat} {assign:Code}   {α G:Type} {xs:List α} {ys:α->G->List Value} {B:α->G->List Pc} {w0:World}
  {GG GX:Type} (HH:Nat->GG->Hp) (b1:Nat->GG->Prop) (HX:GX->Hp) (b2:GX->Prop) (c1:GG) (f5:LpAt l0 Mf0 c0) (c2:lk H 92=some (Yo c0 Mf0))
  (hg:ev env g=some (.func (.func gf) #[] lbv.toArray)) (eg:∀args w,(callFunc gf args).run P w= .ok (.enter gf args) w) (hc:Yec P gf lbv pre xs ys B)
  (hp:∀p∈pre,p.own=false/\∃i,lk H i=some p) (g4:∀x F,(ys x F).length=ps.length) (g3:(ps.all λp=>Nat.blt p N)=true)
  (hw:∀b,w0.heap.size<=b->sc b) (h0:lk H 0=some (Yo w0 (λ_=>False)))
  (c9:b1 0 c1) (a5:HSub (HH 0 c1) H) (hk:∀k s,lk (HH k s) 0=some (Yo w0 (λ_=>False))/\lk (HH k s) 93=none) (g0:∀gx,lk (HX gx) 0=some (Yo w0 (λ_=>False))/\lk (HX gx) 93=none)
  (b5:∀k x F s,xs[k]? = some x->b1 k s->∀l Mf M a W,Sat N sc (renv ps (ys x F) env) ((93,Yo M Mf)::adds 100 (B x F) (HH k s)) a W->
   assign.wpIn (Fence.wide.inRound l) 0 P (RAn 93 P N sc l Mf (adds 100 (B x F) (HH k s)) body (HH (k+1)) (b1 (k+1)) HX b2 M) a W)
  (hD:∀s,b1 xs.length s->X N sc .normal Q env (HH xs.length s))
  (hX:∀gx,b2 gx->X N sc .ret Q env (HX gx)) :
  ER P N sc l0 (.rangeFunc g ps.toArray assign body) Q env H:=λa w hs=>by
 have a4:∀i p,lk H i=some p->∀b,p.fp b->b<w.heap.size:=λi p hi b n=>p.lt w b (hs.hold i p hi) n;have g7:w0.heap.size<=w.heap.size:=(hs.hold 0 _ h0).size;have e5:Chg Mf0 c0 w:=hs.hold 92 _ c2;obtain⟨⟨r0,e9⟩,e7⟩:=f5;have e8:w.heap[l0]? = some (.loop r0):=(e5.block _ (aZ.1 e9).1 e7).trans e9;refine wpIn_rangeFunc ?_;intro d6 f8;obtain⟨d,f⟩:∃d:LoopState->Option Code->Loop,d=λst pe=>{ state:=st,pending:=pe,fn:=d6,tmps:=a.tmps,params:=ps.toArray,assign,body,defers:=r0.defers }:=⟨_,rfl⟩;obtain⟨W1,b3⟩:∃W1,w.alloc (.loop (d .ready none))=W1:=⟨_,rfl⟩;have f6:W1.heap[w.heap.size]? = some (.loop (d .ready none)):=by rw [<-b3];exact World.alloc_heap_new w _
 have e2:Below w.heap.size w W1:=by rw [<-b3];exact(Below.refl _ w).alloc (aI _) _
 have h7:W1.heap.size=w.heap.size+1:=by rw [<-b3];simp
 have e0:(#[.func (.yield w.heap.size) #[] #[]] ++ lbv.toArray:Array Value)=(Value.func (.yield w.heap.size) #[] #[]::lbv).toArray:=O8;refine⟨w.heap.size,[],W1,{ target:= .fn (.func gf) lbv.toArray,args:=#[.func (.yield w.heap.size) #[] #[]] },W1,gf,
  (Value.func (.yield w.heap.size) #[] #[]::lbv).toArray,W1,?_,?_,λ_ _=>trivial,?_,λh=>(by cases h),?_⟩
 .rw [<-b3,f];exact run_enterLoop_inner e8 _ _ _ _ _
 .simp only [resolve,hs.ev hg];simp [go_sem]
 .simp [invoke,go_sem,eg]
 have b0:∀(I:Hp) (r:Loop),Zim λW=>W.heap[w.heap.size]? = some (.loop r)/\W1.heap.size<=W.heap.size/\Kps sc w (w.heap.size+1) (Mof (w.heap.size+1) H) I W:=λI r W W' ⟨h1,h3,h4⟩ hB=>
  ⟨(hB.block _ (aZ.1 h1).1).trans h1,aB h3 hB.size,h4.stays hB⟩
 have g2:¬Mof (w.heap.size+1) H w.heap.size:=λh=>by
  rcases h with⟨i,q,hq,_,hf⟩|h
  .have:=a4 i q hq _ hf;omega
  .omega
 have b4:∀(I:Hp) (W:World),Kps sc w (w.heap.size+1) (Mof (w.heap.size+1) H) I W->∀(o:Obj),Kps sc w (w.heap.size+1) (Mof (w.heap.size+1) H) I (W.putObj w.heap.size o):=λI W h o=>h.put a4 ⟨aI _,O1⟩;refine callsIn_wide.2 ((hc w.heap.size (λb=>(∃i q,lk H i=some q/\q.own=true/\q.fp b)\/b=w.heap.size)
  (λk W=>∃s,b1 k s/\(W.heap[w.heap.size]? = some (.loop (d .ready none))/\W1.heap.size<=W.heap.size/\Kps sc w (w.heap.size+1) (Mof (w.heap.size+1) H) (HH k s) W))
  (λW=>∃gx,b2 gx/\(W.heap[w.heap.size]? = some (.loop (d .done (some .ret)))/\W1.heap.size<=W.heap.size/\Kps sc w (w.heap.size+1) (Mof (w.heap.size+1) H) (HX gx) W)) W1
  ?_ ?_ ?_ ?_ ?_ ?_).mono ?_)
 .intro p u;obtain⟨ho,i,hi⟩:=hp p u;exact p.stable _ _ (hs.hold i p hi) (Chg.of_below e2)
 .rintro p u b n (⟨i,q,hq,d4,g5⟩|rfl)
  .obtain⟨ho,j,V⟩:=hp p u;exact hs.sep i j q p (λe=>by subst e;rw [hq]at V;cases V;rw [ho]at d4;cases d4) hq V d4 b g5 n
  .obtain⟨ho,j,V⟩:=hp p u;have:=a4 j p V _ n;omega
 .rintro k W W' ⟨s,c7,h⟩ hB;exact⟨s,c7,b0 _ _ W W' h hB⟩
 .rintro W W' ⟨gx,c7,h⟩ hB;exact⟨gx,c7,b0 _ _ W W' h hB⟩
 .refine⟨c1,c9,f6,aI _,λi it hi=>it.stable _ _ (hs.hold i it (a5.lk i it hi)) (Chg.of_below e2),λi j it jt d2 hi V=>hs.sep i j it jt d2 (a5.lk i it hi) (a5.lk j jt V),
   λi it c9 hi=>hs.scope i it c9 (a5.lk i it hi),λi it hi _ b n=> .inl (a4 i it (a5.lk i it hi) b n),λi it hi ho b n=> .inl ⟨i,it,a5.lk i it hi,ho,n⟩⟩
 .rintro k x F hx W M ⟨s,R,hl,f2,Y⟩ h8 hB S;have e6:M.heap[w.heap.size]? = some (.loop (d .ready none)):=(hB.block _ O1).trans hl;have hy:=run_yield (P:=P) (args:=(ys x F).toArray) e6 (by rw [f];simp [g4]);have a8:∀p∈B x F,∀b,p.fp b->w.heap.size+1<=b:=λp hp b n=>by have:=(S p hp).2.2 b n;omega
  have s1:Sat N sc env (HH k s) { tmps:=a.tmps,defers:=[] } M:=(Y.stays hB).sat hs.size rfl hs.env;have s2:Sat N sc env (adds 100 (B x F) (HH k s)) { tmps:=a.tmps,defers:=[] } M:=s1.adds (w1:=M) _ _ λp u=>⟨(S p u).1,(S p u).2.1,λb n=>hw b (by have:=a8 p u b n;omega),λj jt V ho b n a7=>by have h1:=(S p u).2.2 b n;have h2:=jt.lt W b (Y.hold j jt V) a7;omega⟩
  have b6:∀j q,lk (adds 100 (B x F) (HH k s)) j=some q->(q∈B x F)\/lk (HH k s) j=some q:=λj q h=>Zp1 _ _ _ j q h;have u:∀j q,lk (adds 100 (B x F) (HH k s)) j=some q->∀b,q.fp b->q.own=true->Mof (w.heap.size+1) H b:=λj q V b n ho=>by
   rcases b6 j q V with h|h
   .rw [(S q h).2.1]at ho;cases ho
   .exact Y.mf j q h ho b n
  have b9:∀j q,lk (adds 100 (B x F) (HH k s)) j=some q->∀b,q.fp b->q.own=false->b<w.heap.size\/w.heap.size+1<=b:=λj q V b n ho=>by
   rcases b6 j q V with h|h
   .exact .inr (a8 q h b n)
   .exact Y.off j q h ho b n
  have s3:=s2.rounds ps (ys x F) g3;have s4:Sat N sc (renv ps (ys x F) env) ((93,Yo M (Mfs sc (w.heap.size+1) H))::adds 100 (B x F) (HH k s)) _ M:=s3.add 93 (Yo M (Mfs sc (w.heap.size+1) H)) (Chg.refl _ _) (λj jt d2 V Kh b n a7=>by
   rcases Kh with h|h
   .cases h
   .exact n.2 (.inl (u j jt V b a7 h))) (λb n=>fT.1 λhn=>n.2 (.inr hn))
  have d1:¬Mfs sc (w.heap.size+1) H w.heap.size:=λh=>h.elim g2 (λhn=>hn (hw _ g7));rw [f]at hy;refine⟨d6,_,assign,body,hy,roundIn_of_wpIn f8 ?_⟩;have hr:=b5 k x F s hx R w.heap.size (Mfs sc (w.heap.size+1) H) M _ M s4;have e3:(ps.toArray.zip (ys x F).toArray).foldl (λt (p,v)=>t.setIfInBounds p v) a.tmps=(ps.zip (ys x F)).foldl (λt pv=>t.setIfInBounds pv.1 pv.2) a.tmps:=O8;have f0:w.heap.size+1<=M.heap.size:=by have:=hB.size;omega
  have f9:∀(I:Hp),lk I 0=some (Yo w0 (λ_=>False))/\lk I 93=none->∀q,lk I 0=some q->q.own=false:=λI h q hq=>by rw [h.1]at hq;cases hq;rfl
  rw [show(ps.toArray.zip (ys x F).toArray).foldl (λt (x:Nat×Value)=>t.setIfInBounds x.1 x.2) a.tmps=(ps.zip (ys x F)).foldl (λt pv=>t.setIfInBounds pv.1 pv.2) a.tmps from e3];refine wpIn_mono hr ?_;rintro e a1 W2 ⟨rfl,d5,H1,c2,d8,f3,Z,c6⟩;have a0:Chg (Mfs sc (w.heap.size+1) H) M W2:=Z.hold 93 _ (Yd _ _ _);have g1:W2.heap[w.heap.size]? = some (.loop (d .ready none)):=(a0.block _ O1 d1).trans e6;have p1:=Z.ps c2 O3 d8 f0 f3 u b9 a4;have h5:M.heap.size<=W2.heap.size:=a0.size;obtain⟨m,z⟩:∃m,W2.putObj w.heap.size (.loop { d .ready none with state:= .busy })=m:=⟨_,rfl⟩;have g9:Sat N sc d5 ((93,Yo m (Mfs sc (w.heap.size+1) H))::H1) a1 m:=by
   have p2:=b4 _ _ p1 (.loop { d .ready none with state:= .busy });rw [z]at p2;refine(p2.sat Z.size Z.defers Z.env).add 93 (Yo m (Mfs sc (w.heap.size+1) H)) (Chg.refl _ _) (λj jt d2 V Kh b n a7=>?_) (λb n=>fT.1 λhn=>n.2 (.inr hn));rcases Kh with h|h
   .cases h
   .exact n.2 (.inl (p2.mf j jt V h b a7))
  have g6:W2.heap.size=m.heap.size:=by rw [<-z];simp
  have b8:m.heap[w.heap.size]? = some (.loop { d .ready none with state:= .busy }):=by rw [<-z];exact World.putObj_heap_same O1
  refine⟨m,by rw [<-z];exact run_beginRound g1 (by rw [f]),wpIn_mono (c6 m ⟨⟨_,b8⟩,d1⟩ a1 m g9) ?_⟩;have b7:∀(I:Hp) (env':Qy) (a3:Act) (W3:World),(lk I 0=some (Yo w0 (λ_=>False))/\lk I 93=none)->FpM I (adds 100 (B x F) (HH k s))->Sat N sc env' ((93,Yo m (Mfs sc (w.heap.size+1) H))::I) a3 W3->∀(r:Loop),
    W3.heap[w.heap.size]? = some (.loop { d .ready none with state:= .busy })/\(((W3.putObj w.heap.size (.loop r)).heap[w.heap.size]? = some (.loop r)/\
     W1.heap.size<=(W3.putObj w.heap.size (.loop r)).heap.size/\Kps sc w (w.heap.size+1) (Mof (w.heap.size+1) H) I (W3.putObj w.heap.size (.loop r)))/\
     Chg (λb=>((∃i q,lk H i=some q/\q.own=true/\q.fp b)\/b=w.heap.size)\/W1.heap.size<=b) M (W3.putObj w.heap.size (.loop r))):=by
   intro I env' a3 W3 d0 f4 a6 r;have a2:Chg (Mfs sc (w.heap.size+1) H) m W3:=a6.hold 93 _ (Yd _ _ _);have a9:=(a2.block _ O1 d1).trans b8;have h6:=a2.size;have p3:=a6.ps d0.2 O3 (f9 I d0) O1 f4 u b9 a4;refine⟨a9,⟨World.putObj_heap_same O1,O9,b4 _ _ p3 _⟩,?_⟩;have k0:(Yo w0 (λ_=>False)).holds M:=Y.stays hB |>.hold 0 _ (hk k s).1;have k3:(Yo w0 (λ_=>False)).holds W3:=p3.hold 0 _ d0.1;refine⟨?_,?_,?_,O9,λb n hn=>?_⟩
   .exact a2.os.trans ((by rw [<-z];rfl:m.os=W2.os).trans a0.os)
   .exact a2.tape.trans ((by rw [<-z];rfl:m.tape=W2.tape).trans a0.tape)
   .exact a2.output.trans ((by rw [<-z];rfl:m.output=W2.output).trans a0.output)
   .have e4:b≠w.heap.size:=λe=>hn (.inl (.inr e));have f7:¬Mof (w.heap.size+1) H b:=λh=>by
     rcases h with h|h
     .exact hn (.inl (.inl h))
     .exact hn (.inr O1)
    refine(World.putObj_heap_other e4).trans ?_;by_cases f1:sc b
    .have d9:¬Mfs sc (w.heap.size+1) H b:=λh=>h.elim f7 (λh=>h f1);refine(a2.block b O1 d9).trans ?_;have:m.heap[b]? = W2.heap[b]?:=by rw [<-z];exact World.putObj_heap_other e4
     exact this.trans (a0.block b n d9)
    .have e1:b<w0.heap.size:=by
      rcases bC b w0.heap.size with h|h
      .exact h
      .exact absurd (hw b h) f1
     exact(k3.block b e1 (λh=>h)).trans (k0.block b e1 (λh=>h)).symm
  rintro e a3 W3 (⟨rfl,d7,c8,c4,env',a6⟩|⟨rfl,gx,c8,c4,env',a6⟩)
  .obtain⟨a9,c5,c3⟩:=b7 _ env' a3 W3 (hk (k+1) d7) c4 a6 (d .ready none);have:=run_endRound (P:=P) none a9;rw [show({ ({ d .ready none with state:= .busy } : Loop)with state:=if(none:Option Code).isNone then LoopState.ready else .done,pending:=none } : Loop)=d .ready none by rw [f];rfl]at this;exact⟨_,_,this,.inl ⟨rfl,⟨d7,c8,c5⟩,c3⟩⟩
  .obtain⟨a9,c5,c3⟩:=b7 _ env' a3 W3 (g0 gx) c4 a6 (d .done (some .ret));have:=run_endRound (P:=P) (some .ret) a9;rw [show({ ({ d .ready none with state:= .busy } : Loop)with state:=if(some Code.ret).isNone then LoopState.ready else .done,pending:=some .ret } : Loop)=d .done (some .ret) by rw [f];rfl]at this;exact⟨_,_,this,.inr ⟨rfl,⟨gx,c8,c5⟩,c3⟩⟩
 .rintro e W2 ⟨⟨v,rfl⟩,⟨s,R,hl,f2,d3⟩|⟨gx,R,hl,f2,d3⟩⟩
  .refine⟨none,_,by have:=run_endLoop (P:=P) hl (by rw [f];simp);rw [f]at this;exact this,?_⟩;have p3:=b4 _ _ d3 (.loop (d .exhausted none));rw [f]at p3;have s3:=p3.sat (a:=a) hs.size hs.defers hs.env;exact hD s R _ _ s3
  .refine⟨some .ret,_,by have:=run_endLoop (P:=P) hl (by rw [f];simp);rw [f]at this;exact this,wpIn_ret ?_⟩;have p3:=b4 _ _ d3 (.loop { d .done (some .ret)with state:= .exhausted });rw [f]at p3;exact hX gx R _ _ (p3.sat (a:=a) hs.size hs.defers hs.env)
theorem Zrr{ops:Array Oper}{r:Nat}(f:Zjd ops.toList):∀(d:Nat) (e:Array Bool) (a:Act) (w:World),wpAny P .any ops (Gg Q) d e a w->wpAnyIn (Fence.wide.inRound r) 0 P .any ops Q d e a w
 | 0,_,_,_,h=>h
 | d+1,e,a,w,h=>by
  refine⟨h.1,λi hi=>?_⟩;have g:=h.2 i hi;unfold wpOp at g;unfold wpOpIn;split
  .rename_i j;simp only [j]at g;exact Zrr f d _ a w g
  .rename_i o j;simp only [j]at g;split
   .rename_i k;simp only [k,lC]at g;exact Oper.wpIn_mono (λa w l=>Zrr f d _ a w l) (Zzr (f o (by rw [<-Array.getElem?_toList]at j;exact eU j)) (g.resolve_right λh=>Fw h.2))
   .rename_i k;simp only [k]at g;exact⟨λ_ _=>trivial,Zrr f d _ _ w g⟩
def Zjw(h:ER P N sc r y Q env H):X N sc .normal (Exit.then (λa w=>y.wpIn (Fence.wide.inRound r) 0 P Q a w) Q) env H:=λa w hs=>h a w hs
def Zvm(h:X N sc .normal Q env H):X N sc .normal (Gg Q) env H:=λa w hs=>h a w hs
def Zbj(d:ops.all ndB=true)(h:L P N sc ops.toArray ops (Gg Q) env H):ER P N sc r (.region id ops.toArray false) Q env H:=Zqs d h
def Yjf(h:X N sc .normal Q env H):ER P N sc r .skip Q env H:=Zqr h
def Yar(h:X N sc .ret Q env H):ER P N sc r .ret Q env H:=Zxa h
def Yor{x:Code}{p:Prop}[Decidable p](d:ev env c=some (.bool (decide p)))(f:p->ER P N sc r x Q env H)(e:¬p->ER P N sc r y Q env H):ER P N sc r (.cond c x y) Q env H:=
 Zug d (λh=>f (bH h)) (λh=>e (kP h))
def xq_rn{n:Nat}{g i:Type}{h:g->Hp}{d:g->Prop}{j:i->Hp}{e:i->Prop}(f:g)(hi:d f)(k:FpM (h f) Hall)(l:HSub ((n,Yo Wb Mf)::h f) H):X N sc .normal (RBn n N sc Mf Hall h d j e Wb) env H:=
 λa w hs=>Or.inl ⟨rfl,f,hi,k,[],hs.weaken aA l⟩
def x_rr{n:Nat}{i f:Type}{j:i->Hp}{h:i->Prop}{g:f->Hp}{d:f->Prop}(e:f)(hi:d e)(k:FpM (g e) Hall)(l:HSub ((n,Yo Wb Mf)::g e) H):X N sc .ret (RBn n N sc Mf Hall j h g d Wb) env H:=
 λa w hs=>Or.inr ⟨rfl,e,hi,k,[],hs.weaken aA l⟩
def x_ra {n l:Nat}    {h i:Type} {j:h->Hp} {g:h->Prop} {k:i->Hp} {e:i->Prop} {m:World} (d:Qy) (f:Hp) (u:Sub d env) (v:HSub ((n,Yo m Mf)::f) H) (p:lk f n=none) (o:∀q,lk f 0=some q->q.own=false) (s:FpM f Hall)
  (t:∀Wb,LpAt l Mf Wb->ER P N sc l body (RBn n N sc Mf Hall j g k e Wb) d ((n,Yo Wb Mf)::f)):X N sc .normal (RAn n P N sc l Mf Hall body j g k e m) env H:=
 λa w hs=>⟨rfl,d,f,p,o,s,hs.weaken u v,t⟩
theorem Yjg  {l:List Oper} (M:Nat->Prop) (ts:List Nat) (e:P.follows .mixedOrders=true) (d:l.all ndB=true)
  (h:A P N sc M l.toArray ts Q l.length (Array.replicate l.length false) env H):ER P N sc r (.region id l.toArray true) Q env H:=λa w hs=>by
 refine wpIn_region_any e (Zrr (Zhh d) _ _ _ _ (Za0 ts (C:=Chg M) _ _ _ _ ?_));simpa using h a _ hs.drew
theorem Yoq  {l:List Oper} (M:Nat->Prop) (d:List (Nat×Nat)) (o:P.follows .mixedOrders=true) (f:l.all ndB=true)
  (g:(Region.noSelect l.toArray && Nat.beq d.length l.length && Gz l.toArray (Bh d) d (Array.replicate l.length false) &&
   (Region.ready .any l.toArray (Ft d (Array.replicate l.length false))).isEmpty)=true)
  (h:LD P N sc M l.toArray (X N sc .normal Q) d env H):ER P N sc r (.region id l.toArray true) Q env H:=by
 simp only [aO]at g;obtain⟨⟨⟨i,e⟩,j⟩,k⟩:=g;have e:=dV e;refine Yjg M (Bh d) o f ?_;have:=LD.sound (n:=0) (Q:=Q) i d _ env H j h (λenv H m=>Yl m k);rw [<-e];rw [<-e]at this;simpa using this
end Go.Sky
namespace Go.Sky
open Go.RowKit Below
variable{i k:Nat}{x:Nat×Nat}{D:Int}{ls:List PT}{zs:List GpT}
section
variable {P:Program} {N:Nat} {sc:Nat->Prop} {env:Qy} {H:Hp}
end
abbrev wtM (z:GpT) (u:R2):R2:=(Fq (u.1*(z.1.2-z.1.1)) (u.2*1),Gv (u.1*(z.1.2-z.1.1)) (u.2*1))
abbrev wtT (z:GpT) (u:R2):R2:=(Fq ((wtM z u).1*1+z.1.1*(wtM z u).2) ((wtM z u).2*1),Gv ((wtM z u).1*1+z.1.1*(wtM z u).2) ((wtM z u).2*1))
abbrev wtV (g:R2×Int):Value:= .tuple #[.agg #[.bool (decide (g.1.1<0)),.string (Qe (g.1.1).natAbs),.bool (decide (g.1.2<0)),.string (Qe (g.1.2).natAbs)],.int .i64 g.2]
def WtP(D:Int)(a b:List Zf)(g:R2×Int):Prop:=
 (Oo a b≠0/\g=((0,0),Oo a b))\/(Oo a b=0/\Ho D 1 1 a b=true/\g=((0,0),9))\/
  (Oo a b=0/\Ho D 1 1 a b=false/\g.2=0/\∃z:GpT,unP z∈Mi D 1 1 a b/\∃u,Fnd z.2.2 (qv (0,1)) (qv (1,1)) u/\g.1=wtT z u)
def Zs5(n i:Nat):List (Nat×Nat):=(List.range (n-(i+1))).map λj=>(i,i+1+j)
def prU(n:Nat):Nat->List (Nat×Nat)
 | 0=>[]
 | i+1=>prU n i ++ Zs5 n i
abbrev prs (n:Nat):List (Nat×Nat):=prU n n
theorem prU_le{n m:Nat}(h:i<=m):∃r,prU n m=prU n i ++ r:=by
 obtain⟨d,rfl⟩:=Nat.exists_eq_add_of_le h;clear h
 induction d with
 | zero=>exact⟨[],(iP _).symm⟩
 | succ d b=>
  obtain⟨r,a⟩:=b;exact⟨r ++ Zs5 n (i+d),by rw [<-cS,<-a];rfl⟩
theorem pr_len{n:Nat} : (prU n (i+1)).length=(prU n i).length+(n-(i+1)):=by show(prU n i ++ Zs5 n i).length=_;rw [aW];unfold Zs5;rw [aP,pK]
theorem pr_at{n j:Nat}(hi:i<n)(a:j<n-(i+1)):(prs n)[(prU n i).length+j]? = some (i,i+1+j):=by obtain⟨r,b⟩:=prU_le (n:=n) (show i+1<=n from hi);unfold prs;rw [b,show prU n (i+1)=prU n i ++ Zs5 n i from rfl,cS,cP O1,nB,cM (by unfold Zs5;rw [aP,pK];exact a)];unfold Zs5;rw [dW,List.getElem?_range a];rfl
theorem Yg3 (n:Nat)(i:Nat)(k:Nat)(hi:i<n)(a:i+1<=k)(b:k<n):(prs n)[(prU n i).length+(k-(i+1))]? = some (i,k):=by rw [pr_at hi O1];congr 2;omega
theorem Zwf{n m:Nat}(h:(i,k)∈prU n m):i<m/\i<k/\k<n:=by
 induction m with
 | zero=>cases h
 | succ m c=>
  rcases cQ.1 h with h|h
  .obtain⟨d,a⟩:=c h;exact⟨O1,a⟩
  .obtain⟨j,b,e⟩:=dH.1 h;rw [fE]at b;cases e;exact⟨O1,O1,O1⟩
def lx(p q:Nat×Nat):Prop:=p.1<q.1\/(p.1=q.1/\p.2<q.2)
theorem pr_pw(n:Nat):∀m,(prU n m).Pairwise lx
 | 0=>List.Pairwise.nil
 | m+1=>by
  refine List.pairwise_append.2 ⟨pr_pw n m,?_,λp d q e=>?_⟩
  .unfold Zs5;rw [List.pairwise_map];exact(List.pairwise_lt_range).imp λ{a b} h=> .inr ⟨rfl,O1⟩
  .obtain⟨a,b⟩:=p;obtain⟨c,_⟩:=Zwf d;obtain⟨j,f,rfl⟩:=dH.1 e;exact .inl c
theorem Yg2 (y:Nat×Nat){n:Nat}(m:(prs n)[k]? = some x)(l:y.1<y.2/\y.2<n)(h:lx y x):∃j,j<k/\(prs n)[j]? = some y:=by
 obtain⟨a,b⟩:=y;dsimp only at l;have d:=Yg3 n a b O1 O1 l.2;refine⟨_,?_,d⟩;obtain⟨p,f⟩:=dP.1 m;obtain⟨o,e⟩:=dP.1 d;rcases iW ((prU n a).length+(b-(a+1))) k with c|c|c
 .exact c
 .exfalso;subst c;rw [f]at e;subst e;rcases h with h|h<;>omega
 .exfalso;have:=List.pairwise_iff_getElem.1 (pr_pw n n) k _ p o c;rw [f,e]at this;rcases h with h|h<;>rcases this with g|g<;>omega
def PrI(D:Int)(ls:List PT)(k:Nat):Prop:=∀j p,j<k->(prs ls.length)[j]? = some p->Ho D 1 1 (pth ls p.1) (pth ls p.2)=true
theorem prI_s(h:PrI D ls k)(e:(prs ls.length)[k]? = some x)(c:Ho D 1 1 (pth ls x.1) (pth ls x.2)=true):PrI D ls (k+1):=λj p d b=>by
 rcases bM.1 d with a|a
 .exact h j p a b
 .subst a;rw [e]at b;cases b;exact c
theorem prI_A(h:PrI D ls k)(g:(prs ls.length)[k]? = some x):ClA D 1 1 ls x.1/\ClB D 1 1 ls x.1 x.2/\x.1<x.2/\x.2<ls.length:=by
 obtain⟨-,l,m⟩:=Zwf (eU g);refine⟨λa b d e n=>?_,λb d e=>?_,l,m⟩
 .obtain⟨j,f,c⟩:=Yg2 (a,b) g ⟨d,e⟩ (.inl n);have:=h j (a,b) f c;exact this
 .obtain⟨j,f,c⟩:=Yg2 (x.1,b) g ⟨d,show b<ls.length by omega⟩ (.inr ⟨rfl,e⟩);have:=h j (x.1,b) f c;exact this
theorem Ynf(h:PrI D ls (prs ls.length).length):ClR D 1 1 ls ((0,0,0,0),false,0):= .inl ⟨rfl,λa b d e f=>by have c:=Yg3 ls.length a b f d e;have:=h _ (a,b) (dP.1 c).1 c;exact this⟩
theorem Yne(h:PrI D ls k)(g:(prs ls.length)[k]? = some x)(a:Oo (pth ls x.1) (pth ls x.2)≠0):ClR D 1 1 ls ((0,0,0,0),false,Oo (pth ls x.1) (pth ls x.2)):=by obtain⟨c,d,e,f⟩:=prI_A h g;have:=Ykl c d e f (ap_e a);have j:Mi D 1 1 (pth ls x.1) (pth ls x.2)=[]:=Zw1 λb=>a (by unfold Oo;rw [b];rfl);unfold clV at this;rw [j]at this;exact this
theorem Zw2{x:GpT}(a:(zs.filter λz=>Ck z.2.2)[0]? = some x):Az (zs.map unP)=(x.1.1,x.1.2,true):=by
 induction zs with
 | nil=>cases a
 | cons z zs b=>
  cases hn:Ck z.2.2 with
  | true=>
   rw [eP (by exact hn)]at a;have a:some z=some x:=a;obtain rfl:z=x:=Option.some.inj a;have e:Zqg ((z::zs).map unP)=some (unP z):=List.find?_cons_of_pos (by exact hn);unfold Az;rw [e];rfl
  | false=>
   rw [gG (by rw [hn];exact dJ)]at a;have e:Zqg ((z::zs).map unP)=Zqg (zs.map unP):=List.find?_cons_of_neg (by rw [show Ck (unP z).2.2=false from hn];exact dJ);have:=b a;unfold Az at this ⊢;rw [e];exact this
theorem Ynd{c:Nat}{y:GpT}(h:PrI D ls k)(m:(prs ls.length)[k]? = some x)(d:¬Oo (pth ls x.1) (pth ls x.2)≠0)(b:zs.map unP=Mi D 1 1 (pth ls x.1) (pth ls x.2))(l:c=0)(a:(zs.filter λz=>Ck z.2.2)[c]? = some y) :
  ClR D 1 1 ls (((x.1:Int),(x.2:Int),y.1.1,y.1.2),true,0):=by
 subst l;obtain⟨e,f,g,j⟩:=prI_A h m;have:=Ykl e f g j (Zmf b a);unfold clV at this;rw [<-b,Zw2 a,gL.1 d]at this;exact this
def vidx_t(hi:i<ls.length)(h:Yc (pth ls i)=false):Ze5 ls=false:=Ylw (x:=ls.getD i PT0) (Ze hi) h
end Go.Sky
namespace Go.Sky
variable{D d ov2:Int}{a b:List Zf}
def dfA(p q:List Int)(c ov2:Int)(t:Rat):Rat:=Zb p t*(ov2:Rat)-Zb q t*(c:Rat)
theorem Ym5(p q:List Int)(a b:Int)(t:Rat):Zb (dfP p q a b) t=dfA p q a b t:=by unfold dfP dfA;rw [Ygj,Gu,Gu,Ng,Ng];grind
theorem Zo2(p q:List Int)(a b k:Int)(t:Rat):Zb (sqK p q a b k) t=((k:Rat)*dfA p q a b t)*((k:Rat)*dfA p q a b t):=by unfold sqK dfK;rw [Yf,Gu,Ym5]
def fvE(D n d c ov2:Int)(x y z e f g:List Int)(t:Rat):Rat:=
 ((d:Rat)*dfA x e c ov2 t)*((d:Rat)*dfA x e c ov2 t)+((d:Rat)*dfA y f c ov2 t)*((d:Rat)*dfA y f c ov2 t)+((n:Rat)*dfA z g c ov2 t)*((n:Rat)*dfA z g c ov2 t)
  - ((D:Rat)*(d:Rat)*(c:Rat)*(ov2:Rat))*((D:Rat)*(d:Rat)*(c:Rat)*(ov2:Rat))
theorem Ym6(D d c ov2:Int)(t:Rat):Zb (cnZ D d c ov2) t=- (((D:Rat)*(d:Rat)*(c:Rat)*(ov2:Rat))*((D:Rat)*(d:Rat)*(c:Rat)*(ov2:Rat))):=by show Zb (Zm (Zm (Zm (Zm (Zm (Zm (Zm (Zm [-1] D) D) d) d) c) c) ov2) ov2) t=_;simp only [Gu];rw [show Zb [-1] t=(-1:Rat)from by show((-1:Int):Rat)+t*0=_;grind];grind
theorem Zzc(D n d c ov2:Int)(x y z e f g:List Int)(t:Rat):Zb (smZ D n d c ov2 x y z e f g 3) t=fvE D n d c ov2 x y z e f g t:=by show Zb (Ax (Ax (Ax (cnZ D d c ov2) (fqZ n d c ov2 x y z e f g 0)) (fqZ n d c ov2 x y z e f g 1)) (fqZ n d c ov2 x y z e f g 2)) t=_;rw [Zfl,Zfl,Zfl,Ym6];show _+Zb (sqK x e c ov2 d) t+Zb (sqK y f c ov2 d) t+Zb (sqK z g c ov2 n) t=_;rw [Zo2,Zo2,Zo2];unfold fvE;grind
def Yes(D n d c ov2:Int)(x y z e f g:List Int):Tr (smZ D n d c ov2 x y z e f g 3):=Qo _
theorem negZ{n f:Int}{x y z g i j:List Int}(h:Cvd (fmZ D n d f ov2 x y z g i j)):Ck (fmZ D n d f ov2 x y z g i j)=false↔∀t:Rat,0<=t->t<=1->0<=fvE D n d f ov2 x y z g i j t:=by
 have e:Ck (fmZ D n d f ov2 x y z g i j)=true↔Zx8 (fmZ D n d f ov2 x y z g i j) (qv (0,1)) (qv (1,1)):=Zpu h O3 O3 O6;have m:qv (0,1)=0:=O6;have o:qv (1,1)=1:=O6;rw [m,o]at e;rw [<-Bool.not_eq_true,e];constructor
 .intro q t k l;refine kD.1 λc=>q ⟨t,k,l,?_⟩;unfold fmZ;rw [Ztn (Yes ..),Zzc];exact c
 .rintro p ⟨t,k,l,c⟩;unfold fmZ at c;rw [Ztn (Yes ..),Zzc]at c;exact absurd (p t k l) (nJ.2 c)
theorem Yi2(D n d c ov2:Int)(x y z e f g:List Int)(t:Rat):fvE D n d c ov2 x y z e f g t=fvE D n d ov2 c e f g x y z t:=by unfold fvE dfA;grind
theorem sq_le{a b c:Rat}(f:0<=a)(h:a<=b):(a*c)*(a*c)<=(b*c)*(b*c):=by have e:=aM (show 0<=b-a by grind) (show 0<=b+a by grind);have g:=aM e (Yfg c);grind
theorem Yol{n e g:Int}(d:Int){f:Int}{x y z i j h:List Int}(t:Rat)(k:0<=e)(l:e<=D)(m:0<=n)(o:n<=g):fvE D n d f ov2 x y z i j h t<=fvE e g d f ov2 x y z i j h t:=by
 have p:(0:Rat)<=(e:Rat):=by exact_mod_cast k
 have q:(e:Rat)<=(D:Rat):=by exact_mod_cast l
 have r:(0:Rat)<=(n:Rat):=by exact_mod_cast m
 have s:(n:Rat)<=(g:Rat):=by exact_mod_cast o
 have u:=sq_le (c:=(d:Rat)*(f:Rat)*(ov2:Rat)) p q;have v:=sq_le (c:=dfA z h f ov2 t) r s;unfold fvE;grind
def fvU(D n d:Int)(g h:Zc0)(t:Rat):Rat:=fvE D n d g.1.2.2 h.1.2.2 g.2.1 g.2.2.1 g.2.2.2 h.2.1 h.2.2.1 h.2.2.2 t
theorem Yon(l:List GpU):(Az l).2.2=false↔∀g∈l,Ck g.2.2=false:=by
 constructor
 .intro h g c;cases he:Zqg l with
  | some q=>unfold Az at h;rw [he]at h;cases h
  | none=>
   have:=kO.1 he g c;cases hn:Ck g.2.2 with
   | false=>rfl
   | true=>exact absurd hn this
 .intro h;have:Zqg l=none:=kO.2 λg c=>by rw [h g c];exact dJ
  unfold Az;rw [this]
theorem Yed{α β γ:Type}(f:α->β->γ)(x:γ):∀(l:List α) (m:List β),x∈List.zipWith f l m↔∃g h,(g,h)∈l.zip m/\f g h=x
 | [],m=>O8
 | _::_,[]=>O8
 | a::l,b::m=>by
  rw [nK,bB,Yed f x l m,oU];constructor
  .rintro(rfl|⟨g,h,i,e⟩)
   .exact⟨a,b,.head _,rfl⟩
   .exact⟨g,h,.tail _ i,e⟩
  .rintro⟨g,h,i,e⟩;rcases bB.1 i with c|c
   .cases c;exact .inl e.symm
   .exact .inr ⟨g,h,c,e⟩
theorem Zvk{α β:Type}{g:α}{h:β} : ∀(l:List α) (m:List β),(g,h)∈l.zip m->(h,g)∈m.zip l
 | [],m,c=>by simp at c
 | _::_,[],c=>by simp at c
 | a::l,b::m,c=>by
  rw [oU]at c ⊢;rcases bB.1 c with e|e
  .cases e;exact .head _
  .exact .tail _ (Zvk l m e)
theorem ap_e2{n:Int} : Ho D n d a b=true↔Oo a b=0/\(Az (Mi D n d a b)).2.2=false:=by unfold Ho;rw [aO,cK,gJ]
theorem Zmk{n:Int}(f:∀g∈Mi D n d a b,Cvd g.2.2):Ho D n d a b=true↔Oo a b=0/\∀g h,(g,h)∈(Mx a b a).zip (Mx a b b)->∀t:Rat,0<=t->t<=1->0<=fvU D n d g h t:=by
 rw [ap_e2,Yon];have c:∀x,x∈Mi D n d a b↔∃g h,(g,h)∈(Mx a b a).zip (Mx a b b)/\gpZ D n d g h=x:=λx=>Yed _ x _ _;generalize (Mx a b a).zip (Mx a b b)=Z at c;generalize Mi D n d a b=L at c f;refine and_congr nI ⟨λh g q k=>?_,λh g l=>?_⟩
 .have j:gpZ D n d g q∈L:=(c _).2 ⟨g,q,k,rfl⟩;have i:=f _ j;have m:=h _ j;simp only [gpZ]at i m;exact(negZ i).1 m
 .obtain⟨p,q,k,e⟩:=(c g).1 l;have i:=f g l;rw [<-e]at i ⊢;simp only [gpZ]at i ⊢;exact(negZ i).2 (h p q k)
theorem Yb3{n f j:Int}(i:∀g∈Mi D n d a b,Cvd g.2.2)(c:∀g∈Mi f j d a b,Cvd g.2.2)(k:0<=f)(l:f<=D)(m:0<=n)(o:n<=j)(h:Ho D n d a b=true):Ho f j d a b=true:=by obtain⟨e,p⟩:=(Zmk i).1 h;exact(Zmk c).2 ⟨e,λg q r t t0 t1=>fH (p g q r t t0 t1) (Yol d t k l m o)⟩
theorem Ybo(a b:List Zf):Od a b=Od b a:=by refine Zqa (Bl _) (Bl _) λx=>?_;show x∈Zmr _↔x∈Zmr _;rw [Zcg,Zcg];have c:Fj a b=Fj b a:=Int.max_comm _ _;have e:Fi a b=Fi b a:=Int.min_comm _ _;unfold Zd8;simp only [c,e,bB,cQ];simp only [show(1:Nat)<=2 from by decide,show(2:Nat)<=2 from by decide,lC];grind
theorem Zoe(ts:List Int)(a b:List Zf):∀n,Kz ts a b n=Kz ts b a n
 | 0=>rfl
 | n+1=>by show(Kz ts a b n && (_ && _))=(Kz ts b a n && (_ && _));rw [Zoe ts a b n,Bool.and_comm (Qh _ _ a)]
theorem Zu0(a b:List Zf):Gc a b=Gc b a:=by unfold Gc Zq7;rw [Ybo a b,Zoe,show Fj a b=Fj b a from Int.max_comm _ _,show Fi a b=Fi b a from Int.min_comm _ _]
theorem Zux(a b ps:List Zf):Mx a b ps=Mx b a ps:=by unfold Mx;rw [Zu0,Ybo]
theorem Zgb(a b:List Zf):Oo a b=Oo b a:=by unfold Oo;rw [Zu0]
theorem ap_sym{n:Int}(e:∀g∈Mi D n d a b,Cvd g.2.2)(c:∀g∈Mi D n d b a,Cvd g.2.2):Ho D n d a b=Ho D n d b a:=by
 rw [lJ,Zmk e,Zmk c,Zgb a b,Zux a b a,Zux a b b];refine and_congr nI ⟨λh g r f t t0 t1=>?_,λh g r f t t0 t1=>?_⟩
 .have:=h r g (Zvk _ _ f) t t0 t1;unfold fvU at this ⊢;rw [Yi2];exact this
 .have:=h r g (Zvk _ _ f) t t0 t1;unfold fvU at this ⊢;rw [Yi2];exact this
end Go.Sky

