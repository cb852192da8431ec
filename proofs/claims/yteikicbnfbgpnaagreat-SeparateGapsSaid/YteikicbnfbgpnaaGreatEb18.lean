/- Rules, arithmetic and contracts: part 19. No conditions but those that each theorem names. -/
import Derived.Test.YteikicbnfbgpnaaGreatEb17
import Derived.MapKept
import Derived.RangeFuncNested
set_option linter.all false
set_option maxHeartbeats 4000000
namespace Go.Sky
open Go.Proofs.Tryz
open Go.Proofs
set_option synthInstance.maxHeartbeats 0
set_option synthInstance.maxSize 100000
set_option maxRecDepth 20000
set_option maxHeartbeats 1000000
set_option linter.unusedSimpArgs false
variable{a b:List Zj}{m i:Nat}{D d:Int}
def bdI:List GpU->Int
 | []=>-1
 | g::l=>if Cd g.2.2 then 0 else if bdI l<0 then -1 else bdI l+1
theorem com_e0{xs:List Zj}(f:¬Dj a b=9)(g:xs.map Gn=Mj a b a)(h:0<xs.length):Dj a b=0:=by
 rcases Zxp a b with c|c|c
 .exact absurd c f
 .exact c
 .have e:=congrArg List.length g;rw [Zrb O,List.length_map]at e;have:xs.length=0:=e;omega
theorem gp_eq{xs ys:List GpT}(h:xs.map unP=ys.map unP):xs.length=ys.length/\∀k,(xs.getD k Gp0).1.1=(ys.getD k Gp0).1.1/\(xs.getD k Gp0).1.2=(ys.getD k Gp0).1.2/\(xs.getD k Gp0).2.2=(ys.getD k Gp0).2.2:=by have e:=congrArg List.length h;rw [List.length_map,List.length_map]at e;refine⟨e,λk=>?_⟩;have:=congrArg (λl=>l.getD k (0,0,[])) h;rw [Zj1,Zj1]at this;unfold unP at this;injection this with h1 h2;injection h2 with h2 h3;exact⟨h1,h2,h3⟩
theorem Yis{ps:List Zj}(h:Zcx ps m=true):ps.length<=m:=by unfold Zcx at h;rw [Bool.and_eq_true]at h;exact of_decide_eq_true h.2
set_option maxHeartbeats 1000000 in
theorem Zte(v u:Value)(zs ys:List GpT)(j:zs.map unP=ys.map unP):Qf prog 31 #[v,u] [Xt 3 Gm qGp v zs,Xt 3 Gm qGp u ys] (.bool true):=by
 refine Zg func31 ntmps31 λp o k f=>?_;refine Pf (Ln (i:=1) J Zb) (λg=>?_);obtain⟨l,c⟩:=gp_eq j;refine go 12 ?_;refine kf (decide_eq_false O)<|go 12 ?_;refine lp (G:=Nat) [0,1] [0,1,2] (λi=>[(5,.int .i64 (i:Int))]) (λi=>[]) (λi=>i<=zs.length) (λi=>zs.length-i) 0 O1 K1 trivial ?_;rintro i hi;refine go 9 ?_;refine Zc J (λe=>?_) (λe=>?_)
 .refine go 5 ?_;refine Zf (La 1 55 (zs.getD i Gp0) J J (Ze) J)<|Zf (La 2 56 (ys.getD i Gp0) J J (Ze) J)<|Xz (λ_=>False) [(0,0),(1,0),(2,0),(3,0),(4,0),(5,0),(6,0),(7,0),(8,0),(9,0),(10,0),(11,0),(12,0),(13,0),(14,0),(15,0),(16,0),(17,0),(18,0),(19,0),(20,0),(21,0),(22,0),(23,0),(24,0),(25,0),(26,0),(27,0),(28,0),(29,0),(30,0),(31,0),(32,0),(33,0),(34,0),(35,1),(36,0),(37,0)]<|go 2 ?_;refine Xj J J (Xl (Zu (ii:=1) (i:=i) J J J J Zb Zir sizeOf130 J))<|Xj J J (Xl (Lh (ii:=1) J J J Zb Znb J Kg J))<|Xj J J (Xl (Lr (ii:=1) Gp0 J J J Zb Av J))<|go 2 ?_;refine Xj J J (Xl (Zu (ii:=2) (i:=i) J J J J Zb Zir sizeOf130 J))<|Xj J J (Xl (Lh (ii:=2) J J J Zb Znb J Kg J))<|Xj J J (Xl (Lr (ii:=2) Gp0 J J J Zb Av J))<|Xj J J (Xl (dF (Zl2 J J J) (vB (decide_eq_false (λh=>h (c i).1)))))<|go 3 ?_;refine Fr (Xl (Zu (ii:=1) (i:=i) J J J J Zb Zir sizeOf130 J)) J J J J J<|Fr (Xl (Lh (ii:=1) J J J Zb Znb J Kg J)) J J J J J<|Fr (Xl (Lr (ii:=1) Gp0 J J J Zb Av J)) J J J J J<|go 2 ?_;refine Fr (Xl (Zu (ii:=2) (i:=i) J J J J Zb Zir sizeOf130 J)) J J J J J<|Fr (Xl (Lh (ii:=2) J J J Zb Znb J Kg J)) J J J J J<|Fr (Xl (Lr (ii:=2) Gp0 J J J Zb Av J)) J J J J J<|Fr (Xl (dF (Zl2 J J J) (vB (decide_eq_false (λh=>h (c i).2.1))))) J J J J J<|go 4 ?_;refine Fr (Xl (Zu (ii:=1) (i:=i) J J J J Zb Zir sizeOf130 J)) J J J J J<|Fr (Xl (Lh (ii:=1) J J J Zb Znb J sizeOf40 J)) J J J J J<|Fr (Xl (Lr (ii:=1) Gp0 J J J Zb isAgg40 J)) J J J J J<|go 2 ?_;refine Fr (Xl (Zu (ii:=2) (i:=i) J J J J Zb Zir sizeOf130 J)) J J J J J<|Fr (Xl (Lh (ii:=2) J J J Zb Znb J sizeOf40 J)) J J J J J<|Fr (Xl (Lr (ii:=2) Gp0 J J J Zb isAgg40 J)) J J J J J<|Zep J J J J J (Qj (n:=2) (Znq _ _ _ _) J J J K2 call23 (Zl 55 J J J (Zl 56 J J J Zs)) J k.h) (λ_ _=>?_);refine Fr (Xl (dF (Yjk J J) (vB (decide_eq_false (λh=>h (c i).2.2))))) J J J J J<|go 12 ⟨O,?_⟩;exact Yq (i+1) O1 O1 K1 trivial
 .refine go 11 ?_;exact Xu f () results31 J trivial Za
open Go Go.MapKept
variable {P:Program} {N:Nat} {sc:Nat->Prop} {env env':Ph} {H H':Hp} {Q Q':Exit->Act->World->Prop} {M:Nat->Prop}
abbrev PT:=SL×List Zj
abbrev PT0:PT:=((none,0,0),[])
abbrev Zlx (x:PT):Value:=Xi x.1
abbrev qP (x:PT):Pc:=Xt 6 Qe qG (Xi x.1) x.2
def mpc(b:Nat)(c:Array MapEntry)(n:Nat):Pc:=
 {own:=true,fp:=λk=>k=b,holds:=λw=>w.heap[b]? = some (.map c n)
  lt:=λw k h f=>by subst f;exact(Array.getElem?_eq_some_iff.1 h).1
  stable:=λw j h e=>by rw [<-h];exact e.block b (Array.getElem?_eq_some_iff.1 h).1 (λg=>g rfl) }
def fewsB(m k:Nat)(c:List PT):Bool:=decide (c.length<=m) && c.all λx=>Zcx x.2 k
def Zfa(c:List PT):Bool:=c.all λx=>Xn x.2
abbrev ClT:=(Int×Int×Int×Int)×Bool×Int
abbrev clE (r:ClT):Value:= .tuple #[.agg #[.int .i64 r.1.1,.int .i64 r.1.2.1,.int .i64 r.1.2.2.1,.int .i64 r.1.2.2.2],.bool r.2.1,.int .i64 r.2.2]
def pth(ps:List PT)(i:Nat):List Zj:=(ps.getD i PT0).2
def clV(D n d:Int)(ps:List PT)(i k:Nat):ClT:=
 (if(Zaj (Nl D n d (pth ps i) (pth ps k))).2.2=true then((i:Int),(k:Int),(Zaj (Nl D n d (pth ps i) (pth ps k))).1,(Zaj (Nl D n d (pth ps i) (pth ps k))).2.1)else(0,0,0,0),(Zaj (Nl D n d (pth ps i) (pth ps k))).2.2,Ip (pth ps i) (pth ps k))
def ClA(D n d:Int)(ps:List PT)(i:Nat):Prop:=∀j k,j<k->k<ps.length->j<i->Ba D n d (pth ps j) (pth ps k)=true
def ClB(D n d:Int)(ps:List PT)(i m:Nat):Prop:=∀k,i<k->k<m->Ba D n d (pth ps i) (pth ps k)=true
def ClR(D n d:Int)(ps:List PT)(r:ClT):Prop:=
 (r=((0,0,0,0),false,0)/\ClA D n d ps ps.length)\/∃i k,i<k/\k<ps.length/\ClA D n d ps i/\ClB D n d ps i k/\Ba D n d (pth ps i) (pth ps k)=false/\r=clV D n d ps i k
def clA_0{n:Int}{ps:List PT} : ClA D n d ps 0:=λj k _ _ h=>absurd h (Nat.not_lt_zero _)
def clB_0{n:Int}{ps:List PT} : ClB D n d ps i (i+1):=λk c e=>absurd c O
def Yj7{n:Int}{ps:List PT}{k:Nat}(h:ClA D n d ps i)(c:ClB D n d ps i k)(hi:i<k)(f:k<ps.length)(e:Ba D n d (pth ps i) (pth ps k)=false):ClR D n d ps (clV D n d ps i k):= .inr ⟨i,k,hi,f,h,c,e,rfl⟩
theorem Zvk{n:Int}{ps:List PT}{r s:ClT}(h:ClR D n d ps r)(g:ClR D n d ps s):r=s:=by
 rcases h with⟨rfl,h⟩|⟨i,k,p,t,w,x,e,rfl⟩<;>rcases g with⟨rfl,g⟩|⟨j,m,o,q,u,v,c,rfl⟩
 .rfl
 .have:=h j m o q O;rw [this]at c;cases c
 .have:=g i k p t O;rw [this]at e;cases e
 .rcases Nat.lt_trichotomy i j with f|f|f
  .have:=u i k p t f;rw [this]at e;cases e
  .subst f;rcases Nat.lt_trichotomy k m with l|l|l
   .have:=v k p l;rw [this]at e;cases e
   .subst l;rfl
   .have:=x m o l;rw [this]at c;cases c
  .have:=w j m o q f;rw [this]at c;cases c
theorem ap_no{n:Int}(h:(Zaj (Nl D n d a b)).2.2=false)(c:Ip a b=0):Ba D n d a b=true:=by unfold Ba;rw [h,decide_eq_true c];rfl
theorem ap_is{n:Int}(h:(Zaj (Nl D n d a b)).2.2=true):Ba D n d a b=false:=by unfold Ba;rw [h];exact Bool.and_false _
theorem ap_e{n:Int}(c:Ip a b≠0):Ba D n d a b=false:=by unfold Ba;rw [decide_eq_false c];rfl
def Ze9{c:List PT}(h:Zfa c=true){x:PT}(e:x∈c):Xn x.2=true:=List.all_eq_true.1 h x e
theorem Ylm{c:List PT}{x:PT}(e:x∈c)(h:Xn x.2=false):Zfa c=false:=by
 cases hv:Zfa c with
 | false=>rfl
 | true=>rw [Ze9 hv e]at h;cases h
theorem Yd6{c:List PT}(g:c.length<=m)(h:∀k,k<m->k<c.length->Xn (pth c k)=true):Zfa c=true:=
 List.all_eq_true.2 λx f=>by obtain⟨k,e,rfl⟩:=List.mem_iff_getElem.1 f;have:=h k O e;unfold pth at this;rwa [List.getD_eq_getElem?_getD,List.getElem?_eq_getElem e]at this
end Go.Sky
namespace Go.Sky
open Go.Proofs
variable{p q x y z x2 y2 z2:List Int}{a b:List Zj}{D ov ov2:Int}{zs:List GpT}{t:TypeId}{kd:IntKind}
def pPq:Enc Tryz.prog 38 1 Zlx:=Enc.flat Tryz.sizeOf38 Tryz.isAgg38 (λ_=>rfl)
@[reducible,instance] def encPqI:EncT Tryz.prog 38 1 Zlx:=⟨pPq⟩
def shCl:Tryz.prog.stoodInHeld 64=false:=O5
def egCl:Tryz.prog.eqGuardType Tryz.prog.depth 64=false:=O5
theorem inCl(m:Nat)(w:World)(a b c d:Int):(Op.equalIn (m+2) 64 (.agg #[.int .i64 a,.int .i64 b,.int .i64 c,.int .i64 d]) (.agg #[.int .i64 a,.int .i64 b,.int .i64 c,.int .i64 d])).run Tryz.prog w= .ok true w:=by
 have e:Tryz.prog.underlying 64=some (.struct (Tryz.prog.fieldsOf 64)):=by unfold Program.fieldsOf;rw [Tryz.underlying64]
 rw [run_equalIn_agg w (m+1) 64 _ _ e shCl];unfold Program.fieldsOf;rw [Tryz.underlying64];simp [Op.eqFields,part,Tryz.isAgg3,run_equalIn_int _ _ _ _ _ _ _ Tryz.underlying3]
theorem eqCl(w:World)(a b c d:Int):(binOp .eql 64 (.agg #[.int .i64 a,.int .i64 b,.int .i64 c,.int .i64 d]) (.agg #[.int .i64 a,.int .i64 b,.int .i64 c,.int .i64 d])).run Tryz.prog w= .ok (.bool true) w:=by rw [run_eql_struct,inCl];rfl
theorem Bq(h:Tr p):Zm p 1=p:=by
 unfold Zm;have:p.map (· * (1:Int))=p:=by rw [show(λx:Int=>x*1)=id from funext λx=>Int.mul_one x,List.map_id]
 rw [this,Zab h]
def dk_one{a b:Int} : dfK p q a b 1=dfP p q a b:=Bq (Qc _)
theorem Yl5{a b:Int} : sqK p q a b 1=sqP p q a b:=by unfold sqK sqP;rw [dk_one]
theorem ng_one(D ov ov2:Int):ngC [D,1,ov,ov2] 4=ngC [D,ov,ov2] 3:=by
 have c:ngC [D,1,ov,ov2] 1=ngC [D,ov,ov2] 1:=rfl;have t1:Tr (ngC [D,ov,ov2] 1):=(Zpz _ 1).2.2;have d:ngC [D,1,ov,ov2] 2=ngC [D,ov,ov2] 1:=by show Zm (Zm (ngC [D,1,ov,ov2] 1) 1) 1=_;rw [c,Bq t1,Bq t1]
 have e:ngC [D,1,ov,ov2] 3=ngC [D,ov,ov2] 2:=by show Zm (Zm (ngC [D,1,ov,ov2] 2) ov) ov=Zm (Zm (ngC [D,ov,ov2] 1) ov) ov;rw [d]
 show Zm (Zm (ngC [D,1,ov,ov2] 3) ov2) ov2=Zm (Zm (ngC [D,ov,ov2] 2) ov2) ov2;rw [e]
def fqS(ov ov2:Int)(x y z x2 y2 z2:List Int)(i:Nat):List Int:=sqP (Zo i x y z) (Zo i x2 y2 z2) ov ov2
def smS(D ov ov2:Int)(x y z x2 y2 z2:List Int)(i:Nat):List Int:=smP (ngC [D,ov,ov2] 3) (fqS ov ov2 x y z x2 y2 z2) i
def Yfh(i:Nat):Zo i (1:Int) 1 1=1:=Dz (p:=λk:Int=>k=1) rfl rfl rfl
theorem fsZ(D ov ov2:Int)(x y z x2 y2 z2:List Int):fmZ D 1 1 ov ov2 x y z x2 y2 z2=Zz (smS D ov ov2 x y z x2 y2 z2 3):=by
 have c:fqZ 1 1 ov ov2 x y z x2 y2 z2=fqS ov ov2 x y z x2 y2 z2:=funext λi=>by unfold fqZ fqS;rw [Yfh,Yl5]
 unfold fmZ smZ smS cnZ;rw [c,ng_one]
def dsB(D:Int):Bool:=decide (0<=D) && decide (D<=4194304)
theorem ds_b(h:dsB D=true):0<=D/\D<=4194304:=by unfold dsB at h;rw [Bool.and_eq_true,decide_eq_true_eq,decide_eq_true_eq]at h;exact h
structure FsX (D ov ov2:Int) (x y z x2 y2 z2:List Int):Prop where
 X:∀i,FmX (Zo i x y z) (Zo i x2 y2 z2) ov ov2 1
 N:∀i,i<=3->NgX [D,ov,ov2] i
 Q:SmX (ngC [D,ov,ov2] 3) (fqS ov ov2 x y z x2 y2 z2)
theorem fsX{fr w d h:Int}(f:Sgo fr w ov x y z)(c:Sgo d h ov2 x2 y2 z2)(m:∀i,Ab KA (tzl (Zo i x y z)))(e:∀i,Ab KA (tzl (Zo i x2 y2 z2)))(o:dsB D=true):FsX D ov ov2 x y z x2 y2 z2:=by
 obtain⟨F,B⟩:=ds_b o;have r:=f.o1;have s:=f.o2;have u:=c.o1;have v:=c.o2;have g:∀i,FmX (Zo i x y z) (Zo i x2 y2 z2) ov ov2 1:=λi=>fmX (m i) (e i) (f.lc i).2 (c.lc i).2 ⟨r,s⟩ ⟨u,v⟩ ⟨O2,O2⟩;have n:∀i,([D,ov,ov2].getD i 0).natAbs<=4294967296:=λi=>by
  match i with
  | 0=>show D.natAbs<=_;omega
  | 1=>show ov.natAbs<=_;omega
  | 2=>show ov2.natAbs<=_;omega
  | i+3=>show(0:Int).natAbs<=_;decide
 refine⟨g,λi hi=>ngX n (Nat.le_trans hi O2),?_⟩;obtain⟨j,k,l⟩:=Zpz [D,ov,ov2] 3;refine smX (j.mono ?_) k l (λi=>(g i).ab8) (λi=>(g i).l8);show 1*D.natAbs*D.natAbs*ov.natAbs*ov.natAbs*ov2.natAbs*ov2.natAbs<=2^190;refine Nat.le_trans (Nat.mul_le_mul (Nat.mul_le_mul (Nat.mul_le_mul (Nat.mul_le_mul (Nat.mul_le_mul (Nat.mul_le_mul (Nat.le_refl 1) (show D.natAbs<=4194304 by omega)) (show D.natAbs<=4194304 by omega)) (show ov.natAbs<=4294967296 by omega)) (show ov.natAbs<=4294967296 by omega)) (show ov2.natAbs<=4294967296 by omega)) (show ov2.natAbs<=4294967296 by omega)) O6
theorem Yab(h:FsX D ov ov2 x y z x2 y2 z2):Cvd (fmZ D 1 1 ov ov2 x y z x2 y2 z2):=by rw [fsZ];exact h.Q.d
theorem Yjs(i:∀g∈a,Gin g)(j:∀g∈b,Gin g)(c:Xn a=true)(d:Xn b=true)(I:dsB D=true){xs ys:List Zj}(o:xs.map Gn=Mj a b a)(s:ys.map Gn=Mj a b b):∀g∈Nl D 1 1 a b,Cvd g.2.2:=λg n=>by
 unfold Nl at n;obtain⟨k,F,e⟩:=List.mem_iff_getElem.1 n;rw [List.getElem_zipWith]at e;subst e;rw [List.length_zipWith]at F;have f:k<(Mj a b a).length:=O;have h:k<(Mj a b b).length:=O;have M:(Mj a b a)[k]∈xs.map Gn:=by rw [o];exact List.getElem_mem f
 have N:(Mj a b b)[k]∈ys.map Gn:=by rw [s];exact List.getElem_mem h
 obtain⟨q,G,w⟩:=List.mem_map.1 M;obtain⟨r,H,B⟩:=List.mem_map.1 N;obtain⟨u,l⟩:=Ze1 i c o q G;obtain⟨v,m⟩:=Ze1 j d s r H;rw [<-w,<-B];simp only [gpZ,Gn];exact Yab (fsX (My u l) (My v m) (Zaf l) (Zaf m) I)
theorem cvd_as(e:∀g∈a,Gin g)(f:∀g∈b,Gin g)(c:Xn a=true)(d:Xn b=true)(l:dsB D=true)(h:zs.map unP=Nl D 1 1 a b){k:Nat}(i:k<zs.length):Cvd (zs.getD k Gp0).2.2:=by
 have j:unP (zs.getD k Gp0)∈Nl D 1 1 a b:=by rw [<-h];exact List.mem_map.2 ⟨_,Ze i,rfl⟩
 exact Yjs e f c d l (Zsb (Mj a b a)) (Zsb (Mj a b b)) _ j
section
variable {P:Program} {N:Nat} {sc:Nat->Prop} {env:Ph} {H:Hp}
theorem d_ix3i {o:Oper} {x y:Operand} {e:TypeId} {i:Nat}  {m d f g:Int} (n:o.op= .index t x y) (s:ev env x=some (.agg #[.int .i64 d,.int .i64 f,.int .i64 g])) (u:ev env y=some (.int kd m))
  (r:P.underlying t=some (.array 3 e)) (k:∀w,(sizeOf e).run P w= .ok 1 w) (j:∀w,(isAgg e).run P w= .ok false w) (c:m=(i:Int)) (l:i<3):Mo P N sc o env H (.int .i64 ([d,f,g].getD i 0)):=λa w hs=>by
 subst c;have h:i=0\/i=1\/i=2:=O;rcases h with rfl|rfl|rfl<;>simp [execOp,n,hs.ev s,hs.ev u,Instr.index,asIntOf,run_underlying r,k,j,asAgg,part]
end
theorem df_sel{X Y Z:List Int}(i:Nat)(c:X=dfP x x2 ov ov2)(d:Y=dfP y y2 ov ov2)(e:Z=dfP z z2 ov ov2):Zo i X Y Z=dfP (Zo i x y z) (Zo i x2 y2 z2) ov ov2:=by subst c d e;unfold Zo;split<;>rfl
end Go.Sky
namespace Go.Sky
open Go.Proofs.Tryz
open Go.Proofs
set_option synthInstance.maxHeartbeats 0
set_option synthInstance.maxSize 100000
set_option maxRecDepth 20000
set_option maxHeartbeats 1000000
set_option linter.unusedSimpArgs false
variable{ops:Array Oper}{o:Oper}{rest:List Oper}{d i:Nat}{x:Operand}{ops':List Operand}{tys:Array TypeId}{vs:List Value}{w0:World}{M:Nat->Prop}{Jx:World->Prop}{pre:List Pc}
theorem Zfm(c:Int):Qf prog 93 #[.int .i64 c] [] (.bool (dsB c)):=by
 refine Zg func93 ntmps93 λw0 f e a=>go 10 ?_;refine Xg (d:=5) J (λb=>?_) (λb=>?_)
 .refine go 7 ?_;exact Xu a () results93 (by unfold dsB;first|(simp_all;done)|(simp_all;omega)) trivial Za
 .refine go 7 ?_;exact Xu a () results93 (by unfold dsB;first|(simp_all;done)|(simp_all;omega)) trivial Za
set_option maxHeartbeats 1000000 in
theorem Zki(v w:Value)(c d:List Int)(fr H f k p b:Int)(I N P r s t:Value)(e:FmX c d f b 1)(z:∀a∈c,Ng a)(h:c.length<=6)(B:∀a∈d,Ng a)(j:d.length<=6)(D:Ng f)(l:Ng b):Cal prog 161 #[v,w,.agg #[.int .i64 fr,.int .i64 H,.int .i64 f,I,N,P],.agg #[.int .i64 k,.int .i64 p,.int .i64 b,r,s,t]] [Ys 1 Yg v c,Ys 1 Yg w d] true (G:=SL×List Int) (λg=>g.2=dfP c d f b) (λg=>Xi g.1) (λg=>[Ys 2 wv (Xi g.1) g.2]):=by refine Zg func161 ntmps161 λw0 S R m=>go 2 ?_;refine Yk (Yt 3) λQ _=>Yk (Yt 4) λu _=>go 6 ?_;refine cl 5 [1] (Zfw _ _ z (Nat.le_trans h O2)) λ_ _=>?_;refine Yx (Ox 5 (q:=Ys 2 wv _ (tzl c)) (congrArg (Ys 2 wv _) (if_neg (Zom h))) J J)<|go 10 ?_;refine cl 6 [2] (Zfw _ _ B (Nat.le_trans j O2)) λ_ _=>?_;refine Yx (Ox 6 (q:=Ys 2 wv _ (tzl d)) (congrArg (Ys 2 wv _) (if_neg (Zom j))) J J)<|go 12 ?_;refine cl 6 [] (Zw b l) λ_ _=>cl 7 [5] (Ko _ _ b e.v1 e.b1 e.s1) λ_ _=>go 11 ?_;refine cl 7 [] (Zw f D) λ_ _=>cl 8 [6] (Ko _ _ f e.v2 e.a1 e.s2) λ_ _=>go 10 ?_;refine cl 9 [7,8] (Ygq _ _ (Zm (tzl c) b) (Zm (tzl d) f) e.v3 e.v4 e.s3) λ_ _=>?_;refine Yx (Ox 9 (q:=Ys 2 wv _ (dfP c d f b)) (congrArg (Ys 2 wv _) J) J J)<|go 13 ?_;refine Zr1 (Xy 9 J Zn) (λF n=>?_);subst n;generalize dfP c d f b=y;exact Xu m (F,y) results161 J J (Ob 9 Za)
set_option maxHeartbeats 1000000 in
theorem Zyx(fr Z e t u b:Int)(vx vy vz B D F:Value)(x y z j k l:List Int)(h:Int)(m:Sgo fr Z e x y z)(c:Sgo t u b j k l)(hA:∀i,Ab KA (tzl (Zo i x y z)))(N:∀i,Ab KA (tzl (Zo i j k l)))(S:dsB h=true):Cal prog 94 #[.agg #[.int .i64 fr,.int .i64 Z,.int .i64 e,vx,vy,vz],.agg #[.int .i64 t,.int .i64 u,.int .i64 b,B,D,F],.int .i64 h] [Ys 1 Yg vx x,Ys 1 Yg vy y,Ys 1 Yg vz z,Ys 1 Yg B j,Ys 1 Yg D k,Ys 1 Yg F l] true (G:=SL×List Int) (λg=>g.2=fmZ h 1 1 e b x y z j k l) (λg=>Xi g.1) (λg=>[Ys 2 wv (Xi g.1) g.2]):=by
 refine Zg func94 ntmps94 λw0 sc hw Q=>?_;have p:=fsX m c hA N S;refine go 2 ?_;refine Yk (Yt 7) λbx _=>Yk (Yt 8) λV _=>go 5 ?_;refine tt (Qb (i:=9) (ivs:=[(0,_)]) (enc:=Yg) ([-1]:List Int) J J K2 Pe ti3 J J J J J pZ.cells J J hw.h) (λv _=>?_);refine Yx (Xs 9 J J pZ)<|cl 10 [9] (Zfw _ _ (λa ha=>by rw [List.mem_singleton.1 ha];exact⟨O2,O2⟩)) λ_ _=>?_;refine Yx (Ox 10 (q:=Ys 2 wv _ [-1]) (congrArg (Ys 2 wv _) tzlm1) J J)<|go 15 ?_;refine dt (Qq (ivs:=[(0,_),(1,_),(2,_)]) J K6 (λa w hs=>Yku ((Yf J) a w hs) ((Yf J) a w hs) ((Yf J) a w hs)))<|go 4 ?_;refine Zf (Qy 10 80 J J J)<|lp (G:=Nat×Value) [3,4,23] [0,1,2,3,4,5,6,7,8,9,10] (λq=>[(24,.int .i64 (q.1:Int)),(7,q.2)]) (λq=>[(80,Ys 2 wv q.2 (ngC [h,e,b] q.1))]) (λq=>q.1<=3) (λq=>3-q.1) (0,_) O1 K2 K1 ?_;rintro⟨i,vs⟩ hi;dsimp only at hi;dsimp only;have f:=p.N i hi;refine go 6 ?_;refine Zc J (λH=>?_) (λH=>?_)
 .refine go 6 ?_;refine dt (d_ix3i (i:=i) J J J underlying165 Kg Av J O)<|go 7 ?_;refine cl 10 [] (Zw ([h,e,b].getD i 0) f.inn) λ_ _=>cl 11 [80] (Ko _ (ngC [h,e,b] i) ([h,e,b].getD i 0) f.v f.b f.s) λ_ _=>go 9 ?_;refine cl 11 [] (Zw ([h,e,b].getD i 0) f.inn) λ_ _=>cl 12 [11] (Ko _ (Zm (ngC [h,e,b] i) ([h,e,b].getD i 0)) ([h,e,b].getD i 0) f.v2 f.b f.s2) λ_ _=>?_;refine go 11 ⟨O,?_⟩;exact Zv (Qy 12 80 J J J)<|Yq (i+1,_) O1 O1 K2 K1
 .obtain rfl:i=3:=O;refine go 7 ?_;refine Xz (λ_=>False) [(0,0),(1,0),(2,0),(3,0),(4,0),(5,0),(7,0),(8,0),(9,0),(10,0),(11,0),(12,0),(14,0),(15,0),(16,0),(17,0),(18,0),(19,0),(22,0),(6,1),(13,1),(20,1),(21,0)]<|go 19 ?_;refine Yr (Zi 13 [1,4] (Zki _ _ _ _ _ _ _ _ _ _ _ _ _ _ _ _ (p.X 0) (m.hc 0) (m.lc 0).2 (c.hc 0) (c.lc 0).2 (Zn4 m) (Zn4 c))) λfq P=>Yr (Zi 14 [2,5] (Zki _ _ _ _ _ _ _ _ _ _ _ _ _ _ _ _ (p.X 1) (m.hc 1) (m.lc 1).2 (c.hc 1) (c.lc 1).2 (Zn4 m) (Zn4 c))) λW r=>Yr (Zi 15 [3,6] (Zki _ _ _ _ _ _ _ _ _ _ _ _ _ _ _ _ (p.X 2) (m.hc 2) (m.lc 2).2 (c.hc 2) (c.lc 2).2 (Zn4 m) (Zn4 c))) λY s=>?_;refine Xj J J (Xl (Qq (ivs:=[(0,_),(1,_),(2,_)]) J K6 (λa w hs=>Yks ((Oj (i:=13) J Zn) a w hs) ((Oj (i:=14) J Zn) a w hs) ((Oj (i:=15) J Zn) a w hs))))<|go 3 ?_;refine lp (G:=Nat×Value) [63] [0,1,2,3,4,5,6,7,8,9,10,13,14,15] (λq=>[(64,.int .i64 (q.1:Int)),(7,q.2)]) (λq=>[(80,Ys 2 wv q.2 (smS h e b x y z j k l q.1))]) (λq=>q.1<=3) (λq=>3-q.1) (0,_) O1 K2 K1 ?_;rintro⟨i,vs⟩ hi;dsimp only at hi;dsimp only;have n:=p.X i;refine go 6 ?_;refine Zc J (λI=>?_) (λI=>?_)
  .refine go 5 ?_;refine Zf (Zhe i 13 14 15 90 J J J J J J)<|Zf (Ox 90 (q:=Ys 2 wv _ (dfP (Zo i x y z) (Zo i j k l) e b)) (congrArg (Ys 2 wv _) (df_sel i P r s)) J J)<|go 1 ?_;refine dt (Zoa (i:=i) J J J underlying210 sizeOf40 isAgg40 J)<|go 7 ?_;refine cl 16 [90,90] (Ztp _ _ (dfP (Zo i x y z) (Zo i j k l) e b) (dfP (Zo i x y z) (Zo i j k l) e b) n.v5 n.v5 n.m5) λ_ _=>?_;refine Yx (Ox 16 (q:=Ys 2 wv _ (fqS e b x y z j k l i)) (congrArg (Ys 2 wv _) J) J J)<|go 9 ?_;refine cl 17 [80,16] (Ygr _ _ (smS h e b x y z j k l i) (fqS e b x y z j k l i) (p.Q.v i O) n.v8 (p.Q.s i O)) λ_ _=>?_;refine go 11 ⟨O,?_⟩;exact Zv (Qy 17 80 J J J)<|Yq (i+1,_) O1 O1 K2 K1
  .obtain rfl:i=3:=O;refine go 8 ?_;refine cl 18 [80] (Mg _ _ (p.Q.v 3 (Nat.le_refl _))) λ_ _=>?_;refine Yx (Ox 18 (q:=Ys 2 wv _ (fmZ h 1 1 e b x y z j k l)) (congrArg (Ys 2 wv _) (fsZ h e b x y z j k l).symm) J J)<|go 13 ?_;refine Zr1 (Xy 18 J Zn) (λsq R=>?_);subst R;generalize fmZ h 1 1 e b x y z j k l=X9;exact Xu Q (sq,X9) results94 J J (Ob 18 Za)
set_option maxHeartbeats 1000000 in
theorem Yml(fr B w c f e:Int)(vx vy vz t u v:Value)(x y z D F H:List Int)(W:Int)(N:Ng fr)(S:Ng B)(Q:Ng w)(Z:∀a∈x,Ng a)(hy:∀a∈y,Ng a)(hz:∀a∈z,Ng a)(l:Ng c)(n:Ng f)(m:Ng e)(p:∀a∈D,Ng a)(q:∀a∈F,Ng a)(r:∀a∈H,Ng a)(j:Ci fr B w x y z=true)(k:Ci c f e D F H=true)(P:fr=c)(V:B=f)(s:dsB W=true):Cal prog 37 #[.agg #[.int .i64 fr,.int .i64 B,.int .i64 w,vx,vy,vz],.agg #[.int .i64 c,.int .i64 f,.int .i64 e,t,u,v],.int .i64 W] [Ys 1 Yg vx x,Ys 1 Yg vy y,Ys 1 Yg vz z,Ys 1 Yg t D,Ys 1 Yg u F,Ys 1 Yg v H] true (G:=SL×List Int) (λg=>g.2=fmZ W 1 1 w e x y z D F H) (λg=> .tuple #[Xi g.1,.int .i64 0]) (λg=>[Ys 2 wv (Xi g.1) g.2]):=by refine Zg func37 ntmps37 λw0 sc hw R=>go 2 ?_;refine Yk (Yt 7) λbx _=>Yk (Yt 8) λY _=>go 8 ?_;refine cl 8 [1,2,3] (Zcf _ _ _ _ _ _ _ _ _ N S Q Z hy hz) λ_ _=>?_;refine dt (dF (Yw J J) (congrArg (λb=>Value.bool (!b)) j))<|go 2 ?_;refine Es 8 [4,5,6] (Zcf _ _ _ _ _ _ _ _ _ l n m p q r) λ_ _=>?_;refine Fq (dF (Yw J J) (congrArg (λb=>Value.bool (!b)) k)) J J<|go 6 ?_;refine kfg (decide_eq_false (λh=>h P))<|go 6 ?_;refine kfg (decide_eq_false (λh=>h V))<|go 3 ?_;refine Es 8 [] (Zfm _) λ_ _=>?_;refine Fq (dF (Yw J J) (congrArg (λb=>Value.bool (!b)) s)) J J<|go 11 ?_;refine cl 9 [1,2,3,4,5,6] (Zyx _ _ _ _ _ _ _ _ _ _ _ _ _ _ _ _ _ _ _ (Sgo.of Z hy hz j) (Sgo.of p q r k) (Zaf j) (Zaf k) s) λfq I=>go 5 ?_;exact Nr R _ results37 J I (Ob 9 Za)
set_option maxHeartbeats 1000000 in
theorem Zyw(va vb:Value)(e f:List Zj)(F:Int)(r:∀g∈e,Gin g)(s:∀g∈f,Gin g)(l:Xn e=true)(m:Xn f=true)(V:e.length<=5)(W:f.length<=5)(Y:dsB F=true):Cal prog 95 #[va,vb,.int .i64 F] [Xt 6 Qe qG va e,Xt 6 Qe qG vb f] true (G:=Value×List GpT) (λg=>g.2.map unP=Nl F 1 1 e f) (λg=> .tuple #[g.1,.int .i64 (Ip e f)]) (λg=>[Xt 3 Gm qGp g.1 g.2]):=by
 refine Zg func95 ntmps95 λw0 sc Z B=>go 10 ?_;refine cl 3 [1,2] (Yb6 _ _ _ _ r s l m V W) λb c=>go 16 ?_;refine Zc J (λh=>?_) (λh=>?_)
 .have Q:=h;refine go 8 ?_;exact Zv (Dm 72 3 Gm qGp)<|Nr B (.slice none 0 0,[]) results95 (by rw [Yih Q]) (Zw5 O).symm (Ob 72 Za)
 .have Q:=h;refine go 16 ?_;refine Zf (Qx 74 3 130 Gm)<|Zf (Yn qGp 76) ?_;have R:=Ya1 r s l m;have a0:b.1.2.length=(Mj e f e).length:=by rw [<-c.1,List.length_map]
  have a1:b.2.2.length=(Mj e f f).length:=by rw [<-c.2,List.length_map]
  refine lp (G:=Nat×Value×List GpT) [2,9,10,23,24] [0,1,2,3,4] (λq=>[(25,.int .i64 (q.1:Int)),(11,q.2.1)]) (λq=>[(74,Oe 3 130 Gm q.2.1 q.2.2),(76,Lg qGp q.2.2)]) (λq=>(q.1<=b.1.2.length)/\(q.2.2.map unP=(Nl F 1 1 e f).take q.1)/\(q.2.2.length=q.1)) (λq=>b.1.2.length-q.1) (0,.slice none 0 0,[]) ⟨O1,(by rw [List.take_zero];rfl),rfl⟩ K2 K2 ?_;rintro⟨k,vq,zs⟩ ⟨hk,t,D⟩;dsimp only at hk t D;dsimp only;refine go 6 ?_;refine Zc J (λP=>?_) (λP=>?_)
  .refine go 5 ?_;obtain⟨I,u⟩:=Ze1 r l c.1 _ (Ze (d:=G0) (show k<b.1.2.length by omega));refine Zf (Qw (g:=(b.1.2.getD k G0)) (z:=(b.1.2.getD k G0).2.1) 3 51 J J (Ze) O7)<|Zf (Qw (g:=(b.1.2.getD k G0)) (z:=(b.1.2.getD k G0).2.2.1) 3 52 J J (Ze) O7)<|Zf (Qw (g:=(b.1.2.getD k G0)) (z:=(b.1.2.getD k G0).2.2.2) 3 53 J J (Ze) O7)<|go 2 ?_;refine dt (Zu (ii:=3) (i:=k) J J J J Zb Lf Ig J)<|dt (Xf (ii:=3) G0 J J J Zb pG)<|Yk (Zy 5) λbx _=>go 4 ?_;obtain⟨N,y⟩:=Ze1 s m c.2 _ (Ze (d:=G0) (show k<b.2.2.length by omega));refine Zf (Qw (g:=(b.2.2.getD k G0)) (z:=(b.2.2.getD k G0).2.1) 4 54 J J (Ze) O7)<|Zf (Qw (g:=(b.2.2.getD k G0)) (z:=(b.2.2.getD k G0).2.2.1) 4 55 J J (Ze) O7)<|Zf (Qw (g:=(b.2.2.getD k G0)) (z:=(b.2.2.getD k G0).2.2.2) 4 56 J J (Ze) O7)<|Nm [4,5] [15]<|Zh (n:=0) [(0,0),(1,0),(2,0),(3,0),(4,0),(5,0),(6,0),(7,0),(8,0),(9,0),(10,0),(11,1),(12,0),(13,1),(14,1),(15,3)]<|go 8 ?_;refine Xj J J (Bc (Zu (ii:=4) (i:=k) J J J J Zb Lf Ig J) K2)<|Xj J J (Bc (Xf (ii:=4) G0 J J J Zb pG) K2)<|go 1 ?_;refine Yr (Zi 84 [51,52,53,54,55,56] (Zyx _ _ _ _ _ _ _ _ _ _ _ _ _ _ _ _ _ _ _ (My I u) (My N y) (Zaf u) (Zaf y) Y)) λH S=>?_;refine Xj J J (Bc (Qq (ivs:=[(0,_),(1,_),(2,_)]) J K6 (λa w hs=>Zml ((Yf J) a w hs) ((Yf J) a w hs) ((Yf J) a w hs))) K2)<|Fi J (Qb (i:=6) (ivs:=[(0,_)]) (enc:=Gm) [(gpY (b.1.2.getD k G0) H)] J J K2 Zir ti130 J J (Yir _ _ _ _ _ _) J J pGp.cells J J Z.h) (λv _=>?_);refine Fi J (Zv3 74 J J J K2 (λp=>(Zoq (i:=74) (j:=6) (by_:=40) J J J J J J O2 J (Yb pGp) Zir ti130 J pGp J J J O8 O2 J Z.h p))) λa2 _=>go 2 ?_;refine Zp<|go 6 ⟨O,?_⟩;exact Zv (Zq (q:=qGp) (z:=(gpY (b.1.2.getD k G0) H)) 76 84 76 J J J J J)<|Yq (k+1,_,zs ++ [(gpY (b.1.2.getD k G0) H)]) ⟨O1,Zz6 c.1 c.2 t O O S,by rw [List.length_append,D];rfl⟩ O1 K2 K2
  .obtain rfl:k=b.1.2.length:=O;refine go 14 ?_;exact Zv (Xs 74 J J pGp)<|Zv (Qm 74 76 78 J J J J)<|Nr B (vq,zs) results95 (by rw [Yig Q]) (Yie c.1 R.1 t) (Ob 78 Za)
set_option maxHeartbeats 1000000 in
theorem Zs0(m n:Value)(k l:List Zj)(p:Int)(e:∀g∈k,Gin g)(h:∀g∈l,Gin g)(q:¬(Xn k=true/\Xn l=true/\dsB p=true)):Qf prog 40 #[m,n,.int .i64 p] [Xt 6 Qe qG m k,Xt 6 Qe qG n l] (.tuple #[.slice none 0 0,.int .i64 2]):=by
 refine Zg func40 ntmps40 λw0 s r f=>go 8 ?_;rcases Ztj q with a|⟨a,c⟩|⟨a,c,j⟩
 .refine go 2 ?_;refine cl 2 [1] (Ow _ _ e) λ_ _=>?_;refine dt (dT (Yw J J) (congrArg (λb=>Value.bool (!b)) a))<|go 21 ?_;exact Nr f () results40 J trivial Za
 .refine go 2 ?_;refine cl 2 [1] (Ow _ _ e) λ_ _=>?_;refine dt (dF (Yw J J) (congrArg (λb=>Value.bool (!b)) a))<|go 2 ?_;refine Es 2 [2] (Ow _ _ h) λ_ _=>?_;refine Fq (dT (Yw J J) (congrArg (λb=>Value.bool (!b)) c)) J J<|go 17 ?_;exact Nr f () results40 J trivial Za
 .refine go 2 ?_;refine cl 2 [1] (Ow _ _ e) λ_ _=>?_;refine dt (dF (Yw J J) (congrArg (λb=>Value.bool (!b)) a))<|go 2 ?_;refine Es 2 [2] (Ow _ _ h) λ_ _=>?_;refine Fq (dF (Yw J J) (congrArg (λb=>Value.bool (!b)) c)) J J<|go 3 ?_;refine Es 2 [] (Zfm _) λ_ _=>?_;refine Fq (dT (Yw J J) (congrArg (λb=>Value.bool (!b)) j)) J J<|go 12 ?_;exact Nr f () results40 J trivial Za
set_option maxHeartbeats 1000000 in
theorem Zfn(r s:Value)(a c:List Zj)(q:Int)(h:∀g∈a,Gin g)(j:∀g∈c,Gin g)(e:Xn a=true)(f:Xn c=true)(m:a.length<=5)(n:c.length<=5)(k:dsB q=true):Cal prog 40 #[r,s,.int .i64 q] [Xt 6 Qe qG r a,Xt 6 Qe qG s c] true (G:=Value×List GpT) (λg=>g.2.map unP=Nl q 1 1 a c) (λg=> .tuple #[g.1,.int .i64 (Ip a c)]) (λg=>[Xt 3 Gm qGp g.1 g.2]):=by refine Zg func40 ntmps40 λw0 v u p=>go 10 ?_;refine cl 2 [1] (Ow _ _ h) λ_ _=>?_;refine dt (dF (Yw J J) (congrArg (λb=>Value.bool (!b)) e))<|go 2 ?_;refine Es 2 [2] (Ow _ _ j) λ_ _=>?_;refine Fq (dF (Yw J J) (congrArg (λb=>Value.bool (!b)) f)) J J<|go 3 ?_;refine Es 2 [] (Zfm _) λ_ _=>?_;refine Fq (dF (Yw J J) (congrArg (λb=>Value.bool (!b)) k)) J J<|go 11 ?_;refine cl 3 [1,2] (Zyw _ _ _ _ _ h j e f m n k) λt l=>go 7 ?_;exact Nr p _ results40 J l (Ob 3 Za)
open Go.RowKit (Below)
variable {P:Program} {N:Nat} {sc:Nat->Prop} {env env':Ph} {H H':Hp} {Q Q':Exit->Act->World->Prop}
def Yiu(p:Prop):Pc:={ own:=false,fp:=λ_=>False,holds:=λ_=>p,lt:=λ_ _ _ h=>h.elim,stable:=λ_ _ h _=>h }
theorem wtd{j e:Nat}{b:Bool}(h:o.guard=some (j,b))(k:(ops[j]?).bind (·.dst)=some e)(g:lk env e=some (.bool b))(c:Nat.blt e N=true):∀a w,Sat N sc env H a w->Region.wanted o (yielded ops a.tmps)=true:=λa w hs=>by have f:=hs.yielded k g c;simp [Region.wanted,h,f]
theorem Mt{v:Value}(f:Mo P N sc o env H v)(e:∀a w,Sat N sc env H a w->Region.wanted o (yielded ops a.tmps)=true)(c:o.dst=some d)(b:Nat.blt d N=true)(h:LI P N sc ops rest Q ((d,v)::env) H):LI P N sc ops (o::rest) Q env H:=λa w hs=>by unfold wpListIn;rw [if_pos (e a w hs)];refine⟨λ_ _=>trivial,?_⟩;show o.uponIn Fence.wide 0 P a _ Q ((execOp a.eval o).run P w);rw [f a w hs];show wpListIn Fence.wide 0 P ops Q rest (a.put o.dst v) w;rw [c];exact h _ w (hs.put d v b)
theorem Zds    {l:Nat}     {W:World}  {J:Nat->World->Prop}  {α G:Type} {xs:List α} {ys:α->G->List Value} {D:α->G->List Pc} 
  (k:Nat) (y:α) (g:G) (hY:YJI P w0 l M J Jx xs ys D) (hy:xs[k]? = some y) (hJ:J k W) (hW:w0.heap.size<=W.heap.size) (m:∀p∈pre,∀b,p.fp b->b<w0.heap.size/\¬M b)
  (ho:o.op= .call { callee:= .value x,args:=ops'.toArray,argTypes:=tys }) (hg:∀a w,Sat N sc env H a w->Region.wanted o (yielded ops a.tmps)=true) (hd:o.dst=some d) (Z:Nat.blt d N=true) (hx:ev env x=some (.func (.yield l) #[] #[])) (r:EvL env ops' vs) (S:vs=ys y g)
  (h0:lk H 0=some (Yo W (λ_=>False))) (u:∀p∈D y g,p.own=false/\(∀b,p.fp b->W.heap.size<=b)/\∃i I,lk H i=some I/\∀w,I.holds w->p.holds w)
  (v:AllRo pre) (n:HSub (Yv 1 pre) H)
  (ht:∀c,J (k+1) c->w0.heap.size<=c.heap.size->LI P N sc ops rest Q ((d,.bool true)::env) ((0,Yo c (λ_=>False))::Yv 1 pre))
  (hf:∀c,Jx c->w0.heap.size<=c.heap.size->LI P N sc ops rest Q ((d,.bool false)::env) ((0,Yo c (λ_=>False))::Yv 1 pre)):LI P N sc ops (o::rest) Q env H:=λa w hs=>by
 subst S;have Y:=Kt (hs.hold 0 _ h0);obtain⟨fn,F,f,s,z,j⟩:=hY k y g hy W w hJ hW Y (λp hp=>by obtain⟨h1,h2,i,I,hi,hh⟩:=u p hp;exact⟨hh w (hs.hold i I hi),h1,h2⟩)
 have R:(o.semAt Fence.wide.round a.eval).run P w= .ok (.round l fn F f s) w:=by show(execOp a.eval o).run P w=_;have hm:=r.map hs;have V:=hs.ev hx;simp [execOp,ho,resolve,invoke,Deferred.ofValue,hm,V,z,Sem.run_bind]
 unfold wpListIn;rw [if_pos (hg a w hs)];refine⟨λ_ _=>trivial,?_⟩;rw [R];refine⟨λh=>(by cases h),j.mono ?_⟩;have B:w0.heap.size<=w.heap.size:=Nat.le_trans hW Y.size;rintro e c (⟨rfl,q,t⟩|⟨rfl,q,t⟩)
 .show wpListIn Fence.wide 0 P ops Q rest (a.put o.dst _) c;rw [hd];exact ht c q (Nat.le_trans B t.size) _ c ((hs.base m v n t).put d _ Z)
 .show wpListIn Fence.wide 0 P ops Q rest (a.put o.dst _) c;rw [hd];exact hf c q (Nat.le_trans B t.size) _ c ((hs.base m v n t).put d _ Z)
theorem Zjl{α:Type}{ps:List α}{p:α->Bool}{d:α}(hi:i<ps.length)(b:p (ps.getD i d)=true):(ps.filter p)[((ps.take i).filter p).length]? = some (ps.getD i d):=by
 have h:=List.take_append_drop i ps;have a:ps.drop i=ps.getD i d::ps.drop (i+1):=by rw [List.getD_eq_getElem?_getD,List.getElem?_eq_getElem hi,Option.getD_some];exact List.drop_eq_getElem_cons hi
 conv=>lhs;arg 1;rw [<-h,a]
 rw [List.filter_append,List.filter_cons_of_pos b];simp
theorem Yac{α:Type}{ps:List α}{p:α->Bool}{d:α}(hi:i<ps.length)(a:p (ps.getD i d)=true):((ps.take (i+1)).filter p).length=((ps.take i).filter p).length+1:=by rw [Ps d _ _ hi,List.filter_append,List.filter_cons_of_pos a,List.length_append];rfl
theorem Yad{α:Type}{ps:List α}{p:α->Bool}{d:α}(hi:i<ps.length)(a:p (ps.getD i d)=false):((ps.take (i+1)).filter p).length=((ps.take i).filter p).length:=by rw [Ps d _ _ hi,List.filter_append,List.filter_cons_of_neg (by rw [a];exact Bool.false_ne_true),List.length_append];rfl
theorem Zgf{φ:Prop}{n:Nat}{H:Hp}{k:Pc}(h:φ)(c:lk H 0=some k):∀p∈[Yiu φ],p.own=false/\(∀b,p.fp b->n<=b)/\∃i a,lk H i=some a/\∀w,a.holds w->p.holds w:=λp f=>by rw [List.mem_singleton.1 f];exact⟨rfl,λb e=>e.elim,0,k,c,λ_ _=>h⟩
theorem fk_of{fn:Func}{al:Bool}{G:Type}{φ:G->Prop}{Yh:G->Value}{b:G->List Pc}(h:X N sc .ret (Zb8 P fn w0 pre al φ Yh b) env H):X N sc .ret (Ze3 P fn w0 pre al φ Yh b) env H:=λa w hs=>by obtain⟨e,v,f,c⟩:=h a w hs;show LeavesInM Fence.wide 0 P fn a.tmps _ a.defers .returning w;rw [e];exact⟨v,f,c⟩
end Go.Sky
namespace Go.Sky
open Go.Proofs.Tryz
open Go.Proofs
set_option synthInstance.maxHeartbeats 0
set_option synthInstance.maxSize 100000
set_option maxRecDepth 20000
set_option maxHeartbeats 1000000
set_option linter.unusedSimpArgs false
variable{D:Int}{a b:List Zj}{zs:List GpT}{Mf0 Mf:Nat->Prop}{body y:Code}{lbv:List Value}{pre:List Pc}{id r:Nat}{ops:List Oper}{c:Operand}{p:Prop}{Hall:Hp}{Wb:World}
theorem Zae(x y:Int)(g:Ng x)(h:Ng y)(e:y≠0):Qf prog 98 #[.int .i64 x,.int .i64 y] [] (.agg #[.bool (decide (Gy x y<0)),.string (Qh (Gy x y).natAbs),.bool (decide (Ge x y<0)),.string (Qh (Ge x y).natAbs)]):=by refine Zg func98 ntmps98 λl k j d=>go 2 ?_;refine Yk (Zy 1) λi _=>go 6 ?_;refine cl 1 [] (Ze4 x y g h e) λ_ _=>go 3 ?_;refine Yk (Zy 2) λf _=>go 11 ?_;exact Xu d () results98 J trivial Za
theorem Zov(v:Value)(zs:List GpT)(Y:Nat)(N:∀z∈zs,Cvd z.2.2):Ydu prog 162 [.pointer (some ⟨Y,0,none⟩)] [Kl Y 50 #[v],Xt 3 Gm qGp v zs] (α:=GpT) (G:=R2) (zs.filter (λz:GpT=>Cd z.2.2)) (λc g=>[.agg #[.int .i64 c.1.1,.int .i64 c.1.2,Xi c.2.1],.agg #[.bool (decide (g.1<0)),.string (Qh (g.1).natAbs),.bool (decide (g.2<0)),.string (Qh (g.2).natAbs)]]) (λc g=>[Yiu (Fnd c.2.2 (qv (0,1)) (qv (1,1)) g)]):=by
 refine Zrl func162 J ntmps162 J K2 ?_;intro l M JI Jx w0 sc hw k s h I F;simp only [Qs,Yv];have P:=Hw.mk hw;refine Pf (Ln (i:=2) J Zb) λa7=>go 8 ?_;refine lp (G:=Nat×World) [0,8,9] [1,2] (λq=>[(10,.int .i64 (q.1:Int))]) (λq=>[(0,Yo q.2 (λ_=>False))]) (λq=>(q.1<=zs.length)/\(JI ((zs.take q.1).filter (λz:GpT=>Cd z.2.2)).length q.2)/\(w0.heap.size<=q.2.heap.size)) (λq=>zs.length-q.1) (0,w0) ⟨O1,I,Nat.le_refl _⟩ K1 K1 ?_;rintro⟨i,W⟩ ⟨hi,o,t⟩;dsimp only at hi o t;dsimp only;have b6:=Zz5 P t;refine go 6 ?_;refine Zc J (λH=>?_) (λH=>?_)
 .refine go 5 ?_;refine Zf (La 2 55 (zs.getD i Gp0) J J (Ze) J) ?_;have j:=N (zs.getD i Gp0) (Ze);refine go 1 ?_;refine dt (Zu (ii:=2) (i:=i) J J J J Zb Zir sizeOf130 J)<|dt (Xf (ii:=2) Gp0 J J J Zb pGp)<|Yk (Zy 3) λbx _=>go 4 ?_;rcases tf (Cd (zs.getD i Gp0).2.2)with d|d
  .refine Nm [3] [12]<|Zh (n:=11) [(0,0),(1,0)]<|go 3 ?_;refine Qd (n:=10) 2 9 ?_ ?_
   .refine Po (Zi 3 [] (Zae 0 1 ⟨O2,O2⟩ ⟨O2,O2⟩ O2)) λ_ _=>?_;refine Qd (n:=9) 3 9 ?_ ?_
    .refine Po (Zi 3 [] (Zae 1 1 ⟨O2,O2⟩ ⟨O2,O2⟩ O2)) λ_ _=>?_;refine Qd (n:=8) 4 9 ?_ ?_
     .refine Po (Zi 3 [55] (Fu _ _ (0,1) (1,1) j Zik Zij Zim d)) λ_ _=>?_;refine Zh (n:=0) [(5,0),(6,0),(7,0),(8,0),(9,1),(10,1),(11,0),(12,3)]<|go 4 ?_;refine Yr (Xx 4) λZ ho=>go 4 ?_;refine Zp<|go 21 ⟨O,?_⟩;exact Yq (i+1,W) ⟨O1,by rw [Yad O d];exact o,t⟩ O1 K1 K1
     .refine Po (Xx 5) λa0 a8=>?_;refine Zh (n:=0) [(4,1),(5,0),(6,0),(7,0),(8,0),(10,1),(11,0),(12,3)]<|Yr (Zi 5 [55] (Fu _ _ (0,1) (1,1) j Zik Zij Zim d)) λ_ _=>go 8 ?_;refine Zp<|go 21 ⟨O,?_⟩;exact Yq (i+1,W) ⟨O1,by rw [Yad O d];exact o,t⟩ O1 K1 K1
    .refine Po (Xx 6) λa1 a9=>?_;refine Zh (n:=0) [(3,1),(4,1),(5,0),(6,0),(7,0),(8,0),(10,1),(11,0),(12,3)]<|Yr (Zi 6 [] (Zae 1 1 ⟨O2,O2⟩ ⟨O2,O2⟩ O2)) λ_ _=>Yr (Zi 6 [55] (Fu _ _ (0,1) (1,1) j Zik Zij Zim d)) λ_ _=>go 8 ?_;refine Zp<|go 21 ⟨O,?_⟩;exact Yq (i+1,W) ⟨O1,by rw [Yad O d];exact o,t⟩ O1 K1 K1
   .refine Po (Xx 7) λa2 b0=>?_;refine Zh (n:=0) [(2,1),(3,1),(4,1),(5,0),(6,0),(7,0),(8,0),(10,1),(11,0),(12,3)]<|Yr (Zi 7 [] (Zae 0 1 ⟨O2,O2⟩ ⟨O2,O2⟩ O2)) λ_ _=>Yr (Zi 7 [] (Zae 1 1 ⟨O2,O2⟩ ⟨O2,O2⟩ O2)) λ_ _=>Yr (Zi 7 [55] (Fu _ _ (0,1) (1,1) j Zik Zij Zim d)) λ_ _=>go 8 ?_;refine Zp<|go 21 ⟨O,?_⟩;exact Yq (i+1,W) ⟨O1,by rw [Yad O d];exact o,t⟩ O1 K1 K1
  .refine Nm [3] [12]<|Zh (n:=11) [(0,0),(1,0)]<|go 3 ?_;refine Qd (n:=10) 2 9 ?_ ?_
   .refine Po (Zi 7 [] (Zae 0 1 ⟨O2,O2⟩ ⟨O2,O2⟩ O2)) λ_ _=>?_;refine Qd (n:=9) 3 9 ?_ ?_
    .refine Po (Zi 7 [] (Zae 1 1 ⟨O2,O2⟩ ⟨O2,O2⟩ O2)) λ_ _=>?_;refine Qd (n:=8) 4 9 ?_ ?_
     .refine Po (Zi 7 [55] (Gv _ _ (0,1) (1,1) j Zik Zij Zim d)) λQ u=>?_;refine Zh (n:=0) [(5,0),(6,0),(7,0),(8,0),(9,1),(10,1),(11,0),(12,3)]<|go 4 ?_;refine Yr (Xx 8) λa3 b2=>go 4 ?_;refine Zp<|go 2 ?_;refine Ydf<|Mi (Zak J J) J<|Mi (Zak J J) J<|Mt (Zak J J) (wtd J J J J) J J<|Mt (DI.h trivial) (wtd J J J J) J J<|Mt (DI.h trivial) (wtd J J J J) J J<|Zds (pre:=[_,_]) (vs:=[_,_]) _ (zs.getD i Gp0) Q F (Zjl O d) o t k J (wtd J J J J) J J J K2 J J (Zgf u J) K2 K2 (λm e f=>?_) (λm e f=>?_)
      .simp only [Yv];refine Mt (dF (Yw J J) J) (wtd J J J J) J J<|Mi (Cz J J J) J<|Ck<|go 9 ⟨O,?_⟩;exact Yq (i+1,m) ⟨O1,by rw [Yac O d];exact e,f⟩ O1 K1 K1
      .simp only [Yv];refine Mt (dT (Yw J J) J) (wtd J J J J) J J<|Mi (Cz J J J) J<|Ck<|go 7 ?_;exact Zba (.inl J) J J s h (.inr e)
     .refine Po (Xx 9) λa4 b3=>?_;refine Zh (n:=0) [(4,1),(5,0),(6,0),(7,0),(8,0),(10,1),(11,0),(12,3)]<|Yr (Zi 9 [55] (Gv _ _ (0,1) (1,1) j Zik Zij Zim d)) λR w=>go 8 ?_;refine Zp<|go 2 ?_;refine Ydf<|Mi (Zak J J) J<|Mi (Zak J J) J<|Mt (Zak J J) (wtd J J J J) J J<|Mt (DI.h trivial) (wtd J J J J) J J<|Mt (DI.h trivial) (wtd J J J J) J J<|Zds (pre:=[_,_]) (vs:=[_,_]) _ (zs.getD i Gp0) R F (Zjl O d) o t k J (wtd J J J J) J J J K2 J J (Zgf w J) K2 K2 (λm e f=>?_) (λm e f=>?_)
      .simp only [Yv];refine Mt (dF (Yw J J) J) (wtd J J J J) J J<|Mi (Cz J J J) J<|Ck<|go 9 ⟨O,?_⟩;exact Yq (i+1,m) ⟨O1,by rw [Yac O d];exact e,f⟩ O1 K1 K1
      .simp only [Yv];refine Mt (dT (Yw J J) J) (wtd J J J J) J J<|Mi (Cz J J J) J<|Ck<|go 7 ?_;exact Zba (.inl J) J J s h (.inr e)
    .refine Po (Xx 10) λa5 b4=>?_;refine Zh (n:=0) [(3,1),(4,1),(5,0),(6,0),(7,0),(8,0),(10,1),(11,0),(12,3)]<|Yr (Zi 10 [] (Zae 1 1 ⟨O2,O2⟩ ⟨O2,O2⟩ O2)) λ_ _=>Yr (Zi 10 [55] (Gv _ _ (0,1) (1,1) j Zik Zij Zim d)) λS x=>go 8 ?_;refine Zp<|go 2 ?_;refine Ydf<|Mi (Zak J J) J<|Mi (Zak J J) J<|Mt (Zak J J) (wtd J J J J) J J<|Mt (DI.h trivial) (wtd J J J J) J J<|Mt (DI.h trivial) (wtd J J J J) J J<|Zds (pre:=[_,_]) (vs:=[_,_]) _ (zs.getD i Gp0) S F (Zjl O d) o t k J (wtd J J J J) J J J K2 J J (Zgf x J) K2 K2 (λm e f=>?_) (λm e f=>?_)
     .simp only [Yv];refine Mt (dF (Yw J J) J) (wtd J J J J) J J<|Mi (Cz J J J) J<|Ck<|go 9 ⟨O,?_⟩;exact Yq (i+1,m) ⟨O1,by rw [Yac O d];exact e,f⟩ O1 K1 K1
     .simp only [Yv];refine Mt (dT (Yw J J) J) (wtd J J J J) J J<|Mi (Cz J J J) J<|Ck<|go 7 ?_;exact Zba (.inl J) J J s h (.inr e)
   .refine Po (Xx 11) λa6 b5=>?_;refine Zh (n:=0) [(2,1),(3,1),(4,1),(5,0),(6,0),(7,0),(8,0),(10,1),(11,0),(12,3)]<|Yr (Zi 11 [] (Zae 0 1 ⟨O2,O2⟩ ⟨O2,O2⟩ O2)) λ_ _=>Yr (Zi 11 [] (Zae 1 1 ⟨O2,O2⟩ ⟨O2,O2⟩ O2)) λ_ _=>Yr (Zi 11 [55] (Gv _ _ (0,1) (1,1) j Zik Zij Zim d)) λV B=>go 8 ?_;refine Zp<|go 2 ?_;refine Ydf<|Mi (Zak J J) J<|Mi (Zak J J) J<|Mt (Zak J J) (wtd J J J J) J J<|Mt (DI.h trivial) (wtd J J J J) J J<|Mt (DI.h trivial) (wtd J J J J) J J<|Zds (pre:=[_,_]) (vs:=[_,_]) _ (zs.getD i Gp0) V F (Zjl O d) o t k J (wtd J J J J) J J J K2 J J (Zgf B J) K2 K2 (λm e f=>?_) (λm e f=>?_)
    .simp only [Yv];refine Mt (dF (Yw J J) J) (wtd J J J J) J J<|Mi (Cz J J J) J<|Ck<|go 9 ⟨O,?_⟩;exact Yq (i+1,m) ⟨O1,by rw [Yac O d];exact e,f⟩ O1 K1 K1
    .simp only [Yv];refine Mt (dT (Yw J J) J) (wtd J J J J) J J<|Mi (Cz J J J) J<|Ck<|go 7 ?_;exact Zba (.inl J) J J s h (.inr e)
 .obtain rfl:i=zs.length:=O;rw [List.take_length]at o;refine go 4 ?_;exact Zba (.inr J) J J s h (.inl o)
theorem Zq7(f:∀g∈a,Gin g)(i:∀g∈b,Gin g)(d:Xn a=true)(e:Xn b=true)(m:dsB D=true)(h:zs.map unP=Nl D 1 1 a b):∀z∈zs,Cvd z.2.2:=λz l=>by obtain⟨k,j,rfl⟩:=List.getElem_of_mem l;have:=cvd_as f i d e m h j;rwa [List.getD_eq_getElem?_getD,List.getElem?_eq_getElem j]at this
def nbF(z:GpT):Bool:=Cd z.2.2
theorem Zrv{n d:Int}(h:zs.map unP=Nl D n d a b)(e:¬Ip a b≠0)(f:(zs.filter λz=>Cd z.2.2).length=0):Ba D n d a b=true:=by
 refine ap_no ?_ (Decidable.not_not.1 e);rw [fst_no h λi hi=>?_];cases hn:Cd (zs.getD i Gp0).2.2 with
 | false=>rfl
 | true=>
  have:zs.getD i Gp0∈zs.filter λz=>Cd z.2.2:=List.mem_filter.2 ⟨Ze hi,hn⟩;rw [List.eq_nil_of_length_eq_zero f]at this;cases this
theorem Zmh{n d:Int}{k:Nat}{x:GpT}(h:zs.map unP=Nl D n d a b)(i:(zs.filter λz=>Cd z.2.2)[k]? = some x):Ba D n d a b=false:=by
 have f:=(List.mem_filter.1 (List.mem_of_getElem? i));refine ap_is ?_;cases hf:(Zaj (Nl D n d a b)).2.2 with
 | true=>rfl
 | false=>
  exfalso;have e:Zqk (Nl D n d a b)=none:=by
   cases he:Zqk (Nl D n d a b)with
   | none=>rfl
   | some g=>unfold Zaj at hf;rw [he]at hf;cases hf
  have:=List.find?_eq_none.1 e (unP x) (by rw [<-h];exact List.mem_map.2 ⟨x,f.1,rfl⟩);exact this f.2
theorem Zwc(v:Value)(zs:List GpT):Cal prog 96 #[v] [Xt 3 Gm qGp v zs] true (G:=Nat) (λg=>True) (λg=> .func (.func 162) #[] #[.pointer (some ⟨g,0,none⟩)]) (λg=>[Kl g 50 #[v]]):=by refine Zg func96 ntmps96 λk i h d=>?_;refine Zbw (Xy 1 J Zb) (λj e=>?_);subst e;refine go 2 ?_;refine Yk (Yt 2) λf _=>go 5 ?_;refine dt (Zu5 (vs:=[]) (us:=[_]) J trivial K1)<|go 4 ?_;exact Zv (Zen 2 J J)<|Xu d _ results96 J trivial (Ob 2 Za)
theorem Zkj(S V:Value)(s t:List Zj)(H:Int)(B:∀g∈s,Gin g)(F:∀g∈t,Gin g)(v:Xn s=true)(z:Xn t=true)(M:s.length<=5)(N:t.length<=5)(G:dsB H=true):Qf prog 42 #[S,V,.int .i64 H] [Xt 6 Qe qG S s,Xt 6 Qe qG V t] (.tuple #[.bool (Ba H 1 1 s t),.int .i64 (Ip s t)]):=by
 refine Zjr func42 J ntmps42 J K2 ?_;intro w0 sc P o;have P:=Hw.mk P;simp only [Qs,Yv];refine go 2 ?_;refine Yk (Zy 3) λf _=>Yk (Zy 4) λd _=>go 7 ?_;refine cl 5 [1,2] (Zfn _ _ _ _ _ B F v z M N G) λj n=>go 14 ?_;refine Zc J (λm=>?_) (λm=>?_)
 .have u:=m;refine go 9 ?_;exact fk_of<|Nr o () results42 (by rw [ap_e u]) trivial Za
 .have u:=m;refine go 6 ?_;refine cl 6 [5] (Zwc _ _) λb _=>go 3 ?_;refine Yak (pre:=[Kl b 50 #[j.1],Xt 3 Gm qGp j.1 j.2]) (w0:=w0) (λ(_:Nat) (_:Unit)=>[(0,Yo w0 (λ_=>False)),(3,box f 4 #[.bool false]),(4,box d 26 #[.int .i64 0])]) (λk _=>k=0) (λ(_:Unit)=>[(0,Yo w0 (λ_=>False)),(3,box f 4 #[.bool false]),(4,box d 26 #[.int .i64 0])]) (λ_=>Ba H 1 1 s t=false) () J (by intro e w;first|exact enters_of func162 O5 rfl e w|exact call162 e w) (Zov j.1 j.2 b (Zq7 B F v z G n)) ?_ (λ_ _=>J) J P.h J J K3 (λ_ _=>⟨J,J⟩) (λ_=>⟨J,J⟩) (λk x Z j Y i l Mf W=>?_) J (λj i D od=>?_) (λ_ Q=>?_)
  .intro p R;simp only [List.mem_cons,List.not_mem_nil,or_false]at R;rcases R with rfl|rfl
   .exact⟨J,6,J⟩
   .exact⟨J,5,J⟩
  .refine Zew (env':=[(6,.pointer (some ⟨f,0,none⟩)),(7,.pointer (some ⟨d,0,none⟩))]) (H':=[(92,Yo W Mf),(0,Yo w0 (λ_=>False)),(3,box f 4 #[.bool false]),(4,box d 26 #[.int .i64 0])]) (λa w hs=>hs.weaken ⟨J,J,trivial⟩ ⟨J,J,J,J,trivial⟩)<|Zqx λa w hs=>⟨J,[(6,.pointer (some ⟨f,0,none⟩)),(7,.pointer (some ⟨d,0,none⟩))],[(0,Yo w0 (λ_=>False)),(3,box f 4 #[.bool false]),(4,box d 26 #[.int .i64 0])],J,(λq h=>by cases h;rfl),⟨.inr (λb I=>⟨0,_,J,I⟩),.inl J,.inl J,trivial⟩,hs.weaken ⟨J,J,trivial⟩ ⟨J,J,J,J,trivial⟩,λWb _=>?_⟩;refine Za1<|Zqz J<|go 2 ?_;refine go 1 ?_;exact Yle<|Zxd λa w hs=>Or.inr ⟨J,(),Zmh n Y,⟨.inr (λb I=>⟨0,_,J,I⟩),.inl J,.inl J,trivial⟩,[],hs.weaken trivial ⟨J,J,J,J,trivial⟩⟩
  .refine go 2 ?_;refine go 1 ?_;refine Ybs λa w hs=>⟨J,[(6,.pointer (some ⟨f,0,none⟩)),(7,.pointer (some ⟨d,0,none⟩))],[(0,Yo w0 (λ_=>False)),(3,box f 4 #[.bool true]),(4,box d 26 #[.int .i64 0])],J,⟨⟨_,J,J,λ_ h=>h⟩,⟨_,J,J,λ_ h=>h⟩,⟨_,J,J,λ_ h=>h⟩,trivial⟩,hs.weaken ⟨J,J,trivial⟩ ⟨J,J,J,J,trivial⟩,?_⟩;exact Nr o () results42 (by rw [Zrv n u i,Decidable.not_not.1 u]) trivial Za
  .exact Nr o () results42 (by rw [Q,Decidable.not_not.1 u]) trivial Za
open Go.RowKit (Below)
variable {P:Program} {N:Nat} {sc:Nat->Prop} {env env':Ph} {H H':Hp} {Q Q':Exit->Act->World->Prop}
theorem er_rfi {l0:Nat}  {c0:World} {g:Operand} {gf:Nat} {ps:List Nat} {assign:Code}   {α G:Type} {xs:List α} {ys:α->G->List Value} {B:α->G->List Pc} {w0:World}
  {GG GX:Type} (HH:Nat->GG->Hp) (b1:Nat->GG->Prop) (HX:GX->Hp) (b2:GX->Prop) (c1:GG) (f5:LpAt l0 Mf0 c0) (c2:lk H 92=some (Yo c0 Mf0))
  (hg:ev env g=some (.func (.func gf) #[] lbv.toArray)) (eg:∀args w,(callFunc gf args).run P w= .ok (.enter gf args) w) (hc:Ydu P gf lbv pre xs ys B)
  (hp:∀p∈pre,p.own=false/\∃i,lk H i=some p) (g4:∀x F,(ys x F).length=ps.length) (g3:(ps.all λp=>Nat.blt p N)=true)
  (hw:∀b,w0.heap.size<=b->sc b) (h0:lk H 0=some (Yo w0 (λ_=>False)))
  (c9:b1 0 c1) (a5:HSub (HH 0 c1) H) (hk:∀k s,lk (HH k s) 0=some (Yo w0 (λ_=>False))/\lk (HH k s) 93=none) (g0:∀gx,lk (HX gx) 0=some (Yo w0 (λ_=>False))/\lk (HX gx) 93=none)
  (b5:∀k x F s,xs[k]? = some x->b1 k s->∀l Mf M a W,Sat N sc (renv ps (ys x F) env) ((93,Yo M Mf)::adds 100 (B x F) (HH k s)) a W->
   assign.wpIn (Fence.wide.inRound l) 0 P (RAn 93 P N sc l Mf (adds 100 (B x F) (HH k s)) body (HH (k+1)) (b1 (k+1)) HX b2 M) a W)
  (hD:∀s,b1 xs.length s->X N sc .normal Q env (HH xs.length s))
  (hX:∀gx,b2 gx->X N sc .ret Q env (HX gx)) :
  ER P N sc l0 (.rangeFunc g ps.toArray assign body) Q env H:=λa w hs=>by
 have a4:∀i p,lk H i=some p->∀b,p.fp b->b<w.heap.size:=λi p hi b n=>p.lt w b (hs.hold i p hi) n;have g7:w0.heap.size<=w.heap.size:=(hs.hold 0 _ h0).size;have e5:Chg Mf0 c0 w:=hs.hold 92 _ c2;obtain⟨⟨r0,e9⟩,e7⟩:=f5;have e8:w.heap[l0]? = some (.loop r0):=(e5.block _ (Array.getElem?_eq_some_iff.1 e9).1 e7).trans e9;refine wpIn_rangeFunc ?_;intro d6 f8;obtain⟨d,f⟩:∃d:LoopState->Option Code->Loop,d=λst pe=>{ state:=st,pending:=pe,fn:=d6,tmps:=a.tmps,params:=ps.toArray,assign,body,defers:=r0.defers }:=⟨_,rfl⟩;obtain⟨W1,b3⟩:∃W1,w.alloc (.loop (d .ready none))=W1:=⟨_,rfl⟩;have f6:W1.heap[w.heap.size]? = some (.loop (d .ready none)):=by rw [<-b3];exact World.alloc_heap_new w _
 have e2:Below w.heap.size w W1:=by rw [<-b3];exact(Below.refl _ w).alloc (Nat.le_refl _) _
 have h7:W1.heap.size=w.heap.size+1:=by rw [<-b3];simp
 have e0:(#[.func (.yield w.heap.size) #[] #[]] ++ lbv.toArray:Array Value)=(Value.func (.yield w.heap.size) #[] #[]::lbv).toArray:=O7;refine⟨w.heap.size,[],W1,{ target:= .fn (.func gf) lbv.toArray,args:=#[.func (.yield w.heap.size) #[] #[]] },W1,gf,
  (Value.func (.yield w.heap.size) #[] #[]::lbv).toArray,W1,?_,?_,λ_ _=>trivial,?_,λh=>(by cases h),?_⟩
 .rw [<-b3,f];exact run_enterLoop_inner e8 _ _ _ _ _
 .simp only [resolve,hs.ev hg];simp [go_sem]
 .simp [invoke,go_sem,eg]
 have b0:∀(I:Hp) (r:Loop),Zio λW=>W.heap[w.heap.size]? = some (.loop r)/\W1.heap.size<=W.heap.size/\Kps sc w (w.heap.size+1) (Mof (w.heap.size+1) H) I W:=λI r W W' ⟨h1,h3,h4⟩ hB=>
  ⟨(hB.block _ (Array.getElem?_eq_some_iff.1 h1).1).trans h1,Nat.le_trans h3 hB.size,h4.stays hB⟩
 have g2:¬Mof (w.heap.size+1) H w.heap.size:=λh=>by
  rcases h with⟨i,q,hq,_,hf⟩|h
  .have:=a4 i q hq _ hf;omega
  .omega
 have b4:∀(I:Hp) (W:World),Kps sc w (w.heap.size+1) (Mof (w.heap.size+1) H) I W->∀(o:Obj),Kps sc w (w.heap.size+1) (Mof (w.heap.size+1) H) I (W.putObj w.heap.size o):=λI W h o=>h.put a4 ⟨Nat.le_refl _,O⟩;refine callsIn_wide.2 ((hc w.heap.size (λb=>(∃i q,lk H i=some q/\q.own=true/\q.fp b)\/b=w.heap.size)
  (λk W=>∃s,b1 k s/\(W.heap[w.heap.size]? = some (.loop (d .ready none))/\W1.heap.size<=W.heap.size/\Kps sc w (w.heap.size+1) (Mof (w.heap.size+1) H) (HH k s) W))
  (λW=>∃gx,b2 gx/\(W.heap[w.heap.size]? = some (.loop (d .done (some .ret)))/\W1.heap.size<=W.heap.size/\Kps sc w (w.heap.size+1) (Mof (w.heap.size+1) H) (HX gx) W)) W1
  ?_ ?_ ?_ ?_ ?_ ?_).mono ?_)
 .intro p u;obtain⟨ho,i,hi⟩:=hp p u;exact p.stable _ _ (hs.hold i p hi) (Chg.of_below e2)
 .rintro p u b n (⟨i,q,hq,d4,g5⟩|rfl)
  .obtain⟨ho,j,V⟩:=hp p u;exact hs.sep i j q p (λe=>by subst e;rw [hq]at V;cases V;rw [ho]at d4;cases d4) hq V d4 b g5 n
  .obtain⟨ho,j,V⟩:=hp p u;have:=a4 j p V _ n;omega
 .rintro k W W' ⟨s,c7,h⟩ hB;exact⟨s,c7,b0 _ _ W W' h hB⟩
 .rintro W W' ⟨gx,c7,h⟩ hB;exact⟨gx,c7,b0 _ _ W W' h hB⟩
 .refine⟨c1,c9,f6,Nat.le_refl _,λi it hi=>it.stable _ _ (hs.hold i it (a5.lk i it hi)) (Chg.of_below e2),λi j it jt d2 hi V=>hs.sep i j it jt d2 (a5.lk i it hi) (a5.lk j jt V),
   λi it c9 hi=>hs.scope i it c9 (a5.lk i it hi),λi it hi _ b n=> .inl (a4 i it (a5.lk i it hi) b n),λi it hi ho b n=> .inl ⟨i,it,a5.lk i it hi,ho,n⟩⟩
 .rintro k x F hx W M ⟨s,R,hl,f2,Y⟩ h8 hB S;have e6:M.heap[w.heap.size]? = some (.loop (d .ready none)):=(hB.block _ O).trans hl;have hy:=run_yield (P:=P) (args:=(ys x F).toArray) e6 (by rw [f];simp [g4]);have a8:∀p∈B x F,∀b,p.fp b->w.heap.size+1<=b:=λp hp b n=>by have:=(S p hp).2.2 b n;omega
  have s1:Sat N sc env (HH k s) { tmps:=a.tmps,defers:=[] } M:=(Y.stays hB).sat hs.size rfl hs.env;have s2:Sat N sc env (adds 100 (B x F) (HH k s)) { tmps:=a.tmps,defers:=[] } M:=s1.adds (w1:=M) _ _ λp u=>⟨(S p u).1,(S p u).2.1,λb n=>hw b (by have:=a8 p u b n;omega),λj jt V ho b n a7=>by have h1:=(S p u).2.2 b n;have h2:=jt.lt W b (Y.hold j jt V) a7;omega⟩
  have b6:∀j q,lk (adds 100 (B x F) (HH k s)) j=some q->(q∈B x F)\/lk (HH k s) j=some q:=λj q h=>Zp5 _ _ _ j q h;have u:∀j q,lk (adds 100 (B x F) (HH k s)) j=some q->∀b,q.fp b->q.own=true->Mof (w.heap.size+1) H b:=λj q V b n ho=>by
   rcases b6 j q V with h|h
   .rw [(S q h).2.1]at ho;cases ho
   .exact Y.mf j q h ho b n
  have b9:∀j q,lk (adds 100 (B x F) (HH k s)) j=some q->∀b,q.fp b->q.own=false->b<w.heap.size\/w.heap.size+1<=b:=λj q V b n ho=>by
   rcases b6 j q V with h|h
   .exact .inr (a8 q h b n)
   .exact Y.off j q h ho b n
  have s3:=s2.rounds ps (ys x F) g3;have s4:Sat N sc (renv ps (ys x F) env) ((93,Yo M (Mfs sc (w.heap.size+1) H))::adds 100 (B x F) (HH k s)) _ M:=s3.add 93 (Yo M (Mfs sc (w.heap.size+1) H)) (Chg.refl _ _) (λj jt d2 V Lp b n a7=>by
   rcases Lp with h|h
   .cases h
   .exact n.2 (.inl (u j jt V b a7 h))) (λb n=>Classical.not_not.1 λhn=>n.2 (.inr hn))
  have d1:¬Mfs sc (w.heap.size+1) H w.heap.size:=λh=>h.elim g2 (λhn=>hn (hw _ g7));rw [f]at hy;refine⟨d6,_,assign,body,hy,roundIn_of_wpIn f8 ?_⟩;have hr:=b5 k x F s hx R w.heap.size (Mfs sc (w.heap.size+1) H) M _ M s4;have e3:(ps.toArray.zip (ys x F).toArray).foldl (λt (p,v)=>t.setIfInBounds p v) a.tmps=(ps.zip (ys x F)).foldl (λt pv=>t.setIfInBounds pv.1 pv.2) a.tmps:=O7;have f0:w.heap.size+1<=M.heap.size:=by have:=hB.size;omega
  have f9:∀(I:Hp),lk I 0=some (Yo w0 (λ_=>False))/\lk I 93=none->∀q,lk I 0=some q->q.own=false:=λI h q hq=>by rw [h.1]at hq;cases hq;rfl
  rw [show(ps.toArray.zip (ys x F).toArray).foldl (λt (x:Nat×Value)=>t.setIfInBounds x.1 x.2) a.tmps=(ps.zip (ys x F)).foldl (λt pv=>t.setIfInBounds pv.1 pv.2) a.tmps from e3];refine wpIn_mono hr ?_;rintro e a1 W2 ⟨rfl,d5,H1,c2,d8,f3,Z,c6⟩;have a0:Chg (Mfs sc (w.heap.size+1) H) M W2:=Z.hold 93 _ (Yd _ _ _);have g1:W2.heap[w.heap.size]? = some (.loop (d .ready none)):=(a0.block _ O d1).trans e6;have p1:=Z.ps c2 O2 d8 f0 f3 u b9 a4;have h5:M.heap.size<=W2.heap.size:=a0.size;obtain⟨m,z⟩:∃m,W2.putObj w.heap.size (.loop { d .ready none with state:= .busy })=m:=⟨_,rfl⟩;have g9:Sat N sc d5 ((93,Yo m (Mfs sc (w.heap.size+1) H))::H1) a1 m:=by
   have p2:=b4 _ _ p1 (.loop { d .ready none with state:= .busy });rw [z]at p2;refine(p2.sat Z.size Z.defers Z.env).add 93 (Yo m (Mfs sc (w.heap.size+1) H)) (Chg.refl _ _) (λj jt d2 V Lp b n a7=>?_) (λb n=>Classical.not_not.1 λhn=>n.2 (.inr hn));rcases Lp with h|h
   .cases h
   .exact n.2 (.inl (p2.mf j jt V h b a7))
  have g6:W2.heap.size=m.heap.size:=by rw [<-z];simp
  have b8:m.heap[w.heap.size]? = some (.loop { d .ready none with state:= .busy }):=by rw [<-z];exact World.putObj_heap_same O
  refine⟨m,by rw [<-z];exact run_beginRound g1 (by rw [f]),wpIn_mono (c6 m ⟨⟨_,b8⟩,d1⟩ a1 m g9) ?_⟩;have b7:∀(I:Hp) (env':Ph) (a3:Act) (W3:World),(lk I 0=some (Yo w0 (λ_=>False))/\lk I 93=none)->FpM I (adds 100 (B x F) (HH k s))->Sat N sc env' ((93,Yo m (Mfs sc (w.heap.size+1) H))::I) a3 W3->∀(r:Loop),
    W3.heap[w.heap.size]? = some (.loop { d .ready none with state:= .busy })/\(((W3.putObj w.heap.size (.loop r)).heap[w.heap.size]? = some (.loop r)/\
     W1.heap.size<=(W3.putObj w.heap.size (.loop r)).heap.size/\Kps sc w (w.heap.size+1) (Mof (w.heap.size+1) H) I (W3.putObj w.heap.size (.loop r)))/\
     Chg (λb=>((∃i q,lk H i=some q/\q.own=true/\q.fp b)\/b=w.heap.size)\/W1.heap.size<=b) M (W3.putObj w.heap.size (.loop r))):=by
   intro I env' a3 W3 d0 f4 a6 r;have a2:Chg (Mfs sc (w.heap.size+1) H) m W3:=a6.hold 93 _ (Yd _ _ _);have a9:=(a2.block _ O d1).trans b8;have h6:=a2.size;have p3:=a6.ps d0.2 O2 (f9 I d0) O f4 u b9 a4;refine⟨a9,⟨World.putObj_heap_same O,O8,b4 _ _ p3 _⟩,?_⟩;have k0:(Yo w0 (λ_=>False)).holds M:=Y.stays hB |>.hold 0 _ (hk k s).1;have k3:(Yo w0 (λ_=>False)).holds W3:=p3.hold 0 _ d0.1;refine⟨?_,?_,?_,O8,λb n hn=>?_⟩
   .exact a2.os.trans ((by rw [<-z];rfl:m.os=W2.os).trans a0.os)
   .exact a2.tape.trans ((by rw [<-z];rfl:m.tape=W2.tape).trans a0.tape)
   .exact a2.output.trans ((by rw [<-z];rfl:m.output=W2.output).trans a0.output)
   .have e4:b≠w.heap.size:=λe=>hn (.inl (.inr e));have f7:¬Mof (w.heap.size+1) H b:=λh=>by
     rcases h with h|h
     .exact hn (.inl (.inl h))
     .exact hn (.inr O)
    refine(World.putObj_heap_other e4).trans ?_;by_cases f1:sc b
    .have d9:¬Mfs sc (w.heap.size+1) H b:=λh=>h.elim f7 (λh=>h f1);refine(a2.block b O d9).trans ?_;have:m.heap[b]? = W2.heap[b]?:=by rw [<-z];exact World.putObj_heap_other e4
     exact this.trans (a0.block b n d9)
    .have e1:b<w0.heap.size:=by
      rcases Nat.lt_or_ge b w0.heap.size with h|h
      .exact h
      .exact absurd (hw b h) f1
     exact(k3.block b e1 (λh=>h)).trans (k0.block b e1 (λh=>h)).symm
  rintro e a3 W3 (⟨rfl,d7,c8,c4,env',a6⟩|⟨rfl,gx,c8,c4,env',a6⟩)
  .obtain⟨a9,c5,c3⟩:=b7 _ env' a3 W3 (hk (k+1) d7) c4 a6 (d .ready none);have:=run_endRound (P:=P) none a9;rw [show({ ({ d .ready none with state:= .busy } : Loop)with state:=if(none:Option Code).isNone then LoopState.ready else .done,pending:=none } : Loop)=d .ready none by rw [f];rfl]at this;exact⟨_,_,this,.inl ⟨rfl,⟨d7,c8,c5⟩,c3⟩⟩
  .obtain⟨a9,c5,c3⟩:=b7 _ env' a3 W3 (g0 gx) c4 a6 (d .done (some .ret));have:=run_endRound (P:=P) (some .ret) a9;rw [show({ ({ d .ready none with state:= .busy } : Loop)with state:=if(some Code.ret).isNone then LoopState.ready else .done,pending:=some .ret } : Loop)=d .done (some .ret) by rw [f];rfl]at this;exact⟨_,_,this,.inr ⟨rfl,⟨gx,c8,c5⟩,c3⟩⟩
 .rintro e W2 ⟨⟨v,rfl⟩,⟨s,R,hl,f2,d3⟩|⟨gx,R,hl,f2,d3⟩⟩
  .refine⟨none,_,by have:=run_endLoop (P:=P) hl (by rw [f];simp);rw [f]at this;exact this,?_⟩;have p3:=b4 _ _ d3 (.loop (d .exhausted none));rw [f]at p3;have s3:=p3.sat (a:=a) hs.size hs.defers hs.env;exact hD s R _ _ s3
  .refine⟨some .ret,_,by have:=run_endLoop (P:=P) hl (by rw [f];simp);rw [f]at this;exact this,wpIn_ret ?_⟩;have p3:=b4 _ _ d3 (.loop { d .done (some .ret)with state:= .exhausted });rw [f]at p3;exact hX gx R _ _ (p3.sat (a:=a) hs.size hs.defers hs.env)
theorem Zmn{ops:Array Oper}{r:Nat}(f:Zjg ops.toList):∀(d:Nat) (e:Array Bool) (a:Act) (w:World),wpAny P .any ops (Gr Q) d e a w->wpAnyIn (Fence.wide.inRound r) 0 P .any ops Q d e a w
 | 0,_,_,_,h=>h
 | d+1,e,a,w,h=>by
  refine⟨h.1,λi hi=>?_⟩;have g:=h.2 i hi;unfold wpOp at g;unfold wpOpIn;split
  .rename_i j;simp only [j]at g;exact Zmn f d _ a w g
  .rename_i o j;simp only [j]at g;split
   .rename_i k;simp only [k,if_true]at g;exact Oper.wpIn_mono (λa w l=>Zmn f d _ a w l) (Zzn (f o (by rw [<-Array.getElem?_toList]at j;exact List.mem_of_getElem? j)) (g.resolve_right λh=>Ec h.2))
   .rename_i k;simp only [k]at g;exact⟨λ_ _=>trivial,Zmn f d _ _ w g⟩
theorem Zgg  {l:List Oper} (e:List Nat) (ts:List Nat) (d:l.all ndB=true)
  (h:A P N sc (Off H e) l.toArray ts Q l.length (Array.replicate l.length false) env H) (f:P.follows .mixedOrders=true:=by kernel_rfl):ER P N sc r (.region id l.toArray true) Q env H:=λa w hs=>by
 refine wpIn_region_any f (Zmn (Zdp d) _ _ _ _ (Bj (C:=Chg (Off H e)) (ts:=ts) _ _ _ _ ?_));simpa using h a _ hs.drew
def Hj(h:ER P N sc r y Q env H):X N sc .normal (Exit.then (λa w=>y.wpIn (Fence.wide.inRound r) 0 P Q a w) Q) env H:=λa w hs=>h a w hs
def Zeg(h:X N sc .normal Q env H):X N sc .normal (Gr Q) env H:=λa w hs=>h a w hs
def Ir(d:ops.all ndB=true)(h:L P N sc ops.toArray ops (Gr Q) env H):ER P N sc r (.region id ops.toArray false) Q env H:=Zqy d h
def Yi0(h:X N sc .normal Q env H):ER P N sc r .skip Q env H:=Zqx h
def Ax(h:X N sc .ret Q env H):ER P N sc r .ret Q env H:=Zxd h
def Yoe{x:Code}[Decidable p](d:ev env c=some (.bool (decide p)))(f:p->ER P N sc r x Q env H)(e:¬p->ER P N sc r y Q env H):ER P N sc r (.cond c x y) Q env H:=
 Zuu d (λh=>f (of_decide_eq_true h)) (λh=>e (of_decide_eq_false h))
def Yoc{c:Code}(d:∀a w,Sat N sc env H a w->p)(h:p->ER P N sc r c Q env H):ER P N sc r c Q env H:=λa w hs=>h (d a w hs) a w hs
def xq_rn{n:Nat}{g i:Type}{h:g->Hp}{d:g->Prop}{j:i->Hp}{e:i->Prop}(f:g)(hi:d f)(k:FpM (h f) Hall)(l:HSub ((n,Yo Wb Mf)::h f) H):X N sc .normal (RBn n N sc Mf Hall h d j e Wb) env H:=
 λa w hs=>Or.inl ⟨rfl,f,hi,k,[],hs.weaken trivial l⟩
def Zoj{n:Nat}{i f:Type}{j:i->Hp}{h:i->Prop}{g:f->Hp}{d:f->Prop}(e:f)(hi:d e)(k:FpM (g e) Hall)(l:HSub ((n,Yo Wb Mf)::g e) H):X N sc .ret (RBn n N sc Mf Hall j h g d Wb) env H:=
 λa w hs=>Or.inr ⟨rfl,e,hi,k,[],hs.weaken trivial l⟩
def x_ra {n l:Nat}    {h i:Type} {j:h->Hp} {g:h->Prop} {k:i->Hp} {e:i->Prop} {m:World} (d:Ph) (f:Hp) (v:Sub d env) (x:HSub ((n,Yo m Mf)::f) H) (s:lk f n=none) (o:∀q,lk f 0=some q->q.own=false) (t:FpM f Hall)
  (u:∀Wb,LpAt l Mf Wb->ER P N sc l body (RBn n N sc Mf Hall j g k e Wb) d ((n,Yo Wb Mf)::f)):X N sc .normal (RAn n P N sc l Mf Hall body j g k e m) env H:=
 λa w hs=>⟨rfl,d,f,s,o,t,hs.weaken v x,u⟩
theorem Yi1  {l:List Oper} (M:Nat->Prop) (ts:List Nat) (e:P.follows .mixedOrders=true) (d:l.all ndB=true)
  (h:A P N sc M l.toArray ts Q l.length (Array.replicate l.length false) env H):ER P N sc r (.region id l.toArray true) Q env H:=λa w hs=>by
 refine wpIn_region_any e (Zmn (Zdp d) _ _ _ _ (Bj (C:=Chg M) (ts:=ts) _ _ _ _ ?_));simpa using h a _ hs.drew
theorem Yod  {l:List Oper} (M:Nat->Prop) (d:List (Nat×Nat)) (o:P.follows .mixedOrders=true) (f:l.all ndB=true)
  (g:(Region.noSelect l.toArray && Nat.beq d.length l.length && Fy l.toArray (Bs d) d (Array.replicate l.length false) &&
   (Region.ready .any l.toArray (Cc d (Array.replicate l.length false))).isEmpty)=true)
  (h:LD P N sc M l.toArray (X N sc .normal Q) d env H):ER P N sc r (.region id l.toArray true) Q env H:=by
 simp only [Bool.and_eq_true]at g;obtain⟨⟨⟨i,e⟩,j⟩,k⟩:=g;have e:=Nat.eq_of_beq_eq_true e;refine Yi1 M (Bs d) o f ?_;have:=LD.sound (n:=0) (Q:=Q) i d _ env H j h (λenv H m=>Zp m k);rw [<-e];rw [<-e]at this;simpa using this
end Go.Sky
namespace Go.Sky
open Go.RowKit (Below)
variable{x:Nat×Nat}{D:Int}{a b:List Zj}{zs:List GpT}{z:GpT}{u:R2}{k i:Nat}{ls:List PT}
section
variable {P:Program} {N:Nat} {sc:Nat->Prop} {env:Ph} {H:Hp}
def f_fct{p:Prop}(i:Nat)(hi:lk H i=some (Yiu p)):∀a w,Sat N sc env H a w->p:=λa w hs=>hs.hold i _ hi
end
theorem Yfz{x:Int}(g:Ng x):Gy x 1=x/\Ge x 1=1:=by
 have d:Le x 1=1:=by rw [Zp8 O2,show Int.gcd x 1=1 from by simp];rfl
 have f:¬Ll x 1:=by unfold Ll;rw [d,Int.ediv_one];have:=Li g;have c:bl (1/1:Int).natAbs<=1:=O2;omega
 obtain⟨c,e,-⟩:=Zah f;rw [c,e,d];exact⟨Int.ediv_one x,O2⟩
theorem gap_t{n d:Int}(j:∀g∈a,Gin g)(c:Xn a=true)(h:zs.map unP=Nl D n d a b)(q:z∈zs):0<=z.1.1/\z.1.1<z.1.2/\z.1.2<=3600000:=by
 have l:unP z∈Nl D n d a b:=by rw [<-h];exact List.mem_map.2 ⟨z,q,rfl⟩
 unfold Nl at l;obtain⟨k,p,e⟩:=List.mem_iff_getElem.1 l;rw [List.getElem_zipWith]at e;rw [List.length_zipWith]at p;have f:k<(Mj a b a).length:=O;obtain⟨r,t⟩:=Ze1 j c (Zsb (Mj a b a)) (mkS (Mj a b a)[k]) (List.mem_map.2 ⟨_,List.getElem_mem f,rfl⟩);have s:=My r t;have t1:=s.t1;have t2:=s.t2;have t3:=s.t3;have m:z.1.1=(Mj a b a)[k].1.1:=(congrArg (λg:GpU=>g.1) e).symm;have o:z.1.2=(Mj a b a)[k].1.2.1:=(congrArg (λg:GpU=>g.2.1) e).symm;rw [m,o];exact⟨t1,t2,t3⟩
abbrev wtM (z:GpT) (u:R2):R2:=(Gy (u.1*(z.1.2-z.1.1)) (u.2*1),Ge (u.1*(z.1.2-z.1.1)) (u.2*1))
abbrev wtT (z:GpT) (u:R2):R2:=(Gy ((wtM z u).1*1+z.1.1*(wtM z u).2) ((wtM z u).2*1),Ge ((wtM z u).1*1+z.1.1*(wtM z u).2) ((wtM z u).2*1))
abbrev wtV (g:R2×Int):Value:= .tuple #[.agg #[.bool (decide (g.1.1<0)),.string (Qh (g.1.1).natAbs),.bool (decide (g.1.2<0)),.string (Qh (g.1.2).natAbs)],.int .i64 g.2]
theorem Ykm{x g:Int}(h:g∣x)(d:g≠0):bl (x/g).natAbs<=bl x.natAbs:=by refine Og ?_;obtain⟨c,rfl⟩:=h;rw [Int.mul_ediv_cancel_left _ d,Int.natAbs_mul];exact Nat.le_mul_of_pos_left _ O
theorem nrf{x y:Int}(m:bl x.natAbs<=65536)(n:bl y.natAbs<=65536)(d:0<y):¬Ll x y/\bl (Gy x y).natAbs<=bl x.natAbs/\bl (Ge x y).natAbs<=bl y.natAbs/\0<Ge x y:=by
 have e:Le x y≠0:=Zzy O;have j:Le x y∣x:=by rw [Zp8 d];exact Int.gcd_dvd_left ..
 have l:Le x y∣y:=by rw [Zp8 d];exact Int.gcd_dvd_right ..
 have f:=Ykm j e;have g:=Ykm l e;have c:¬Ll x y:=λh=>by unfold Ll at h;omega
 refine⟨c,?_,?_,Zpx c d⟩
 .rw [(Zah c).1];exact f
 .rw [(Zah c).2.1];exact g
theorem wt_m{s t:Rat}(o:0<=z.1.1/\z.1.1<z.1.2/\z.1.2<=3600000)(c:Fnd z.2.2 s t u):bl (wtM z u).1.natAbs<=5300/\bl (wtM z u).2.natAbs<=5300/\0<(wtM z u).2:=by
 have n:bl (z.1.2-z.1.1).natAbs<=64:=Li ⟨O,O⟩;have f:=c.b1;have g:=c.b2;have h:=Xa u.1 (z.1.2-z.1.1);have e:0<u.2*1:=by have:=c.lw.1;omega
 have j:bl (u.2*1).natAbs=bl u.2.natAbs:=by rw [Int.mul_one]
 obtain⟨-,l,m,d⟩:=nrf (x:=u.1*(z.1.2-z.1.1)) (y:=u.2*1) O O e;exact⟨O9,O9,d⟩
def WtP(D:Int)(a b:List Zj)(g:R2×Int):Prop:=
 (Ip a b≠0/\g=((0,0),Ip a b))\/(Ip a b=0/\Ba D 1 1 a b=true/\g=((0,0),9))\/
  (Ip a b=0/\Ba D 1 1 a b=false/\g.2=0/\∃z:GpT,unP z∈Nl D 1 1 a b/\∃u,Fnd z.2.2 (qv (0,1)) (qv (1,1)) u/\g.1=wtT z u)
theorem Zm1{x:GpT}(h:zs.map unP=Nl D 1 1 a b)(d:¬Ip a b≠0)(c:(zs.filter λz=>Cd z.2.2)[k]? = some x)(e:Fnd x.2.2 (qv (0,1)) (qv (1,1)) u):WtP D a b (wtT x u,0):=
 .inr (.inr ⟨Decidable.not_not.1 d,Zmh h c,rfl,x,by rw [<-h];exact List.mem_map.2 ⟨x,(List.mem_filter.1 (List.mem_of_getElem? c)).1,rfl⟩,u,e,rfl⟩)
def wt_no(h:zs.map unP=Nl D 1 1 a b)(c:¬Ip a b≠0)(d:(zs.filter λz=>Cd z.2.2).length=0):WtP D a b ((0,0),9):= .inr (.inl ⟨Decidable.not_not.1 c,Zrv h c d,rfl⟩)
def Ztk(n i:Nat):List (Nat×Nat):=(List.range (n-(i+1))).map λj=>(i,i+1+j)
def prU(n:Nat):Nat->List (Nat×Nat)
 | 0=>[]
 | i+1=>prU n i ++ Ztk n i
abbrev prs (n:Nat):List (Nat×Nat):=prU n n
theorem prU_le{n m:Nat}(h:i<=m):∃r,prU n m=prU n i ++ r:=by
 obtain⟨d,rfl⟩:=Nat.exists_eq_add_of_le h;clear h
 induction d with
 | zero=>exact⟨[],(List.append_nil _).symm⟩
 | succ d e=>
  obtain⟨r,c⟩:=e;exact⟨r ++ Ztk n (i+d),by rw [<-List.append_assoc,<-c];rfl⟩
theorem pr_len{n:Nat} : (prU n (i+1)).length=(prU n i).length+(n-(i+1)):=by show(prU n i ++ Ztk n i).length=_;rw [List.length_append];unfold Ztk;rw [List.length_map,List.length_range]
theorem pr_at{n j:Nat}(hi:i<n)(c:j<n-(i+1)):(prs n)[(prU n i).length+j]? = some (i,i+1+j):=by obtain⟨r,d⟩:=prU_le (n:=n) (show i+1<=n from hi);unfold prs;rw [d,show prU n (i+1)=prU n i ++ Ztk n i from rfl,List.append_assoc,List.getElem?_append_right O,Nat.add_sub_cancel_left,List.getElem?_append_left (by unfold Ztk;rw [List.length_map,List.length_range];exact c)];unfold Ztk;rw [List.getElem?_map,List.getElem?_range c];rfl
theorem Ygl{n:Nat}(hi:i<n)(c:i+1<=k)(d:k<n):(prs n)[(prU n i).length+(k-(i+1))]? = some (i,k):=by rw [pr_at hi O];congr 2;omega
theorem Zwn{n m:Nat}(h:(i,k)∈prU n m):i<m/\i<k/\k<n:=by
 induction m with
 | zero=>cases h
 | succ m f=>
  rcases List.mem_append.1 h with h|h
  .obtain⟨g,c⟩:=f h;exact⟨O,c⟩
  .obtain⟨j,d,e⟩:=List.mem_map.1 h;rw [List.mem_range]at d;cases e;exact⟨O,O,O⟩
def lx(p q:Nat×Nat):Prop:=p.1<q.1\/(p.1=q.1/\p.2<q.2)
theorem pr_pw(n:Nat):∀m,(prU n m).Pairwise lx
 | 0=>List.Pairwise.nil
 | m+1=>by
  refine List.pairwise_append.2 ⟨pr_pw n m,?_,λp d q e=>?_⟩
  .unfold Ztk;rw [List.pairwise_map];exact(List.pairwise_lt_range).imp λ{a b} h=> .inr ⟨rfl,O⟩
  .obtain⟨a,b⟩:=p;obtain⟨c,_⟩:=Zwn d;obtain⟨j,f,rfl⟩:=List.mem_map.1 e;exact .inl c
theorem Ygk{n:Nat}{y:Nat×Nat}(m:(prs n)[k]? = some x)(l:y.1<y.2/\y.2<n)(h:lx y x):∃j,j<k/\(prs n)[j]? = some y:=by
 obtain⟨a,b⟩:=y;dsimp only at l;have d:=Ygl (n:=n) (i:=a) (k:=b) O O l.2;refine⟨_,?_,d⟩;obtain⟨p,f⟩:=List.getElem?_eq_some_iff.1 m;obtain⟨o,e⟩:=List.getElem?_eq_some_iff.1 d;rcases Nat.lt_trichotomy ((prU n a).length+(b-(a+1))) k with c|c|c
 .exact c
 .exfalso;subst c;rw [f]at e;subst e;rcases h with h|h<;>omega
 .exfalso;have:=List.pairwise_iff_getElem.1 (pr_pw n n) k _ p o c;rw [f,e]at this;rcases h with h|h<;>rcases this with g|g<;>omega
def PrI(D:Int)(ls:List PT)(k:Nat):Prop:=∀j p,j<k->(prs ls.length)[j]? = some p->Ba D 1 1 (pth ls p.1) (pth ls p.2)=true
theorem prI_s(h:PrI D ls k)(g:(prs ls.length)[k]? = some x)(e:Ba D 1 1 (pth ls x.1) (pth ls x.2)=true):PrI D ls (k+1):=λj p f d=>by
 rcases Nat.lt_succ_iff_lt_or_eq.1 f with c|c
 .exact h j p c d
 .subst c;rw [g]at d;cases d;exact e
theorem prI_A(h:PrI D ls k)(g:(prs ls.length)[k]? = some x):ClA D 1 1 ls x.1/\ClB D 1 1 ls x.1 x.2/\x.1<x.2/\x.2<ls.length:=by
 obtain⟨-,l,m⟩:=Zwn (List.mem_of_getElem? g);refine⟨λa b d e n=>?_,λb d e=>?_,l,m⟩
 .obtain⟨j,f,c⟩:=Ygk (y:=(a,b)) g ⟨d,e⟩ (.inl n);have:=h j (a,b) f c;exact this
 .obtain⟨j,f,c⟩:=Ygk (y:=(x.1,b)) g ⟨d,show b<ls.length by omega⟩ (.inr ⟨rfl,e⟩);have:=h j (x.1,b) f c;exact this
theorem Ym7(h:PrI D ls (prs ls.length).length):ClR D 1 1 ls ((0,0,0,0),false,0):= .inl ⟨rfl,λa b d e f=>by have c:=Ygl (n:=ls.length) (i:=a) (k:=b) f d e;have:=h _ (a,b) (List.getElem?_eq_some_iff.1 c).1 c;exact this⟩
theorem Ym6(h:PrI D ls k)(l:(prs ls.length)[k]? = some x)(c:Ip (pth ls x.1) (pth ls x.2)≠0):ClR D 1 1 ls ((0,0,0,0),false,Ip (pth ls x.1) (pth ls x.2)):=by obtain⟨e,f,g,j⟩:=prI_A h l;have:=Yj7 e f g j (ap_e c);have m:Nl D 1 1 (pth ls x.1) (pth ls x.2)=[]:=Zw5 λd=>c (by unfold Ip;rw [d];rfl);unfold clV at this;rw [m]at this;exact this
theorem Zw6{x:GpT}(c:(zs.filter λz=>Cd z.2.2)[0]? = some x):Zaj (zs.map unP)=(x.1.1,x.1.2,true):=by
 induction zs with
 | nil=>cases c
 | cons z zs d=>
  cases hn:Cd z.2.2 with
  | true=>
   rw [List.filter_cons_of_pos (by exact hn)]at c;have c:some z=some x:=c;obtain rfl:z=x:=Option.some.inj c;have e:Zqk ((z::zs).map unP)=some (unP z):=List.find?_cons_of_pos (by exact hn);unfold Zaj;rw [e];rfl
  | false=>
   rw [List.filter_cons_of_neg (by rw [hn];exact Bool.false_ne_true)]at c;have e:Zqk ((z::zs).map unP)=Zqk (zs.map unP):=List.find?_cons_of_neg (by rw [show Cd (unP z).2.2=false from hn];exact Bool.false_ne_true);have:=d c;unfold Zaj at this ⊢;rw [e];exact this
theorem Ym5{e:Nat}{y:GpT}(h:PrI D ls k)(o:(prs ls.length)[k]? = some x)(f:¬Ip (pth ls x.1) (pth ls x.2)≠0)(d:zs.map unP=Nl D 1 1 (pth ls x.1) (pth ls x.2))(n:e=0)(c:(zs.filter λz=>Cd z.2.2)[e]? = some y) :
  ClR D 1 1 ls (((x.1:Int),(x.2:Int),y.1.1,y.1.2),true,0):=by
 subst n;obtain⟨g,j,l,m⟩:=prI_A h o;have:=Yj7 g j l m (Zmh d c);unfold clV at this;rw [<-d,Zw6 c,Decidable.not_not.1 f]at this;exact this
def vidx_t(hi:i<ls.length)(h:Xn (pth ls i)=false):Zfa ls=false:=Ylm (x:=ls.getD i PT0) (Ze hi) h
end Go.Sky
namespace Go.Sky
variable{D d:Int}{a b:List Zj}
def dfA(p q:List Int)(e c:Int)(t:Rat):Rat:=Zd p t*(c:Rat)-Zd q t*(e:Rat)
theorem Ymw(p q:List Int)(a b:Int)(t:Rat):Zd (dfP p q a b) t=dfA p q a b t:=by unfold dfP dfA;rw [Yf0,Gz,Gz,Ny,Ny];grind
theorem Zo3(p q:List Int)(a b k:Int)(t:Rat):Zd (sqK p q a b k) t=((k:Rat)*dfA p q a b t)*((k:Rat)*dfA p q a b t):=by unfold sqK dfK;rw [Yi,Gz,Ymw]
def fvE(D n d e c:Int)(x y z f g h:List Int)(t:Rat):Rat:=
 ((d:Rat)*dfA x f e c t)*((d:Rat)*dfA x f e c t)+((d:Rat)*dfA y g e c t)*((d:Rat)*dfA y g e c t)+((n:Rat)*dfA z h e c t)*((n:Rat)*dfA z h e c t)
  - ((D:Rat)*(d:Rat)*(e:Rat)*(c:Rat))*((D:Rat)*(d:Rat)*(e:Rat)*(c:Rat))
theorem Ymx(D d e c:Int)(t:Rat):Zd (cnZ D d e c) t=- (((D:Rat)*(d:Rat)*(e:Rat)*(c:Rat))*((D:Rat)*(d:Rat)*(e:Rat)*(c:Rat))):=by show Zd (Zm (Zm (Zm (Zm (Zm (Zm (Zm (Zm [-1] D) D) d) d) e) e) c) c) t=_;simp only [Gz];rw [show Zd [-1] t=(-1:Rat)from by show((-1:Int):Rat)+t*0=_;grind];grind
theorem Zy7(D n d e c:Int)(x y z f g h:List Int)(t:Rat):Zd (smZ D n d e c x y z f g h 3) t=fvE D n d e c x y z f g h t:=by show Zd (Hh (Hh (Hh (cnZ D d e c) (fqZ n d e c x y z f g h 0)) (fqZ n d e c x y z f g h 1)) (fqZ n d e c x y z f g h 2)) t=_;rw [Zkr,Zkr,Zkr,Ymx];show _+Zd (sqK x f e c d) t+Zd (sqK y g e c d) t+Zd (sqK z h e c n) t=_;rw [Zo3,Zo3,Zo3];unfold fvE;grind
def Yea(D n d e c:Int)(x y z f g h:List Int):Tr (smZ D n d e c x y z f g h 3):=Qc _
theorem negZ{n g c:Int}{x y z i j k:List Int}(h:Cvd (fmZ D n d g c x y z i j k)):Cd (fmZ D n d g c x y z i j k)=false↔∀t:Rat,0<=t->t<=1->0<=fvE D n d g c x y z i j k t:=by
 have f:Cd (fmZ D n d g c x y z i j k)=true↔Zx7 (fmZ D n d g c x y z i j k) (qv (0,1)) (qv (1,1)):=Zpy h O2 O2 O6;have o:qv (0,1)=0:=O6;have p:qv (1,1)=1:=O6;rw [o,p]at f;rw [<-Bool.not_eq_true,f];constructor
 .intro r t l m;refine Rat.not_lt.1 λe=>r ⟨t,l,m,?_⟩;unfold fmZ;rw [Zt0 (Yea ..),Zy7];exact e
 .rintro q ⟨t,l,m,e⟩;unfold fmZ at e;rw [Zt0 (Yea ..),Zy7]at e;exact absurd (q t l m) (Rat.not_le.2 e)
theorem sq_le{a b c:Rat}(f:0<=a)(h:a<=b):(a*c)*(a*c)<=(b*c)*(b*c):=by have e:=Rat.mul_nonneg (show 0<=b-a by grind) (show 0<=b+a by grind);have g:=Rat.mul_nonneg e (sq_nn c);grind
theorem Yn8{n f n':Int}(d g e:Int)(x y z i j h:List Int)(t:Rat)(k:0<=f)(l:f<=D)(m:0<=n)(o:n<=n'):fvE D n d g e x y z i j h t<=fvE f n' d g e x y z i j h t:=by
 have p:(0:Rat)<=(f:Rat):=by exact_mod_cast k
 have q:(f:Rat)<=(D:Rat):=by exact_mod_cast l
 have r:(0:Rat)<=(n:Rat):=by exact_mod_cast m
 have s:(n:Rat)<=(n':Rat):=by exact_mod_cast o
 have u:=sq_le (c:=(d:Rat)*(g:Rat)*(e:Rat)) p q;have v:=sq_le (c:=dfA z h g e t) r s;unfold fvE;grind
def fvU(D n d:Int)(g h:Zm0)(t:Rat):Rat:=fvE D n d g.1.2.2 h.1.2.2 g.2.1 g.2.2.1 g.2.2.2 h.2.1 h.2.2.1 h.2.2.2 t
theorem Yoa(l:List GpU):(Zaj l).2.2=false↔∀g∈l,Cd g.2.2=false:=by
 constructor
 .intro h g c;cases he:Zqk l with
  | some q=>unfold Zaj at h;rw [he]at h;cases h
  | none=>
   have:=List.find?_eq_none.1 he g c;cases hn:Cd g.2.2 with
   | false=>rfl
   | true=>exact absurd hn this
 .intro h;have:Zqk l=none:=List.find?_eq_none.2 λg c=>by rw [h g c];exact Bool.false_ne_true
  unfold Zaj;rw [this]
theorem Ydv{α β γ:Type}(f:α->β->γ)(x:γ):∀(l:List α) (m:List β),x∈List.zipWith f l m↔∃g h,(g,h)∈l.zip m/\f g h=x
 | [],m=>O7
 | _::_,[]=>O7
 | a::l,b::m=>by
  rw [List.zipWith_cons_cons,List.mem_cons,Ydv f x l m,List.zip_cons_cons];constructor
  .rintro(rfl|⟨g,h,i,e⟩)
   .exact⟨a,b,.head _,rfl⟩
   .exact⟨g,h,.tail _ i,e⟩
  .rintro⟨g,h,i,e⟩;rcases List.mem_cons.1 i with c|c
   .cases c;exact .inl e.symm
   .exact .inr ⟨g,h,c,e⟩
theorem ap_e2{n:Int} : Ba D n d a b=true↔Ip a b=0/\(Zaj (Nl D n d a b)).2.2=false:=by unfold Ba;rw [Bool.and_eq_true,decide_eq_true_eq,Bool.not_eq_true']
theorem Ykx{n:Int}(f:∀g∈Nl D n d a b,Cvd g.2.2):Ba D n d a b=true↔Ip a b=0/\∀g h,(g,h)∈(Mj a b a).zip (Mj a b b)->∀t:Rat,0<=t->t<=1->0<=fvU D n d g h t:=by
 rw [ap_e2,Yoa];have c:∀x,x∈Nl D n d a b↔∃g h,(g,h)∈(Mj a b a).zip (Mj a b b)/\gpZ D n d g h=x:=λx=>Ydv _ x _ _;generalize (Mj a b a).zip (Mj a b b)=Z at c;generalize Nl D n d a b=L at c f;refine and_congr Iff.rfl ⟨λh g q k=>?_,λh g l=>?_⟩
 .have j:gpZ D n d g q∈L:=(c _).2 ⟨g,q,k,rfl⟩;have i:=f _ j;have m:=h _ j;simp only [gpZ]at i m;exact(negZ i).1 m
 .obtain⟨p,q,k,e⟩:=(c g).1 l;have i:=f g l;rw [<-e]at i ⊢;simp only [gpZ]at i ⊢;exact(negZ i).2 (h p q k)
theorem Ypy{n f n':Int}(i:∀g∈Nl D n d a b,Cvd g.2.2)(c:∀g∈Nl f n' d a b,Cvd g.2.2)(j:0<=f)(k:f<=D)(l:0<=n)(m:n<=n')(h:Ba D n d a b=true):Ba f n' d a b=true:=by obtain⟨e,o⟩:=(Ykx i).1 h;exact(Ykx c).2 ⟨e,λg q p t t0 t1=>Rat.le_trans (o g q p t t0 t1) (Yn8 d _ _ _ _ _ _ _ _ t j k l m)⟩
end Go.Sky

