/- Rules, arithmetic and contracts: part 17. No conditions but those that each theorem names. -/
import Derived.Test.YtlnoheikolgejaaGreatLc15
set_option linter.all false
set_option maxHeartbeats 4000000
namespace Go.Sky
open Go.RowKit Below
variable {P:Program} {N:Nat} {sc:Nat->Prop} {env env':Px} {H H':Hp} {Q Q':Exit->Act->World->Prop} {M:Nat->Prop}
def emp:Pc:=⟨false,λ_=>False,λ_=>True,λ_ _ _ h=>h.elim,λ_ _ _ _=>trivial⟩
def l3(z:Zv)(i:Nat):SL×List Int:=Zt i z.2.1 z.2.2.1 z.2.2.2
def Sat.drop{a:Act}{w:World}(h:Sat N sc env H a w)(j:Nat):Sat N sc env ((j,emp)::H) a w:=
 h.add j emp aA (λ_ _ _ _ _ _ b=>b.elim) (λ_ b=>b.elim)
end Go.Sky
namespace Go.Sky
def sR(g:Zv)(t:Rat):Rat:=(t-(g.1.1:Rat))/((g.1.2.1-g.1.1:Int):Rat)
def pzQ(g:Zv)(i:Nat)(s:Rat):Rat:=spX g i s/(g.1.2.2:Rat)
structure Mvd (y:Int) (v:Nat->Rat) (a c:List Zv):Prop where
 len:c.length=a.length
 t1:∀k,k<a.length->(c.getD k G0).1.1=(a.getD k G0).1.1+y
 t2:∀k,k<a.length->(c.getD k G0).1.2.1=(a.getD k G0).1.2.1+y
 ck:∀k,k<a.length->∀fr to,Hc fr to (a.getD k G0)=true->Zew (fr+y) (to+y) (c.getD k G0)=Zew fr to (a.getD k G0)
 pl:∀k,k<a.length->∀(t:Rat) i,i<3->pzQ (c.getD k G0) i (sR (c.getD k G0) (t+(y:Rat)))=pzQ (a.getD k G0) i (sR (a.getD k G0) t)+v i
section
variable {y:Int} {v w:Nat->Rat} {a b c d:List Zv}
def Mvd.F(h:Mvd y v a c)(e:0<a.length):spF c=spF a+y:=h.t1 0 e
theorem Mvd.L(h:Mvd y v a c)(e:0<a.length):spL c=spL a+y:=by unfold spL;rw [h.len];exact h.t2 _ O
variable (hpa:∀g∈a,Gin g) (hpb:∀g∈b,Gin g) (hba:Qg a=true) (hbb:Qg b=true) (hpc:∀g∈c,Gin g) (hpd:∀g∈d,Gin g) (hbc:Qg c=true) (hbd:Qg d=true)
include hpa hpb hba hbb hpc hpd hbc hbd
end
end Go.Sky
namespace Go.Sky
variable{d:Int}{r:Rat}{m:Nat}
structure QOK (n d:Int) (r:Rat) (m:Nat):Prop where
 p:0<d
 v:(n:Rat)=r*(d:Rat)
 a:bl n.natAbs<=m
 b:bl d.natAbs<=m
theorem QOK.ne{n:Int}(h:QOK n d r m):d≠0:=by have:=h.p;omega
def QOK.mono{n:Int}{k:Nat}(h:QOK n d r m)(a:m<=k):QOK n d r k:=⟨h.p,h.v,aB h.a a,aB h.b a⟩
def QOK.cg{n:Int}{s:Rat}(h:QOK n d r m)(e:r=s):QOK n d s m:=e▸h
section
variable {P:Program} {N:Nat} {sc:Nat->Prop} {env:Px} {H:Hp}
end
end Go.Sky
namespace Go.Sky
open Go Go.MapKept
variable{o:Oper}{t:TypeId}{w0:World}{M0:Nat->Prop}{es:List (Int×Value)}
variable {P:Program} {N:Nat} {sc:Nat->Prop} {env env':Px} {H H':Hp} {Q Q':Exit->Act->World->Prop} {M:Nat->Prop}
def mpe(a:Array MapEntry)(es:List (Int×Value)):Prop:=a.toList.map (λe=>(e.key,e.val))=es.map λp=>(Value.int .i64 p.1,p.2)
def mpi(b:Nat)(es:List (Int×Value)):Pc:=
 {own:=true,fp:=λk=>k=b,holds:=λw=>∃a n,w.heap[b]? = some (.map a n)/\mpe a es
  lt:=λw k h f=>by subst f;obtain⟨_,_,h,_⟩:=h;exact(aT.1 h).1
  stable:=λw i h e=>by obtain⟨a,n,c,d⟩:=h;exact⟨a,n,(e.block b (aT.1 c).1 (λg=>g rfl)).trans c,d⟩ }
def mfi:List (Int×Value)->Int->Nat->Option (Nat×Value)
 | [],_,_=>none
 | (a,v)::r,k,i=>if k=a then some (i,v)else mfi r k (i+1)
theorem fn_i(k:Int):∀(l:List MapEntry) (es:List (Int×Value)) (i:Nat),l.map (λe=>(e.key,e.val))=es.map (λp=>(Value.int .i64 p.1,p.2))->Instr.findNow (.int .i64) (.int .i64 k) l i=some (mfi es k i)
 | [],[],_,_=>rfl
 | [],_::_,_,h=>by cases h
 | _::_,[],_,h=>by cases h
 | e::l,(a,v)::es,i,h=>by
  simp only [bQ,List.cons.injEq,Prod.mk.injEq]at h;obtain⟨⟨c,d⟩,f⟩:=h;by_cases b:k=a
  .subst b;simp [Instr.findNow,c,d,Instr.sameNow,mfi]
  .have g:(k == a)=false:=by simpa using b
   simp [Instr.findNow,c,Instr.sameNow,g,mfi,b,fn_i k l es (i+1) f]
theorem t_mmi   {d i:Nat}   (j:o.op= .makeMap t none) (h:o.dst=some d) (f:Nat.blt d N=true)
  (c:lk H 0=some (Xu w0 M0)) (l:∀b,w0.heap.size<=b->sc b) :
  T P N sc M o env H (G:=Nat) (λ_=>True) (λb=>(d,.map (some b))::env) (λb=>(i,mpi b [])::H):=λa w hs K Q e=>by
 have k:(execOp a.eval o).run P w= .ok (.value (.map (some w.heap.size))) (w.alloc (.map #[] 0)):=by simp only [execOp,j,Sem.run_bind,Option.map_none];rfl
 unfold Oper.wp;rw [k];show K (a.put o.dst _) _;rw [h];exact e w.heap.size _ _ aA ((hs.new c l i (mpi w.heap.size []) (.map #[] 0) ⟨#[],0,heap_alloc_new w _,rfl⟩ (λb g=>g)).put d _ f) (Chg.alloc _ _ _)
theorem Yhd (i:Nat)  {kt B:TypeId} {x y z:Operand} {b:Nat} {k:Int} {v:Value}    (V:o.op= .insert t x y z) (R:o.dst=none)
  (Z:ev env x=some (.map (some b))) (hy:ev env y=some (.int .i64 k)) (hz:ev env z=some v) (p:lk H i=some (mpi b es)) (m:mfi es k 0=none) (j:i≠0) (S:P.underlying t=some (.map kt B)) (d:P.underlying kt=some (.int .i64))
  (D:lk H 0=some (Xu w0 M0)) (Y:∀b,w0.heap.size<=b->sc b) (I:M b) :
  T P N sc M o env H (G:=Unit) (λ_=>True) (λ_=>env) (λ_=>(i,mpi b (es ++ [(k,v)]))::H):=λa w hs K Q F=>by
 obtain⟨c,n,h,s⟩:∃c n,w.heap[b]? = some (.map c n)/\mpe c es:=hs.hold i _ p;have l:b<w.heap.size:=(aT.1 h).1;have u:=fn_i k _ _ 0 s;rw [m]at u;have W:(execOp a.eval o).run P w= .ok .skip { w with heap:=w.heap.setIfInBounds b (.map (c.push ⟨.int .i64 k,v,n⟩) (n+1)) }:=by simp [execOp,V,hs.ev Z,hs.ev hy,hs.ev hz,Instr.mapUpdate,run_underlying S,Go.MapKept.run_getObj_map h,run_checkKey d (show IsKey (.int .i64) (.int .i64 k)from rfl),run_findKey d u,Go.MapKept.run_setObj_map _ h]
 unfold Oper.wp;rw [W];show K (a.put o.dst _) _;rw [R];have r:∀f:Nat->Prop,f b->Chg f w { w with heap:=w.heap.setIfInBounds b (.map (c.push ⟨.int .i64 k,v,n⟩) (n+1)) }:=λf g=>
  ⟨rfl,rfl,rfl,O5,λk d m=>by have:b≠k:=λe=>m (e▸g);simp [gL,this]⟩
 exact F () _ _ aA ((hs.upd p rfl j (q:=mpi b (es ++ [(k,v)])) (r (λk=>k=b) rfl) ⟨_,_,by simp only [gL,l,jF];rfl,by unfold mpe at *;simp [s]⟩ (λk d=> .inl d) D Y).put_none undef) (r _ I)
end Go.Sky
namespace Go.Sky
variable{b a ax ay az bx b2 bz:Int}{es:List (Int×Value)}{v1 v2:Value}
def Zfh(a b:Int)(c:List Int):List Int:=a::(if a=b then []else c.map λf=>f*(b-a))
abbrev Zpv:List Int:=[0,0,10,-15,6]
open Go Go.MapKept
variable {P:Program} {N:Nat} {sc:Nat->Prop} {env env':Px} {H H':Hp} {Q Q':Exit->Act->World->Prop} {M:Nat->Prop}
def mro(b:Nat)(es:List (Int×Value)):Pc:={ mpi b es with own:=false }
theorem s_pubm{b:Nat}(i:Nat)(hi:lk H i=some (mpi b es))(h:Nat.beq i 0=false):∀a w,Sat N sc env H a w->Sat N sc env ((i,mro b es)::H) a w:=λa w hs=>by have g:i≠0:=λe=>O10;exact hs.add i _ (show(mpi b es).holds w from hs.hold i _ hi) (λj m k l _ c d f=>hs.sep i j _ m (λe=>k e.symm) hi l rfl c d f) (λc d=>hs.scope i _ g hi c d)
theorem d_mlr {o:Oper} {t kt f:TypeId} {x y:Operand} {i b:Nat} {k:Int}  {r:Value} {j:Nat} (q:o.op= .lookup t x y false)
  (s:ev env x=some (.map (some b))) (u:ev env y=some (.int .i64 k)) (g:lk H i=some (mro b es)) (p:P.underlying t=some (.map kt f)) (e:P.underlying kt=some (.int .i64))
  (m:mfi es k 0=some (j,r)):Mr P N sc o env H r:=λa w hs=>by
 obtain⟨c,n,h,l⟩:∃c n,w.heap[b]? = some _/\mpe c es:=hs.hold i _ g;have d:=fn_i k _ _ 0 l;rw [m]at d;simp [execOp,q,hs.ev s,hs.ev u,Instr.lookup,run_underlying p,Go.MapKept.run_getObj_map h,run_checkKey e (show IsKey _ (.int _ k)from rfl),run_findKey e d]
def rwK(k:Int):List Int:=if k=0 then []else if k=1 then [1]else Zpv
def row3(k:Int)(v1 v2:Value):Value:=if k=0 then .slice none 0 0 else if k=1 then v1 else v2
theorem mf_row{k:Int}(c:k=0\/k=1\/k=2):mfi [(0,.slice none 0 0),(1,v1),(2,v2)] k 0=some (k.toNat,row3 k v1 v2):=by rcases c with rfl|rfl|rfl<;>rfl
theorem s_row{k:Int}(l:k=0\/k=1\/k=2)(f i2 j:Nat)(g:lk H f=some (Yl 1 Zz v1 [1]))(i:lk H i2=some (Yl 1 Zz v2 Zpv))(d:Nat.beq f 0=false)(e:Nat.beq i2 0=false) :
  ∀a w,Sat N sc env H a w->Sat N sc env ((j,Yl 1 Zz (row3 k v1 v2) (rwK k))::H) a w:=λa w hs=>by
 rcases l with rfl|rfl|rfl
 .exact hs.add j _ (Gr 1 _ w) (λ_ _ _ _ _ b c _=>absurd rfl c.1) (λb c=>absurd rfl c.1)
 .exact Zbd f j g d rfl (λw h=>h) (λb c=>c) rfl a w hs
 .exact Zbd i2 j i e rfl (λw h=>h) (λb c=>c) rfl a w hs
theorem Yiq{k:Int} : ∀f∈rwK k,-15<=f/\f<=15:=by unfold rwK;grind
theorem trm_s{c:List Int}{k:Nat}(d:k<c.length):(a::((c.take (k+1)).map λf=>f*(b-a)))=(a::((c.take k).map λf=>f*(b-a))) ++ [c.getD k 0*(b-a)]:=by rw [Qz 0 _ _ d,cI];rfl
theorem trm_e (c:List Int)(h:a=b):Zfh a b c=[a]:=by unfold Zfh;grind
theorem trm_n{c:List Int}{k:Nat}(h:a≠b)(d:c.length<=k):Zfh a b c=a::((c.take k).map λf=>f*(b-a)):=by unfold Zfh;rw [aJ h,bR d]
theorem mulB(g:-33554432<=a/\a<=33554432)(h:-33554432<=b/\b<=33554432):-1125899906842624<=a*b/\a*b<=1125899906842624:=by have c:=cP (show 0<=33554432-a by omega) (show 0<=33554432-b by omega);have d:=cP (show 0<=33554432+a by omega) (show 0<=33554432+b by omega);have e:=cP (show 0<=33554432-a by omega) (show 0<=33554432+b by omega);have f:=cP (show 0<=33554432+a by omega) (show 0<=33554432-b by omega);grind
def Zcv(ax ay az bx b2 bz fr c:Int):Bool:=ptB ax ay az && (ptB bx b2 bz && decide (0<=fr/\fr<c/\c<=3600000))
theorem Zwa{fr c:Int}(d:ptB ax ay az=false):Zcv ax ay az bx b2 bz fr c=false:=by unfold Zcv;grind
theorem Zv9{fr c:Int}(d:ptB bx b2 bz=false):Zcv ax ay az bx b2 bz fr c=false:=by unfold Zcv;grind
theorem Znd{fr c:Int}(h:¬(0<=fr/\fr<c/\c<=3600000)):Zcv ax ay az bx b2 bz fr c=false:=by unfold Zcv;grind
theorem Yr5{fr c:Int}(h:Zcv ax ay az bx b2 bz fr c=true):ptB ax ay az=true/\ptB bx b2 bz=true/\0<=fr/\fr<c/\c<=3600000:=by unfold Zcv at h;grind
def glG(ax ay az bx b2 bz fr c k:Int)(r:SL×SL×SL):Zv:=((fr,c,1),(r.1,Zfh ax bx (rwK k)),(r.2.1,Zfh ay b2 (rwK k)),(r.2.2,Zfh az bz (rwK k)))
theorem Zx3{k:Int} : (rwK k).length<=5:=by unfold rwK;split;decide;split<;>decide
theorem Zpu{fr c:Int}(d:ptB ax ay az=true)(e:ptB bx b2 bz=true)(f:0<=fr)(g:fr<c):Zcv ax ay az bx b2 bz fr c=decide (c<=3600000):=by unfold Zcv;grind
theorem Zce(xs:List Nat)(k:Nat):(xs.map λn:Nat=>(n:Int)).getD k 0=((xs.getD k 0:Nat):Int):=by grind
@[reducible,instance] def roiM {b:Nat} {es:List (Int×Value)} : RoI (mro b es):=⟨rfl⟩
end Go.Sky
namespace Go.Sky
open Go.Proofs.Tryz
open Go.Proofs
set_option synthInstance.maxHeartbeats 0
set_option synthInstance.maxSize 100000
set_option maxRecDepth 20000
set_option linter.unusedSimpArgs false
variable{ax ay az bx by_ bz:Int}
theorem Yr6:Cal prog 335 #[] [] true (G:=Nat×SL×SL) (λr=>True) (λr=> .map (some r.1)) (λr=>[mro r.1 [(0,.slice none 0 0),(1,Xd r.2.1),(2,Xd r.2.2)],Yl 1 Zz (Xd r.2.1) [1],Yl 1 Zz (Xd r.2.2) Zpv]):=by refine Zg func335 ntmps335 λk j a d=>go 7 ?_;refine tt (t_mmi (i:=1) J J J J a.h) J (λh _=>?_);refine tt (Yhd 1 J J J J J J (by simp [mfi]) O3 underlying422 underlying281 J a.h aA) J (λ_ _=>?_);refine tt (Xc [(0,_)] 2 (enc:=Zz) ([1]:List Int) J J K2 Qi ti3 J J J J J pZ.cells J J a.h) J (λv _=>?_);refine tt (Yhd 1 J J J J J J (by simp [mfi]) O3 underlying422 underlying281 J a.h aA) J (λ_ _=>?_);refine tt (Xc [(0,_),(1,_),(2,_),(3,_),(4,_)] 3 (enc:=Zz) ([0,0,10,-15,6]:List Int) J J K10 Qi ti3 J J J J J pZ.cells J J a.h) J (λg _=>?_);refine tt (Yhd 1 J J J J J J (by simp [mfi]) O3 underlying422 underlying281 J a.h aA) J λ_ _=>go 5 ?_;refine Zn (s_pubm 1 J J)<|Zn (Xa 2 J J pZ)<|Zfd (Xj 2 J Zl) (λe b=>?_);subst b;refine Zn (Xa 3 J J pZ)<|Zfd (Xj 3 J Zl) (λf c=>?_);subst c;exact Yp d (_,e,f) results335 J aA (Pb 1 (Pb 2 (Pb 3 Za)))
theorem Zne{v:Value}(a b:Int)(c:List Int)(t:-4194304<=a/\a<=4194304)(u:-4194304<=b/\b<=4194304)(h:∀f∈c,-15<=f/\f<=15)(x:c.length<=5):Cal prog 336 #[.int .i64 a,.int .i64 b,v] [Yl 1 Zz v c] true (G:=SL) (λr=>True) (λr=>Xd r) (λr=>[Yl 1 Zz (Xd r) (Zfh a b c)]):=by
 refine Zg func336 ntmps336 λD z n j=>go 8 ?_;refine tt (Xc [(0,_)] 2 (enc:=Zz) ([a]:List Int) J J K2 Qi ti3 J J J J J pZ.cells J J n.h) J λv _=>go 11 ?_;refine Ze J (λg=>?_) (λg=>?_)
 .refine go 8 ?_;refine lp (G:=Nat×Value) [0,1,15,16] [0,1] (λq=>[(17,.int .i64 (q.1:Int)),(7,q.2)]) (λq=>[(2,Oe 1 3 Zz q.2 (a::((c.take q.1).map λf=>f*(b-a))))]) (λq=>q.1<=c.length) (λq=>c.length-q.1) (0,_) O1 K2 K1 ?_;rintro⟨k,B⟩ o;dsimp only at o;dsimp only;refine go 6<|Ze J (λm=>?_) (λm=>?_)
  .refine go 6 ?_;refine dt (Zs 1 k J J J J Zl Qi Lm J)<|go 4 ⟨O,?_⟩;have w:=h _ (Zd (zs:=c) (i:=k) (d:=0) O);have y:=mulB (a:=c.getD k 0) (b:=b-a) ⟨O,O⟩ ⟨O,O⟩;refine go 7 ⟨O,O,?_⟩;refine tt (Xc [(0,_)] 3 (enc:=Zz) ([c.getD k 0*(b-a)]:List Int) J J K2 Qi ti3 J J J J J pZ.cells J J n.h) J (λp _=>?_);refine tt (Pk 2 3 8 J J J J J J O3 J (Yb pZ) Qi ti3 J pZ J J J O8 O3 J n.h) J (λs _=>?_);refine go 8 ⟨O,?_⟩;exact Ye (k+1,_) O1 O1 K2 ⟨by rw [trm_s O];rfl,aA⟩
  .refine go 12<|Zn (Xa 2 J J pZ) ?_;refine Zfd (Xj 2 J Zl) (λl e=>?_);subst e;exact Yp j l results336 J aA (Pb 2 Za (aD (Yl 1 Zz (Xd l)) (trm_n g O).symm))
 .refine go 9<|Zn (Xa 2 J J pZ) ?_;refine Zfd (Xj 2 J Zl) (λl e=>?_);subst e;exact Yp j l results336 J aA (Pb 2 Za (aD (Yl 1 Zz (Xd l)) (trm_e c (a:=a) (b:=b) O).symm))
theorem gl_leg{fr p k:Int}(o:k=0\/k=1\/k=2)(e:-4194304<=ax/\ax<=4194304)(f:-4194304<=ay/\ay<=4194304)(g:-4194304<=az/\az<=4194304)(h:-4194304<=bx/\bx<=4194304)(b:-4194304<=by_/\by_<=4194304)(j:-4194304<=bz/\bz<=4194304):Cal prog 271 #[.agg #[.int .i64 ax,.int .i64 ay,.int .i64 az],.agg #[.int .i64 bx,.int .i64 by_,.int .i64 bz],.int .i64 fr,.int .i64 p,.int .i64 k] [] true (G:=SL×SL×SL) (λr=>True) (λr=> .agg #[.int .i64 fr,.int .i64 p,.int .i64 1,Xd r.1,Xd r.2.1,Xd r.2.2]) (λr=>[Yl 1 Zz (Xd r.1) (Zfh ax bx (rwK k)),Yl 1 Zz (Xd r.2.1) (Zfh ay by_ (rwK k)),Yl 1 Zz (Xd r.2.2) (Zfh az bz (rwK k))]):=by refine Zg func271 ntmps271 λu t s l=>go 2 ?_;refine Yj (Yg 1) λbq _=>Yj (Yg 2) λm _=>Yj (Yd 3) λn _=>go 4 ?_;refine cl 4 [] Yr6 λrw _=>go 1 ?_;refine dt (d_mlr (i:=4) J J J J underlying422 underlying281 (mf_row o))<|go 4 ?_;refine Zf (s_row o 5 6 60 J J J J)<|Qa (λ_=>False) [(0,0),(1,0),(2,0),(3,0),(4,0),(5,0),(6,0),(8,0),(9,0),(10,0),(11,0),(12,0),(14,0),(15,0),(16,0),(17,0),(18,0),(7,1),(13,1),(19,1),(20,0),(21,3)]<|go 17<|Yq (Zo 7 [60] (Zne ax bx (rwK k) e h Yiq Zx3)) λq _=>Yq (Zo 8 [60] (Zne ay by_ (rwK k) f b Yiq Zx3)) λc _=>Yq (Zo 9 [60] (Zne az bz (rwK k) g j Yiq Zx3)) λd _=>?_;refine Yz J J (Xn (Qe [(0,_),(1,_),(2,_),(3,_),(4,_),(5,_)] J K12 (λa w hs=>Zdx ((Zk J) a w hs) ((Zk J) a w hs) ((Zk J) a w hs) ((Pj 7 J Zl) a w hs) ((Pj 8 J Zl) a w hs) ((Pj 9 J Zl) a w hs))))<|go 4 ?_;exact Yp l (q,c,d) results271 J aA (Pb 7 (Pb 8 (Pb 9 Za)))
theorem Zwb{fr g:Int}:Cal prog 237 #[.agg #[.int .i64 ax,.int .i64 ay,.int .i64 az],.agg #[.int .i64 bx,.int .i64 by_,.int .i64 bz],.int .i64 fr,.int .i64 g] [] true (G:=Unit) (λ_=>True) (λ_=> .bool (Zcv ax ay az bx by_ bz fr g)) (λ_=>[]):=by
 refine Zg func237 ntmps237 λj i h a=>go 2 ?_;refine Yj (Yg 1) λbq _=>Yj (Yg 2) λf _=>go 6 ?_;refine cl 2 [] (Yg1 _ _ _) λ_ _=>go 1<|Ly 11 J (λe=>?_) (λe=>?_)
 .refine go 1 ?_;refine Gi 2 [] (Yg1 _ _ _) λ_ _=>go 2<|Ly 15 J (λb=>?_) (λb=>?_)
  .refine go 4<|Zy 19 J (λc=>?_) (λc=>?_)
   .refine go 5<|Zy 24 J (λd=>?_) (λd=>?_)
    .refine go 7 ?_;exact Yp a () results237 (by first|exact vB (Zwa ‹_›)|exact vB (Zv9 ‹_›)|exact vB (Znd O)|exact vB (Zpu ‹_› ‹_› O O)) aA Za
    .refine go 7 ?_;exact Yp a () results237 (by first|exact vB (Zwa ‹_›)|exact vB (Zv9 ‹_›)|exact vB (Znd O)|exact vB (Zpu ‹_› ‹_› O O)) aA Za
   .refine go 12 ?_;exact Yp a () results237 (by first|exact vB (Zwa ‹_›)|exact vB (Zv9 ‹_›)|exact vB (Znd O)|exact vB (Zpu ‹_› ‹_› O O)) aA Za
  .refine go 16 ?_;exact Yp a () results237 (by first|exact vB (Zwa ‹_›)|exact vB (Zv9 ‹_›)|exact vB (Znd O)|exact vB (Zpu ‹_› ‹_› O O)) aA Za
 .refine go 20 ?_;exact Yp a () results237 (by first|exact vB (Zwa ‹_›)|exact vB (Zv9 ‹_›)|exact vB (Znd O)|exact vB (Zpu ‹_› ‹_› O O)) aA Za
theorem Zy0{fr d k:Int}(f:k=0\/k=1\/k=2)(e:Zcv ax ay az bx by_ bz fr d=false):Cal prog 195 #[.agg #[.int .i64 ax,.int .i64 ay,.int .i64 az],.agg #[.int .i64 bx,.int .i64 by_,.int .i64 bz],.int .i64 fr,.int .i64 d,.int .i64 k] [] true (G:=Unit) (λ_=>True) (λ_=> .tuple #[.slice none 0 0,.int .i64 2]) (λ_=>[]):=by refine Zg func195 ntmps195 λi h g a=>go 2 ?_;refine Yj (Yg 1) λbq _=>Yj (Yg 2) λc _=>go 11 ?_;refine cl 2 [] Zwb λ_ _=>?_;refine dt (dT (Qn J J) (aD (λb=>Value.bool (!b)) e))<|go 11 ?_;exact Nd a () results195 J aA Za
theorem Yl5{fr d k:Int}(t:k=0\/k=1\/k=2)(j:Zcv ax ay az bx by_ bz fr d=true):Cal prog 195 #[.agg #[.int .i64 ax,.int .i64 ay,.int .i64 az],.agg #[.int .i64 bx,.int .i64 by_,.int .i64 bz],.int .i64 fr,.int .i64 d,.int .i64 k] [] true (G:=Value×(SL×SL×SL)) (λr=>True) (λr=> .tuple #[r.1,.int .i64 0]) (λr=>[Xv 6 Qv qG r.1 [glG ax ay az bx by_ bz fr d k r.2]]):=by refine Zg func195 ntmps195 λx w u h=>?_;obtain⟨f,g,-,-,-⟩:=Yr5 j;obtain⟨l,m,n⟩:=pt_b f;obtain⟨o,p,s⟩:=pt_b g;refine go 2<|Yj (Yg 1) λbq _=>Yj (Yg 2) λi _=>go 11 ?_;refine cl 2 [] Zwb λ_ _=>?_;refine dt (dF (Qn J J) (aD (λb=>Value.bool (!b)) j))<|go 12 ?_;refine cl 3 [] (gl_leg t ⟨O,O⟩ ⟨O,O⟩ ⟨O,O⟩ ⟨O,O⟩ ⟨O,O⟩ ⟨O,O⟩) λ⟨e,a,c⟩ _=>?_;refine tt (Xc [(0,_)] 6 (enc:=Qv) [glG ax ay az bx by_ bz fr d k (e,a,c)] J J K2 Ny ti116 J J Zsj J J pG.cells J J u.h) J λv _=>go 5 ?_;exact Zn (Xa 6 J J pG)<|Zn (Yh qC 71)<|Zn (Zm (q:=qC) (z:=(glG ax ay az bx by_ bz fr d k (e,a,c)).2.1) 71 3 71 J J J J J)<|Zn (Zm (q:=qC) (z:=(glG ax ay az bx by_ bz fr d k (e,a,c)).2.2.1) 71 4 71 J J J J J)<|Zn (Zm (q:=qC) (z:=(glG ax ay az bx by_ bz fr d k (e,a,c)).2.2.2) 71 5 71 J J J J J)<|Zn (Yh qG 73)<|Zn (Zm (q:=qG) (z:=(glG ax ay az bx by_ bz fr d k (e,a,c))) 73 71 73 J J J J J)<|Zn (Xe 6 73 72 J J J J)<|Nd h (_,e,a,c) results195 J aA (Pb 72 Za)
theorem Yl4(ax ay az bx by_ bz fr b:Int)(d:Zcv ax ay az bx by_ bz fr b=true):Cal prog 126 #[.agg #[.int .i64 ax,.int .i64 ay,.int .i64 az],.agg #[.int .i64 bx,.int .i64 by_,.int .i64 bz],.int .i64 fr,.int .i64 b] [] true (G:=Value×(SL×SL×SL)) (λr=>True) (λr=> .tuple #[r.1,.int .i64 0]) (λr=>[Xv 6 Qv qG r.1 [glG ax ay az bx by_ bz fr b 2 r.2]]):=by refine Zg func126 ntmps126 λg f e a=>go 2 ?_;refine Yj (Yg 1) λbq _=>Yj (Yg 2) λc _=>go 10 ?_;refine cl 3 [] (Yl5 (.inr (.inr J)) d) λ⟨v,q⟩ _=>go 7 ?_;exact Nd a (v,q) results126 J aA (Pb 3 Za)
theorem Zjv(ax ay az bx by_ bz fr c:Int)(d:Zcv ax ay az bx by_ bz fr c=false):Cal prog 125 #[.agg #[.int .i64 ax,.int .i64 ay,.int .i64 az],.agg #[.int .i64 bx,.int .i64 by_,.int .i64 bz],.int .i64 fr,.int .i64 c] [] true (G:=Unit) (λ_=>True) (λ_=> .tuple #[.slice none 0 0,.int .i64 2]) (λ_=>[]):=by refine Zg func125 ntmps125 λg f e a=>go 2 ?_;refine Yj (Yg 1) λbq _=>Yj (Yg 2) λb _=>go 10 ?_;refine cl 2 [] (Zy0 (.inr (.inl J)) d) λ_ _=>go 7 ?_;exact Nd a () results125 J aA Za
theorem Yb8(ax ay az bx by_ bz fr b:Int)(d:Zcv ax ay az bx by_ bz fr b=true):Cal prog 125 #[.agg #[.int .i64 ax,.int .i64 ay,.int .i64 az],.agg #[.int .i64 bx,.int .i64 by_,.int .i64 bz],.int .i64 fr,.int .i64 b] [] true (G:=Value×(SL×SL×SL)) (λr=>True) (λr=> .tuple #[r.1,.int .i64 0]) (λr=>[Xv 6 Qv qG r.1 [glG ax ay az bx by_ bz fr b 1 r.2]]):=by refine Zg func125 ntmps125 λg f e a=>go 2 ?_;refine Yj (Yg 1) λbq _=>Yj (Yg 2) λc _=>go 10 ?_;refine cl 3 [] (Yl5 (.inr (.inl J)) d) λ⟨v,q⟩ _=>go 7 ?_;exact Nd a (v,q) results125 J aA (Pb 3 Za)
end Go.Sky
