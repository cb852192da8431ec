/- Rules, arithmetic and contracts: part 19. No conditions but those that each theorem names. -/
import Derived.Test.YtlnoheikolgejaaGreatLa17
import Derived.Deep.LoopGhost
import Derived.Sort.LoopGhostIn
set_option linter.all false
set_option maxHeartbeats 4000000
namespace Go.Sky
open Go Go.MapKept
variable{o:Oper}{t:TypeId}{w0:World}{M0:Nat->Prop}{es:List (Int×Value)}
variable {P:Program} {N:Nat} {sc:Nat->Prop} {env env':Xz} {H H':Hp} {Q Q':Exit->Act->World->Prop} {M:Nat->Prop}
def mpe(a:Array MapEntry)(es:List (Int×Value)):Prop:=a.toList.map (λe=>(e.key,e.val))=es.map λp=>(Value.int .i64 p.1,p.2)
def mpi(b:Nat)(es:List (Int×Value)):Pc:=
 {own:=true,fp:=λk=>k=b,holds:=λw=>∃a n,w.heap[b]? = some (.map a n)/\mpe a es
  lt:=λw k h f=>by subst f;obtain⟨_,_,h,_⟩:=h;exact(aO.1 h).1
  stable:=λw i h e=>by obtain⟨a,n,c,d⟩:=h;exact⟨a,n,(e.block b (aO.1 c).1 (λg=>g rfl)).trans c,d⟩ }
def mfi:List (Int×Value)->Int->Nat->Option (Nat×Value)
 | [],_,_=>none
 | (a,v)::r,k,i=>if k=a then some (i,v)else mfi r k (i+1)
theorem fn_i(k:Int):∀(l:List MapEntry) (es:List (Int×Value)) (i:Nat),l.map (λe=>(e.key,e.val))=es.map (λp=>(Value.int .i64 p.1,p.2))->Instr.findNow (.int .i64) (.int .i64 k) l i=some (mfi es k i)
 | [],[],_,_=>rfl
 | [],_::_,_,h=>by cases h
 | _::_,[],_,h=>by cases h
 | e::l,(a,v)::es,i,h=>by
  simp only [bN,List.cons.injEq,nH]at h;obtain⟨⟨c,d⟩,f⟩:=h;by_cases b:k=a
  .subst b;simp [Instr.findNow,c,d,Instr.sameNow,mfi]
  .have g:(k == a)=false:=by simpa using b
   simp [Instr.findNow,c,Instr.sameNow,g,mfi,b,fn_i k l es (i+1) f]
theorem t_mmi   {d i:Nat}   (j:o.op= .makeMap t none) (h:o.dst=some d) (f:Nat.blt d N=true)
  (c:lk H 0=some (Yt w0 M0)) (l:∀b,w0.heap.size<=b->sc b) :
  T P N sc M o env H (G:=Nat) (λ_=>True) (λb=>(d,.map (some b))::env) (λb=>(i,mpi b [])::H):=λa w hs K Q e=>by
 have k:(execOp a.eval o).run P w= .ok (.value (.map (some w.heap.size))) (w.alloc (.map #[] 0)):=by simp only [execOp,j,Sem.run_bind,Option.map_none];rfl
 unfold Oper.wp;rw [k];show K (a.put o.dst _) _;rw [h];exact e w.heap.size _ _ aA ((hs.new c l i (mpi w.heap.size []) (.map #[] 0) ⟨#[],0,heap_alloc_new w _,rfl⟩ (λb g=>g)).put d _ f) (Chg.alloc _ _ _)
theorem Zy5 (i:Nat)  {kt B:TypeId} {x y z:Operand} {b:Nat} {k:Int} {v:Value}    (V:o.op= .insert t x y z) (R:o.dst=none)
  (Z:ev env x=some (.map (some b))) (hy:ev env y=some (.int .i64 k)) (hz:ev env z=some v) (p:lk H i=some (mpi b es)) (m:mfi es k 0=none) (j:i≠0) (S:P.underlying t=some (.map kt B)) (d:P.underlying kt=some (.int .i64))
  (D:lk H 0=some (Yt w0 M0)) (Y:∀b,w0.heap.size<=b->sc b) (I:M b) :
  T P N sc M o env H (G:=Unit) (λ_=>True) (λ_=>env) (λ_=>(i,mpi b (es ++ [(k,v)]))::H):=λa w hs K Q F=>by
 obtain⟨c,n,h,s⟩:∃c n,w.heap[b]? = some (.map c n)/\mpe c es:=hs.hold i _ p;have l:b<w.heap.size:=(aO.1 h).1;have u:=fn_i k _ _ 0 s;rw [m]at u;have W:(execOp a.eval o).run P w= .ok .skip { w with heap:=w.heap.setIfInBounds b (.map (c.push ⟨.int .i64 k,v,n⟩) (n+1)) }:=by simp [execOp,V,hs.ev Z,hs.ev hy,hs.ev hz,Instr.mapUpdate,run_underlying S,Go.MapKept.run_getObj_map h,run_checkKey d (show IsKey (.int .i64) (.int .i64 k)from rfl),run_findKey d u,Go.MapKept.run_setObj_map _ h]
 unfold Oper.wp;rw [W];show K (a.put o.dst _) _;rw [R];have r:∀f:Nat->Prop,f b->Chg f w { w with heap:=w.heap.setIfInBounds b (.map (c.push ⟨.int .i64 k,v,n⟩) (n+1)) }:=λf g=>
  ⟨rfl,rfl,rfl,O7,λk d m=>by have:b≠k:=λe=>m (e▸g);simp [gC,this]⟩
 exact F () _ _ aA ((hs.upd p rfl j (q:=mpi b (es ++ [(k,v)])) (r (λk=>k=b) rfl) ⟨_,_,by simp only [gC,l,kG];rfl,by unfold mpe at *;simp [s]⟩ (λk d=> .inl d) D Y).put_none undef) (r _ I)
end Go.Sky
namespace Go.Sky
def Zah(a b:Int)(c:List Int):List Int:=a::(if a=b then []else c.map λf=>f*(b-a))
abbrev Zen:List Int:=[0,0,10,-15,6]
def glC(a b:Int):List Int:=Zah a b Zen
abbrev d2V (a b c e d f:Int):Int:=(a-e)*(a-e)+(b-d)*(b-d)+(c-f)*(c-f)
abbrev uNear:Rat:=(1-57735026918962576/100000000000000000)/2
structure GlS (g:Zj) (T ax ay az bx b2 bz:Int):Prop where
 f:g.1.1=0
 t:g.1.2.1=T
 o:g.1.2.2=1
 x:g.2.1.2=glC ax bx
 y:g.2.2.1.2=glC ay b2
 z:g.2.2.2.2=glC az bz
section
variable {g:Zj} {T ax ay az bx b2 bz:Int} (hg:GlS g T ax ay az bx b2 bz) (hT:1<=T/\T<=3600000) (ha:ptB ax ay az=true) (hb:ptB bx b2 bz=true)
include hg hT ha hb
end
end Go.Sky
namespace Go.Sky
open Go Go.MapKept
variable{b a ax ay az bx b2 bz:Int}{es:List (Int×Value)}{v1 v2:Value}
variable {P:Program} {N:Nat} {sc:Nat->Prop} {env env':Xz} {H H':Hp} {Q Q':Exit->Act->World->Prop} {M:Nat->Prop}
def mro(b:Nat)(es:List (Int×Value)):Pc:={ mpi b es with own:=false }
theorem s_pubm{b:Nat}(i:Nat)(hi:lk H i=some (mpi b es))(g:Nat.beq i 0=false):∀a w,Sat N sc env H a w->Sat N sc env ((i,mro b es)::H) a w:=λa w hs=>by
 have h:i≠0:=λe=>by subst e;cases g
 exact hs.add i (mro b es) (show(mpi b es).holds w from hs.hold i _ hi) (λj m k l _ c d f=>hs.sep i j _ m (λe=>k e.symm) hi l rfl c d f) (λc d=>hs.scope i _ h hi c d)
theorem d_mlr {o:Oper} {t kt f:TypeId} {x y:Operand} {i b:Nat} {k:Int}  {r:Value} {j:Nat} (q:o.op= .lookup t x y false)
  (s:ev env x=some (.map (some b))) (u:ev env y=some (.int .i64 k)) (g:lk H i=some (mro b es)) (p:P.underlying t=some (.map kt f)) (e:P.underlying kt=some (.int .i64))
  (m:mfi es k 0=some (j,r)):Nf P N sc o env H r:=λa w hs=>by
 obtain⟨c,n,h,l⟩:∃c n,w.heap[b]? = some (.map c n)/\mpe c es:=hs.hold i _ g;have d:=fn_i k _ _ 0 l;rw [m]at d;simp [execOp,q,hs.ev s,hs.ev u,Instr.lookup,run_underlying p,Go.MapKept.run_getObj_map h,run_checkKey e (show IsKey (.int .i64) (.int .i64 k)from rfl),run_findKey e d]
def rwK(k:Int):List Int:=if k=0 then []else if k=1 then [1]else Zen
def row3(k:Int)(v1 v2:Value):Value:=if k=0 then .slice none 0 0 else if k=1 then v1 else v2
theorem mf_row{k:Int}(c:k=0\/k=1\/k=2):mfi [(0,.slice none 0 0),(1,v1),(2,v2)] k 0=some (k.toNat,row3 k v1 v2):=by rcases c with rfl|rfl|rfl<;>rfl
theorem s_row{k:Int}(l:k=0\/k=1\/k=2)(f i2 j:Nat)(g:lk H f=some (Yg 1 Zz v1 [1]))(i:lk H i2=some (Yg 1 Zz v2 Zen))(d:Nat.beq f 0=false)(e:Nat.beq i2 0=false) :
  ∀a w,Sat N sc env H a w->Sat N sc env ((j,Yg 1 Zz (row3 k v1 v2) (rwK k))::H) a w:=λa w hs=>by
 rcases l with rfl|rfl|rfl
 .exact hs.add j (Yg 1 Zz (.slice none 0 0) []) (Br 1 Zz w) (λ_ _ _ _ _ b c _=>absurd rfl c.1) (λb c=>absurd rfl c.1)
 .exact Zau f j g d rfl (λw h=>h) (λb c=>c) rfl a w hs
 .exact Zau i2 j i e rfl (λw h=>h) (λb c=>c) rfl a w hs
theorem Zz9{k:Int} : ∀f∈rwK k,-15<=f/\f<=15:=by
 unfold rwK;split
 .intro f c;cases c
 .split
  .intro f c;rw [bZ.1 c];decide
  .decide
theorem trm_s{c:List Int}{k:Nat}(d:k<c.length):(a::((c.take (k+1)).map λf=>f*(b-a)))=(a::((c.take k).map λf=>f*(b-a))) ++ [c.getD k 0*(b-a)]:=by rw [Qb 0 _ d,cE];rfl
theorem trm_e (c:List Int)(h:a=b):Zah a b c=[a]:=by unfold Zah;rw [aF h]
theorem trm_n{c:List Int}{k:Nat}(h:a≠b)(d:c.length<=k):Zah a b c=a::((c.take k).map λf=>f*(b-a)):=by unfold Zah;rw [aD h,cK d]
abbrev numV (p:Nat):Value:= .agg #[.int .u64 ((p/U:Nat):Int),.int .u64 ((p%U:Nat):Int)]
def prN(l:List Nat):Nat:=l.foldl (· * ·) 1
def leL:List Nat->List Nat->Prop
 | [],[]=>True
 | x::xs,y::ys=>x<=y/\leL xs ys
 | _,_=>False
def kpQ(q s t:Nat):Bool:=!decide (prN [64,s,s,t,t]<q)
def kqQ(q a t:Nat):Bool:=!decide (prN [3,a,a,t,t,t,t]<q)
def keepsB(d s a t:Nat):Bool:=kpQ (prN [225,d,1000000]) s t && kqQ (prN [100,d,1000000,1000000]) a t
theorem mulB(g:-33554432<=a/\a<=33554432)(h:-33554432<=b/\b<=33554432):-1125899906842624<=a*b/\a*b<=1125899906842624:=by have c:=dI (show 0<=33554432-a by omega) (show 0<=33554432-b by omega);have d:=dI (show 0<=33554432+a by omega) (show 0<=33554432+b by omega);have e:=dI (show 0<=33554432-a by omega) (show 0<=33554432+b by omega);have f:=dI (show 0<=33554432+a by omega) (show 0<=33554432-b by omega);simp only [Int.sub_mul,oA,lO,kK]at c d e f;constructor<;>omega
def Zai(ax ay az bx b2 bz fr c:Int):Bool:=ptB ax ay az && (ptB bx b2 bz && decide (0<=fr/\fr<c/\c<=3600000))
theorem Zp6{fr d:Int}(c:ptB ax ay az=false):Zai ax ay az bx b2 bz fr d=false:=by unfold Zai;rw [c];rfl
theorem Zp5{fr d:Int}(c:ptB bx b2 bz=false):Zai ax ay az bx b2 bz fr d=false:=by unfold Zai;rw [c,Bool.false_and,iZ]
theorem Zi0{fr c:Int}(h:¬(0<=fr/\fr<c/\c<=3600000)):Zai ax ay az bx b2 bz fr c=false:=by unfold Zai;rw [aJ h,iZ,iZ]
theorem Yh2{fr c:Int}(h:Zai ax ay az bx b2 bz fr c=true):ptB ax ay az=true/\ptB bx b2 bz=true/\0<=fr/\fr<c/\c<=3600000:=by unfold Zai at h;simp only [aP,cL]at h;exact⟨h.1,h.2.1,h.2.2⟩
def glG(ax ay az bx b2 bz fr c k:Int)(r:SL×SL×SL):Zj:=((fr,c,1),(r.1,Zah ax bx (rwK k)),(r.2.1,Zah ay b2 (rwK k)),(r.2.2,Zah az bz (rwK k)))
theorem Zrt{k:Int} : (rwK k).length<=5:=by unfold rwK;split;decide;split<;>decide
theorem Zk5{fr c:Int}(d:ptB ax ay az=true)(e:ptB bx b2 bz=true)(f:0<=fr)(g:fr<c):Zai ax ay az bx b2 bz fr c=decide (c<=3600000):=by unfold Zai;rw [d,e,lW,lW];exact dD.2 ⟨λh=>h.2.2,λh=>⟨f,g,h⟩⟩
theorem Zur(xs:List Nat)(k:Nat):(xs.map λn:Nat=>(n:Int)).getD k 0=((xs.getD k 0:Nat):Int):=by simp only [aC,dZ];cases xs[k]?<;>rfl
def tmB(ax ay az bx b2 bz d c:Int):Bool:=ptB ax ay az && (ptB bx b2 bz && decide ((1<=d/\d<=10000)/\(1<=c/\c<=10000)))
@[reducible,instance] def roiM {b:Nat} {es:List (Int×Value)} : RoI (mro b es):=⟨rfl⟩
end Go.Sky
namespace Go.Sky
open Go.Proofs.Tryz
open Go.Proofs
set_option synthInstance.maxHeartbeats 0
set_option synthInstance.maxSize 100000
set_option maxRecDepth 20000
set_option linter.unusedSimpArgs false
def Yh3:Cal prog 335 #[] [] true (G:=Nat×SL×SL) (λr=>True) (λr=> .map (some r.1)) (λr=>[mro r.1 [(0,.slice none 0 0),(1,Xw r.2.1),(2,Xw r.2.2)],Yg 1 Zz (Xw r.2.1) [1],Yg 1 Zz (Xw r.2.2) Zen]):=by refine Zf func335 ntmps335 λk j a d=>go 7 ?_;refine tt (t_mmi (i:=1) J J J J a.h) (λh _=>?_);refine tt (Zy5 1 J J J J J J (by simp [mfi]) O3 underlying422 underlying281 J a.h aA) (λ_ _=>?_);refine tt (Xm [(0,_)] 2 (enc:=Zz) ([1]:List Int) J J K2 Nr ti3 J J J J J pZ.cells J J a.h) (λv _=>?_);refine tt (Zy5 1 J J J J J J (by simp [mfi]) O3 underlying422 underlying281 J a.h aA) (λ_ _=>?_);refine tt (Xm [(0,_),(1,_),(2,_),(3,_),(4,_)] 3 (enc:=Zz) ([0,0,10,-15,6]:List Int) J J K10 Nr ti3 J J J J J pZ.cells J J a.h) (λg _=>?_);refine tt (Zy5 1 J J J J J J (by simp [mfi]) O3 underlying422 underlying281 J a.h aA) λ_ _=>go 5 ?_;refine Zr (s_pubm 1 J J)<|Zr (Xj 2 J J pZ)<|Ae (Xl 2 J Zh) (λe b=>?_);subst b;refine Zr (Xj 3 J J pZ)<|Ae (Xl 3 J Zh) (λf c=>?_);subst c;exact Xc d (_,e,f) results335 J aA (Oz 1 (Oz 2 (Oz 3 Za)))
def Zi1(v:Value)(a b:Int)(c:List Int)(t:-4194304<=a/\a<=4194304)(u:-4194304<=b/\b<=4194304)(h:∀f∈c,-15<=f/\f<=15)(x:c.length<=5):Cal prog 336 #[.int .i64 a,.int .i64 b,v] [Yg 1 Zz v c] true (G:=SL) (λr=>True) (λr=>Xw r) (λr=>[Yg 1 Zz (Xw r) (Zah a b c)]):=by
 refine Zf func336 ntmps336 λD z n j=>go 8 ?_;refine tt (Xm [(0,_)] 2 (enc:=Zz) ([a]:List Int) J J K2 Nr ti3 J J J J J pZ.cells J J n.h) λv _=>go 11 ?_;refine Zc J (λg=>?_) (λg=>?_)
 .refine go 8 ?_;refine lp (G:=Nat×Value) [0,1,15,16] [0,1] (λq=>[(17,.int .i64 (q.1:Int)),(7,q.2)]) (λq=>[(2,Pt 1 3 Zz q.2 (a::((c.take q.1).map λf=>f*(b-a))))]) (λq=>q.1<=c.length) (λq=>c.length-q.1) (0,_) O1 K2 K1 ?_;rintro⟨k,B⟩ o;dsimp only at o;dsimp only;refine go 6<|Zc J (λm=>?_) (λm=>?_)
  .refine go 6 ?_;refine dt (Yh 1 k J J J J Zh Nr Dg J)<|go 4 ⟨O,?_⟩;have w:=h _ (Zk (zs:=c) (i:=k) (d:=0));have y:=mulB (a:=c.getD k 0) (b:=b-a) ⟨O,O⟩ ⟨O,O⟩;refine go 7 ⟨O,O,?_⟩;refine tt (Xm [(0,_)] 3 (enc:=Zz) ([c.getD k 0*(b-a)]:List Int) J J K2 Nr ti3 J J J J J pZ.cells J J n.h) (λp _=>?_);refine tt (Lc 2 3 8 J J J J J J O3 J (Yc pZ) Nr ti3 J pZ J J J O8 O3 J n.h) (λs _=>?_);refine go 8 ⟨O,?_⟩;exact Yv (k+1,_) O1 O1 K2 ⟨by rw [trm_s O];rfl,aA⟩
  .refine go 12<|Zr (Xj 2 J J pZ) ?_;refine Ae (Xl 2 J Zh) (λl e=>?_);subst e;exact Xc j l results336 J aA (Oz 2 Za (aL (Yg 1 Zz (Xw l)) (trm_n g O).symm))
 .refine go 9<|Zr (Xj 2 J J pZ) ?_;refine Ae (Xl 2 J Zh) (λl e=>?_);subst e;exact Xc j l results336 J aA (Oz 2 Za (aL (Yg 1 Zz (Xw l)) (trm_e c (a:=a) (b:=b) O).symm))
def gl_leg{c d e f b g fr x k:Int}(v:k=0\/k=1\/k=2)(m:-4194304<=c/\c<=4194304)(n:-4194304<=d/\d<=4194304)(o:-4194304<=e/\e<=4194304)(p:-4194304<=f/\f<=4194304)(h:-4194304<=b/\b<=4194304)(q:-4194304<=g/\g<=4194304):Cal prog 271 #[.agg #[.int .i64 c,.int .i64 d,.int .i64 e],.agg #[.int .i64 f,.int .i64 b,.int .i64 g],.int .i64 fr,.int .i64 x,.int .i64 k] [] true (G:=SL×SL×SL) (λr=>True) (λr=> .agg #[.int .i64 fr,.int .i64 x,.int .i64 1,Xw r.1,Xw r.2.1,Xw r.2.2]) (λr=>[Yg 1 Zz (Xw r.1) (Zah c f (rwK k)),Yg 1 Zz (Xw r.2.1) (Zah d b (rwK k)),Yg 1 Zz (Xw r.2.2) (Zah e g (rwK k))]):=by refine Zf func271 ntmps271 λD B z s=>go 2 ?_;refine Ym (Yj 1) λbq _=>Ym (Yj 2) λt _=>Ym (Yd 3) λu _=>go 4 ?_;refine cl 4 [] Yh3 λrw _=>go 1 ?_;refine dt (d_mlr (i:=4) J J J J underlying422 underlying281 (mf_row v))<|go 4 ?_;refine Zl (s_row v 5 6 60 J J J J)<|Qj (λ_=>False) [(0,0),(1,0),(2,0),(3,0),(4,0),(5,0),(6,0),(8,0),(9,0),(10,0),(11,0),(12,0),(14,0),(15,0),(16,0),(17,0),(18,0),(7,1),(13,1),(19,1),(20,0),(21,3)]<|go 17<|Xq (Zs 7 [60] (Zi1 _ c f (rwK k) m p Zz9 Zrt)) λy _=>Xq (Zs 8 [60] (Zi1 _ d b (rwK k) n h Zz9 Zrt)) λj _=>Xq (Zs 9 [60] (Zi1 _ e g (rwK k) o q Zz9 Zrt)) λl _=>?_;refine Xp J J (Qv (Xv [(0,_),(1,_),(2,_),(3,_),(4,_),(5,_)] J K12 (λa w hs=>Zgk ((Ze J) a w hs) ((Ze J) a w hs) ((Ze J) a w hs) ((Qm 7 J Zh) a w hs) ((Qm 8 J Zh) a w hs) ((Qm 9 J Zh) a w hs))))<|go 4 ?_;exact Xc s (y,j,l) results271 J aA (Oz 7 (Oz 8 (Oz 9 Za)))
def Zp7{g h i k e l fr m:Int}:Cal prog 237 #[.agg #[.int .i64 g,.int .i64 h,.int .i64 i],.agg #[.int .i64 k,.int .i64 e,.int .i64 l],.int .i64 fr,.int .i64 m] [] true (G:=Unit) (λ_=>True) (λ_=> .bool (Zai g h i k e l fr m)) (λ_=>[]):=by
 refine Zf func237 ntmps237 λp o n a=>go 2 ?_;refine Ym (Yj 1) λbq _=>Ym (Yj 2) λj _=>go 6 ?_;refine cl 2 [] (Zyx _ _ _) λ_ _=>go 1<|Nv 11 J (λf=>?_) (λf=>?_)
 .refine go 1 ?_;refine It 2 [] (Zyx _ _ _) λ_ _=>go 2<|Nv 15 J (λb=>?_) (λb=>?_)
  .refine go 4<|Yn 19 J (λc=>?_) (λc=>?_)
   .refine go 5<|Yn 24 J (λd=>?_) (λd=>?_)
    .refine go 7 ?_;exact Xc a () results237 (by first|exact vB (Zp6 ‹_›)|exact vB (Zp5 ‹_›)|exact vB (Zi0 O)|exact vB (Zk5 ‹_› ‹_› O O)) aA Za
    .refine go 7 ?_;exact Xc a () results237 (by first|exact vB (Zp6 ‹_›)|exact vB (Zp5 ‹_›)|exact vB (Zi0 O)|exact vB (Zk5 ‹_› ‹_› O O)) aA Za
   .refine go 12 ?_;exact Xc a () results237 (by first|exact vB (Zp6 ‹_›)|exact vB (Zp5 ‹_›)|exact vB (Zi0 O)|exact vB (Zk5 ‹_› ‹_› O O)) aA Za
  .refine go 16 ?_;exact Xc a () results237 (by first|exact vB (Zp6 ‹_›)|exact vB (Zp5 ‹_›)|exact vB (Zi0 O)|exact vB (Zk5 ‹_› ‹_› O O)) aA Za
 .refine go 20 ?_;exact Xc a () results237 (by first|exact vB (Zp6 ‹_›)|exact vB (Zp5 ‹_›)|exact vB (Zi0 O)|exact vB (Zk5 ‹_› ‹_› O O)) aA Za
def Zse{d e f h a i fr j k:Int}(m:k=0\/k=1\/k=2)(l:Zai d e f h a i fr j=false):Cal prog 195 #[.agg #[.int .i64 d,.int .i64 e,.int .i64 f],.agg #[.int .i64 h,.int .i64 a,.int .i64 i],.int .i64 fr,.int .i64 j,.int .i64 k] [] true (G:=Unit) (λ_=>True) (λ_=> .tuple #[.slice none 0 0,.int .i64 2]) (λ_=>[]):=by refine Zf func195 ntmps195 λp o n c=>go 2 ?_;refine Ym (Yj 1) λbq _=>Ym (Yj 2) λg _=>go 11 ?_;refine cl 2 [] Zp7 λ_ _=>?_;refine dt (dT (Xi J J) (aL (λb=>Value.bool (!b)) l))<|go 11 ?_;exact Na c () results195 J aA Za
def Yck{e f g h d i fr j k:Int}(D:k=0\/k=1\/k=2)(s:Zai e f g h d i fr j=true):Cal prog 195 #[.agg #[.int .i64 e,.int .i64 f,.int .i64 g],.agg #[.int .i64 h,.int .i64 d,.int .i64 i],.int .i64 fr,.int .i64 j,.int .i64 k] [] true (G:=Value×(SL×SL×SL)) (λr=>True) (λr=> .tuple #[r.1,.int .i64 0]) (λr=>[Qh 6 Qu qG r.1 [glG e f g h d i fr j k r.2]]):=by refine Zf func195 ntmps195 λI H F o=>?_;obtain⟨m,n,-,-,-⟩:=Yh2 s;obtain⟨t,u,w⟩:=Yas m;obtain⟨x,y,B⟩:=Yas n;refine go 2<|Ym (Yj 1) λbq _=>Ym (Yj 2) λp _=>go 11 ?_;refine cl 2 [] Zp7 λ_ _=>?_;refine dt (dF (Xi J J) (aL (λb=>Value.bool (!b)) s))<|go 12 ?_;refine cl 3 [] (gl_leg D ⟨O,O⟩ ⟨O,O⟩ ⟨O,O⟩ ⟨O,O⟩ ⟨O,O⟩ ⟨O,O⟩) λ⟨l,a,c⟩ _=>?_;refine tt (Xm [(0,_)] 6 (enc:=Qu) [glG e f g h d i fr j k (l,a,c)] J J K2 Zdq ti116 J J Zbc J J pG.cells J J F.h) λv _=>go 5 ?_;exact Zr (Xj 6 J J pG)<|Zr (Ye qC 71)<|Zr (Zd (q:=qC) (z:=(glG e f g h d i fr j k (l,a,c)).2.1) 71 3 71 J J J J J)<|Zr (Zd (q:=qC) (z:=(glG e f g h d i fr j k (l,a,c)).2.2.1) 71 4 71 J J J J J)<|Zr (Zd (q:=qC) (z:=(glG e f g h d i fr j k (l,a,c)).2.2.2) 71 5 71 J J J J J)<|Zr (Ye qG 73)<|Zr (Zd (q:=qG) (z:=(glG e f g h d i fr j k (l,a,c))) 73 71 73 J J J J J)<|Zr (Xt 6 73 72 J J J J)<|Na o (_,l,a,c) results195 J aA (Oz 72 Za)
def Ycj(b c d e a f fr h:Int)(j:Zai b c d e a f fr h=true):Cal prog 126 #[.agg #[.int .i64 b,.int .i64 c,.int .i64 d],.agg #[.int .i64 e,.int .i64 a,.int .i64 f],.int .i64 fr,.int .i64 h] [] true (G:=Value×(SL×SL×SL)) (λr=>True) (λr=> .tuple #[r.1,.int .i64 0]) (λr=>[Qh 6 Qu qG r.1 [glG b c d e a f fr h 2 r.2]]):=by refine Zf func126 ntmps126 λm l k g=>go 2 ?_;refine Ym (Yj 1) λbq _=>Ym (Yj 2) λi _=>go 10 ?_;refine cl 3 [] (Yck (.inr (.inr J)) j) λ⟨v,q⟩ _=>go 7 ?_;exact Na g (v,q) results126 J aA (Oz 3 Za)
def Zgd(c d e g a h fr i:Int)(j:Zai c d e g a h fr i=false):Cal prog 125 #[.agg #[.int .i64 c,.int .i64 d,.int .i64 e],.agg #[.int .i64 g,.int .i64 a,.int .i64 h],.int .i64 fr,.int .i64 i] [] true (G:=Unit) (λ_=>True) (λ_=> .tuple #[.slice none 0 0,.int .i64 2]) (λ_=>[]):=by refine Zf func125 ntmps125 λm l k b=>go 2 ?_;refine Ym (Yj 1) λbq _=>Ym (Yj 2) λf _=>go 10 ?_;refine cl 2 [] (Zse (.inr (.inl J)) j) λ_ _=>go 7 ?_;exact Na b () results125 J aA Za
def Zu5(b c d e a f fr h:Int)(j:Zai b c d e a f fr h=true):Cal prog 125 #[.agg #[.int .i64 b,.int .i64 c,.int .i64 d],.agg #[.int .i64 e,.int .i64 a,.int .i64 f],.int .i64 fr,.int .i64 h] [] true (G:=Value×(SL×SL×SL)) (λr=>True) (λr=> .tuple #[r.1,.int .i64 0]) (λr=>[Qh 6 Qu qG r.1 [glG b c d e a f fr h 1 r.2]]):=by refine Zf func125 ntmps125 λm l k g=>go 2 ?_;refine Ym (Yj 1) λbq _=>Ym (Yj 2) λi _=>go 10 ?_;refine cl 3 [] (Yck (.inr (.inl J)) j) λ⟨v,q⟩ _=>go 7 ?_;exact Na g (v,q) results125 J aA (Oz 3 Za)
section
variable {ax ay az bx b2 bz:Int} {D s a T:Nat} (ha:ptB ax ay az=true) (hb:ptB bx b2 bz=true) (hT:1<=T/\T<=3600000)
include ha hb hT
end
end Go.Sky
namespace Go.Sky
open Go.RowKit Below
variable {P:Program} {N:Nat} {sc:Nat->Prop} {env env':Xz} {H H':Hp} {Q Q':Exit->Act->World->Prop} {ds:List Nat}
abbrev mrk (D:Nat):Deferred:={ target:= .collected D,args:=#[] }
def ap(ds:List Nat)(a:Act):Act:={ a with defers:=a.defers ++ ds.map mrk }
def fxs(ds:List Nat):Pc:=
  { own:=true,fp:=λb=>b∈ds,holds:=λw=>ds.Nodup/\∀D∈ds,w.heap[D]? = some (.deferred (some []))
    lt:=λw b h c=>(aO.1 (h.2 b c)).1
    stable:=λw f h d=>⟨h.1,λD a=>(d.block D (aO.1 (h.2 D a)).1 (λe=>e a)).trans (h.2 D a)⟩ }
def EG(P:Program)(N:Nat)(sc:Nat->Prop)(ds:List Nat)(c:Code)(Q:Exit->Act->World->Prop)(env:Xz)(H:Hp):Prop:=
  ∀a w,Sat N sc env H a w->c.wp P Q (ap ds a) w
def XG(N:Nat)(sc:Nat->Prop)(ds:List Nat)(e:Exit)(Q:Exit->Act->World->Prop)(env:Xz)(H:Hp):Prop:=
  ∀a w,Sat N sc env H a w->Q e (ap ds a) w
def RndG{G:Type}(N:Nat)(sc:Nat->Prop)(cs:Xz)(e:Hp)(dg:G->List Nat)(h:G->Xz)(f:G->Hp)(c:G->Prop)(μ:G->Nat)(g:G):Act->World->Prop:=
  λa w=>∃b,c b/\μ b<μ g/\∃d,a=ap (dg b) d/\Sat N sc (h b ++ cs) (f b ++ e) d w
end Go.Sky
namespace Go.Sky
variable{ls ms:List PT}{bm:Bool}
abbrev Pf:=Int×Int×Int
abbrev Ll (p:Pf):Value:= .agg #[.int .i64 p.1,.int .i64 p.2.1,.int .i64 p.2.2]
abbrev Fr:Pf:=(0,0,0)
abbrev Bd (p:Pf):Bool:=ptB p.1 p.2.1 p.2.2
def sgI(n:Int):Int:=if n<0 then -1 else if n>0 then 1 else 0
def crs2(a b c:Pf):Int:=(b.1-a.1)*(c.2.1-a.2.1)-(b.2.1-a.2.1)*(c.1-a.1)
def trn(a b c:Pf):Int:=sgI (crs2 a b c)
def onB(a b p:Pf):Bool:=decide (trn a b p=0) && (decide (p.1>=min a.1 b.1) && (decide (p.1<=max a.1 b.1) && (decide (p.2.1>=min a.2.1 b.2.1) && decide (p.2.1<=max a.2.1 b.2.1))))
def mtB(a b c d:Pf):Bool:=decide (trn a b c*trn a b d<0) && decide (trn c d a*trn c d b<0)
def mtlB(a b c d:Pf):Bool:=onB a b c || (onB a b d || (onB c d a || (onB c d b || mtB a b c d)))
def flt(p:Pf):Pf:=(p.1,p.2.1,0)
def edg(l:List Pf)(i:Nat):Pf×Pf:=(flt (l.getD i Fr),flt (l.getD ((i+1)%l.length) Fr))
def Zgg(l:List Pf):List (Pf×Pf):=(List.range l.length).map (edg l)
def okE(l:List Pf)(i:Nat):Bool:=!(decide ((l.getD i Fr).1=(l.getD ((i+1)%l.length) Fr).1) && decide ((l.getD i Fr).2.1=(l.getD ((i+1)%l.length) Fr).2.1))
def finB(l:List Pf)(i k:Nat):Bool:=
 if k=i+1/\2<l.length then !onB (l.getD i Fr) (l.getD ((i+1)%l.length) Fr) (l.getD ((k+1)%l.length) Fr) && !onB (l.getD k Fr) (l.getD ((k+1)%l.length) Fr) (l.getD i Fr)
 else if(k+1)%l.length=i then !onB (l.getD i Fr) (l.getD ((i+1)%l.length) Fr) (l.getD k Fr) && !onB (l.getD k Fr) (l.getD ((k+1)%l.length) Fr) (l.getD ((i+1)%l.length) Fr)
 else !mtlB (l.getD i Fr) (l.getD ((i+1)%l.length) Fr) (l.getD k Fr) (l.getD ((k+1)%l.length) Fr)
def rowS(l:List Pf)(i:Nat):Bool:=okE l i && (List.range l.length).all λk=>decide (k<=i) || finB l i k
def smpB(l:List Pf):Bool:=decide (3<=l.length/\l.length<=64) && (l.all Bd && (List.range l.length).all (rowS l))
def Zkv{l:List Pf}(h:l.all Bd=true){i:Nat}(hi:i<l.length):Bd (l.getD i Fr)=true:=bW.1 h _ (Zk hi)
def lcE(p:Pf)(e:Pf×Pf):Bool:=decide (trn e.1 e.2 p=0) && (decide (sgI (e.1.1-p.1)*sgI (e.2.1-p.1)<=0) && decide (sgI (e.1.2.1-p.2.1)*sgI (e.2.2.1-p.2.1)<=0))
def lcD(p:Pf)(e:Pf×Pf):Int:=
 if sgI (e.1.2.1-p.2.1)<=0/\sgI (e.2.2.1-p.2.1)>0/\trn e.1 e.2 p>0 then 1 else if sgI (e.1.2.1-p.2.1)>0/\sgI (e.2.2.1-p.2.1)<=0/\trn e.1 e.2 p<0 then -1 else 0
def lcW(p:Pf)(a:List (Pf×Pf)):Int:=(a.map (lcD p)).foldl (· + ·) 0
def atL(l:List Pf)(p:Pf):Int:=if(Zgg l).any (lcE p)=true then 0 else if lcW p (Zgg l)≠0 then 1 else -1
theorem al_f{l:List Pf}{i:Nat}(hi:i<l.length)(h:Bd (l.getD i Fr)=false):l.all Bd=false:=nU.2 ⟨_,Zk hi,by rw [h];exact dG⟩
theorem al_t{l:List Pf}(h:∀j,j<l.length->Bd (l.getD j Fr)=true):l.all Bd=true:=bW.2 λx b=>by obtain⟨j,a,rfl⟩:=eA.1 b;have:=h j a;rwa [aC,aH a]at this
def arD(e:Pf×Pf):Int:=e.1.1*e.2.2.1-e.1.2.1*e.2.1
def ar2(a:List (Pf×Pf)):Int:=(a.map arD).foldl (· + ·) 0
def LcI(l:List Pf)(p:Pf)(k:Nat)(z:Int):Prop:=z=lcW p ((Zgg l).take k)/\∀j e,j<k->(Zgg l)[j]? = some e->lcE p e=false
@[reducible,instance] def clIF {f:Fn} {a b:Array Value} : ClI (.func f a b) [.func f a b]:=⟨rfl⟩
abbrev WvT:=Int×Int×Int
abbrev encWv (w:WvT):Value:= .agg #[.int .i64 w.1,.int .i64 w.2.1,.int .i64 w.2.2]
def Cb(w:WvT):Bool:=decide (0<=w.1/\w.1<=3600000/\1<=w.2.1/\w.2.1<=3600000/\1<=w.2.2/\w.2.2<=64)
def lnd(w:WvT)(t:Int):Int:=t+(w.2.2-1)*w.1+w.2.1
def lkB(a b:List Pf)(w:WvT)(t:Int)(c:Bool):Bool:=!c && (Cb w && (decide (0<a.length) && (decide (a.length=b.length) && (decide (0<=t/\t<=3600000) && (a.all Bd && b.all Bd)))))
def lkE(a b:List Pf)(w:WvT)(t:Int)(c:Bool):Int:=if lkB a b w t c=true then(if 64<a.length then 7 else if 3600000<lnd w t then 3 else 0)else 2
def Yfi{w:WvT}(h:Cb w=true):0<=w.1/\w.1<=3600000/\1<=w.2.1/\w.2.1<=3600000/\1<=w.2.2/\w.2.2<=64:=bT h
section
variable {a b:List Pf} {w:WvT} {t:Int} {bad:Bool}
theorem Yby(h:lkB a b w t bad=true):bad=false/\Cb w=true/\0<a.length/\a.length=b.length/\(0<=t/\t<=3600000)/\a.all Bd=true/\b.all Bd=true:=by unfold lkB at h;simp only [aP,cL,fY]at h;exact h
theorem Fw(h:lkB a b w t bad=false):lkE a b w t bad=2:=by unfold lkE;rw [h];rfl
theorem lkE_0(h:lkE a b w t bad=0):lkB a b w t bad=true/\a.length<=64/\lnd w t<=3600000:=by
 unfold lkE at h;split at h
 .rename_i c;split at h
  .cases h
  .split at h
   .cases h
   .exact⟨c,O,O⟩
 .cases h
theorem lkE_7(h:lkB a b w t bad=true)(c:64<a.length):lkE a b w t bad=7:=by unfold lkE;rw [aF h,aF c]
theorem lkE_3(h:lkB a b w t bad=true)(c:¬64<a.length)(d:3600000<lnd w t):lkE a b w t bad=3:=by unfold lkE;rw [aF h,aD c,aF d]
theorem Ybx(h:lkB a b w t bad=true)(c:¬64<a.length)(d:¬3600000<lnd w t):lkE a b w t bad=0:=by unfold lkE;rw [aF h,aD c,aD d]
theorem Zxm{g n:Int}(c:0<=g)(d:g<=3600000)(e:0<=n)(f:n<=64):0<=n*g/\n*g<=230400000:=by have h:=dI e c;have i:=jX f d c (by decide:(0:Int)<=64);exact⟨h,O⟩
def mg_le{g n m:Int}(c:0<=g)(h:n<=m):n*g<=m*g:=eN h c
end
def hvU(p:Pf)(fr c:Int):Ca:=((fr,c,1),[p.1],[p.2.1],[p.2.2])
def glU(p q:Pf)(fr c:Int):Ca:=((fr,c,1),Zah p.1 q.1 Zen,Zah p.2.1 q.2.1 Zen,Zah p.2.2 q.2.2 Zen)
def Zdv(p:Pf)(fr c:Int):List Ca:=if fr<c then [hvU p fr c]else []
def lpP(p q:Pf)(w:WvT)(t n:Int):List Ca:=Zdv p t (t+n*w.1) ++ ([glU p q (t+n*w.1) (t+n*w.1+w.2.1)] ++ Zdv q (t+n*w.1+w.2.1) (lnd w t))
theorem un_hv{p:Pf}{fr c k:Int}{r:SL×SL×SL} : Mb (glG p.1 p.2.1 p.2.2 p.1 p.2.1 p.2.2 fr c k r)=hvU p fr c:=by unfold Mb glG hvU Zah;simp
theorem Zri{a b k:Int}(c:k=0\/k=1\/k=2):Zah a b (rwK k)=tmL a b (2-k):=by
 unfold Zah tmL;by_cases h:a=b
 .subst h;simp
 .rcases c with rfl|rfl|rfl
  .simp [rwK]
  .have:¬b-a=0:=O;simp [rwK,h,this]
  .have:¬b-a=0:=O;simp [rwK,Zen,h,this]
def Gq(a b:Pf)(fr c k:Int)(r:SL×SL×SL):Zj:=((fr,c,1),(r.1,tmL a.1 b.1 k),(r.2.1,tmL a.2.1 b.2.1 k),(r.2.2,tmL a.2.2 b.2.2 k))
theorem Zlo{p:Pf}{fr c:Int}{r:SL×SL×SL} : Mb (Gq p p fr c 2 r)=hvU p fr c:=by unfold Mb Gq hvU tmL;simp
theorem Zlp{p q:Pf}{fr c:Int}{r:SL×SL×SL} : Mb (Gq p q fr c 0 r)=glU p q fr c:=by unfold Mb Gq glU;rw [show Zen=rwK 2 from rfl,Zri (.inr (.inr rfl)),Zri (.inr (.inr rfl)),Zri (.inr (.inr rfl))];rfl
def Zki{p:Pf}{fr c:Int}(h:fr<c):Zdv p fr c=[hvU p fr c]:=aF h
def Zkj{p:Pf}{fr c:Int}(h:¬fr<c):Zdv p fr c=[]:=aD h
def lPs(a b:List Pf)(w:WvT)(t:Int)(c:List Int)(k:Nat):List (List Ca):=(List.range k).map λi=>lpP (a.getD i Fr) (b.getD i Fr) w t (c.getD i 0)
theorem lPs_s{a b:List Pf}{w:WvT}{t:Int}{c:List Int}{k:Nat} : lPs a b w t c (k+1)=lPs a b w t c k ++ [lpP (a.getD k Fr) (b.getD k Fr) w t (c.getD k 0)]:=by unfold lPs;rw [List.range_succ,cE];rfl
abbrev Zao (ls:List PT):List (List Ca):=ls.map λx=>x.2.map Mb
def Zj6{z:PT} : Zao (ls ++ [z])=Zao ls ++ [z.2.map Mb]:=cE
theorem tk_s{x y:List Int}{k:Nat}(c:k<x.length)(d:k<y.length)(h:x.take k=y.take k)(e:x.getD k 0=y.getD k 0):x.take (k+1)=y.take (k+1):=by rw [Qb 0 _ c,Qb 0 _ d,h,e]
theorem tk_e{α:Type}{x y:List α}(h:x.length=y.length)(c:x.take x.length=y.take x.length):x=y:=by rw [bM]at c;rw [c,h,bM]
def sgE(a b:Ca):Bool:=decide (a.1.1=b.1.1) && (decide (a.1.2.1=b.1.2.1) && (decide (a.1.2.2=b.1.2.2) && (decide (a.2.1=b.2.1) && (decide (a.2.2.1=b.2.2.1) && decide (a.2.2.2=b.2.2.2)))))
theorem sgE_t{a b:Ca}(h:sgE a b=true):a=b:=by obtain⟨⟨j,k,l⟩,m,n,o⟩:=a;obtain⟨⟨p,q,r⟩,s,u,v⟩:=b;unfold sgE at h;simp only [aP,cL]at h;obtain⟨c,d,e,f,g,i⟩:=h;subst c;subst d;subst e;subst f;subst g;subst i;rfl
theorem sgE_r{a:Ca}:sgE a a=true:=by unfold sgE;simp
section
variable {xs ys:List Zj} {k:Nat}
theorem tku_s(c:k<xs.length)(d:k<ys.length)(h:(xs.map Mb).take k=(ys.map Mb).take k)(e:Mb (xs.getD k G0)=Mb (ys.getD k G0)):(xs.map Mb).take (k+1)=(ys.map Mb).take (k+1):=by rw [<-iN,<-iN,Qb G0 _ c,Qb G0 _ d,cE,cE,iN,iN,h,bN,bN,e]
theorem tku_e(h:xs.length=ys.length)(c:(xs.map Mb).take xs.length=(ys.map Mb).take xs.length):xs.map Mb=ys.map Mb:=by refine tk_e (by simp [h]) ?_;rw [aQ];exact c
theorem tku_n(c:k<xs.length)(d:k<ys.length)(e:xs.map Mb=ys.map Mb):sgE (Mb (xs.getD k G0)) (Mb (ys.getD k G0))=true:=by have h:=aL (λl=>l[k]?) e;simp only [dZ,aH c,aH d,Option.map_some,jS]at h;rw [aC,aC,aH c,aH d,eI,eI,h];exact sgE_r
end
section
variable (a b:List Pf) (w:WvT) (t:Int) (bad:Bool)
theorem Ybw:bad=true\/(bad=false/\Cb w=false)\/(bad=false/\Cb w=true/\((a.length:Nat):Int)=0)\/(bad=false/\Cb w=true/\¬((a.length:Nat):Int)=0/\((a.length:Nat):Int)≠((b.length:Nat):Int))\/
  (bad=false/\Cb w=true/\¬((a.length:Nat):Int)=0/\¬((a.length:Nat):Int)≠((b.length:Nat):Int)/\t<0)\/(bad=false/\Cb w=true/\¬((a.length:Nat):Int)=0/\¬((a.length:Nat):Int)≠((b.length:Nat):Int)/\¬t<0/\t>3600000)\/
  (bad=false/\Cb w=true/\¬((a.length:Nat):Int)=0/\¬((a.length:Nat):Int)≠((b.length:Nat):Int)/\¬t<0/\¬t>3600000/\a.all Bd=false)\/
  (bad=false/\Cb w=true/\¬((a.length:Nat):Int)=0/\¬((a.length:Nat):Int)≠((b.length:Nat):Int)/\¬t<0/\¬t>3600000/\a.all Bd=true/\b.all Bd=false)\/
  (bad=false/\Cb w=true/\¬((a.length:Nat):Int)=0/\¬((a.length:Nat):Int)≠((b.length:Nat):Int)/\¬t<0/\¬t>3600000/\a.all Bd=true/\b.all Bd=true):=by
 cases bad
 .cases Cb w
  .simp
  .by_cases d:((a.length:Nat):Int)=0
   .simp [d]
   .by_cases g:((a.length:Nat):Int)=((b.length:Nat):Int)
    .have c:¬((a.length:Nat):Int)≠((b.length:Nat):Int):=λh=>h g;by_cases e:t<0
     .exact .inr (.inr (.inr (.inr (.inl ⟨rfl,rfl,d,c,e⟩))))
     .by_cases f:t>3600000
      .exact .inr (.inr (.inr (.inr (.inr (.inl ⟨rfl,rfl,d,c,e,f⟩)))))
      .cases h7:a.all Bd
       .exact .inr (.inr (.inr (.inr (.inr (.inr (.inl ⟨rfl,rfl,d,c,e,f,rfl⟩))))))
       .cases h8:b.all Bd
        .exact .inr (.inr (.inr (.inr (.inr (.inr (.inr (.inl ⟨rfl,rfl,d,c,e,f,rfl,rfl⟩)))))))
        .exact .inr (.inr (.inr (.inr (.inr (.inr (.inr (.inr ⟨rfl,rfl,d,c,e,f,rfl,rfl⟩)))))))
    .exact .inr (.inr (.inr (.inl ⟨rfl,rfl,d,g⟩)))
 .exact .inl rfl
variable {a b w t bad}
theorem Ybv(c:bad=true):lkB a b w t bad=false:=by unfold lkB;rw [c];rfl
theorem lk_f1(d:bad=false)(c:Cb w=false):lkB a b w t bad=false:=by unfold lkB;rw [c];simp
theorem lk_f2(c:bad=false)(d:Cb w=true)(e:((a.length:Nat):Int)=0):lkB a b w t bad=false:=by unfold lkB;rw [aJ (show ¬0<a.length by omega)];simp
theorem lk_f3(c:bad=false)(d:Cb w=true)(e:¬((a.length:Nat):Int)=0)(f:((a.length:Nat):Int)≠((b.length:Nat):Int)):lkB a b w t bad=false:=by unfold lkB;rw [aJ (show ¬a.length=b.length by omega)];simp
theorem lk_f4(c:bad=false)(d:Cb w=true)(e:¬((a.length:Nat):Int)=0)(f:¬((a.length:Nat):Int)≠((b.length:Nat):Int))(g:t<0):lkB a b w t bad=false:=by unfold lkB;rw [aJ (show ¬(0<=t/\t<=3600000) by omega)];simp
theorem lk_f5(c:bad=false)(d:Cb w=true)(e:¬((a.length:Nat):Int)=0)(f:¬((a.length:Nat):Int)≠((b.length:Nat):Int))(g:¬t<0)(h:t>3600000):lkB a b w t bad=false:=by unfold lkB;rw [aJ (show ¬(0<=t/\t<=3600000) by omega)];simp
theorem lk_f6(d:bad=false)(e:Cb w=true)(f:¬((a.length:Nat):Int)=0)(g:¬((a.length:Nat):Int)≠((b.length:Nat):Int))(h:¬t<0)(i:¬t>3600000)(c:a.all Bd=false):lkB a b w t bad=false:=by unfold lkB;rw [c];simp
theorem lk_f7(d:bad=false)(e:Cb w=true)(f:¬((a.length:Nat):Int)=0)(g:¬((a.length:Nat):Int)≠((b.length:Nat):Int))(h:¬t<0)(i:¬t>3600000)(j:a.all Bd=true)(c:b.all Bd=false):lkB a b w t bad=false:=by unfold lkB;rw [c];simp
theorem Zut(c:bad=false)(d:Cb w=true)(g:¬((a.length:Nat):Int)=0)(h:¬((a.length:Nat):Int)≠((b.length:Nat):Int))(i:¬t<0)(j:¬t>3600000)(e:a.all Bd=true)(f:b.all Bd=true):lkB a b w t bad=true:=by unfold lkB;rw [c,d,e,f,aN (show 0<a.length by omega),aN (show a.length=b.length by omega),aN (show 0<=t/\t<=3600000 by omega)];rfl
end
def lpT(p q:Pf)(w:WvT)(t n:Int):Nat->List Ca
 | 0=>[]
 | 1=>Zdv p t (t+n*w.1)
 | 2=>Zdv p t (t+n*w.1) ++ [glU p q (t+n*w.1) (t+n*w.1+w.2.1)]
 | _=>lpP p q w t n
theorem lp5{i:Nat}(h:i<3)(A B:Prop):(i=0/\A)\/(i=0/\¬A)\/i=1\/(i=2/\B)\/(i=2/\¬B):=by have:i=0\/i=1\/i=2:=O;by_cases c:A<;>by_cases d:B<;>simp [c,d]<;>omega
section
variable {p q:Pf} {gap fl wv t n:Int} {xs:List Zj} {r:SL×SL×SL}
theorem lpT_0(d:xs.map Mb=lpT p q (gap,fl,wv) t n 0)(c:t<t+n*gap):(xs ++ [glG p.1 p.2.1 p.2.2 p.1 p.2.1 p.2.2 t (t+n*gap) 1 r]).map Mb=lpT p q (gap,fl,wv) t n 1:=by rw [cE,d];show [] ++ [Mb _]=Zdv p t (t+n*gap);rw [un_hv,Zki c];rfl
theorem lpT_1(d:xs.map Mb=lpT p q (gap,fl,wv) t n 0)(c:¬t<t+n*gap):(xs ++ []).map Mb=lpT p q (gap,fl,wv) t n 1:=by rw [fE,d];show []=Zdv p t (t+n*gap);rw [Zkj c]
theorem lpT_2(c:xs.map Mb=lpT p q (gap,fl,wv) t n 1):(xs ++ [glG p.1 p.2.1 p.2.2 q.1 q.2.1 q.2.2 (t+n*gap) (t+n*gap+fl) 2 r]).map Mb=lpT p q (gap,fl,wv) t n 2:=by rw [cE,c];rfl
theorem lpT_3(d:xs.map Mb=lpT p q (gap,fl,wv) t n 2)(c:t+n*gap+fl<t+(wv-1)*gap+fl):(xs ++ [glG q.1 q.2.1 q.2.2 q.1 q.2.1 q.2.2 (t+n*gap+fl) (t+(wv-1)*gap+fl) 1 r]).map Mb=lpT p q (gap,fl,wv) t n 3:=by rw [cE,d];show(Zdv p t (t+n*gap) ++ [glU p q (t+n*gap) (t+n*gap+fl)]) ++ [Mb _]=Zdv p t (t+n*gap) ++ ([glU p q (t+n*gap) (t+n*gap+fl)] ++ Zdv q (t+n*gap+fl) (t+(wv-1)*gap+fl));rw [un_hv,Zki c,dV]
theorem lpT_4(d:xs.map Mb=lpT p q (gap,fl,wv) t n 2)(c:¬t+n*gap+fl<t+(wv-1)*gap+fl):(xs ++ []).map Mb=lpT p q (gap,fl,wv) t n 3:=by rw [fE,d];show(Zdv p t (t+n*gap) ++ [glU p q (t+n*gap) (t+n*gap+fl)])=Zdv p t (t+n*gap) ++ ([glU p q (t+n*gap) (t+n*gap+fl)] ++ Zdv q (t+n*gap+fl) (t+(wv-1)*gap+fl));rw [Zkj c,fE]
def glv_g{fr c:Int}(g:Bd p=true)(h:Bd q=true)(d:0<=fr)(e:fr<c)(f:c<=3600000):Zai p.1 p.2.1 p.2.2 q.1 q.2.1 q.2.2 fr c=true:=(Zk5 g h d e).trans (aN f)
def glv_h{fr c:Int}(d:Bd p=true)(e:0<=fr)(f:fr<c)(g:c<=3600000):Zai p.1 p.2.1 p.2.2 p.1 p.2.1 p.2.2 fr c=true:=glv_g d d e f g
end
def nbB(wv n:Int):Bool:=decide (n<0\/wv<=n)
def pbB(a:List Pf)(c:List Int)(wv:Int):Bool:=if c.length=a.length then c.any (nbB wv)else true
def lPr(a b:List Pf)(w:WvT)(t:Int)(c:List Int):List (List Ca):=if lkE a b w t (pbB a c w.2.2)=0 then lPs a b w t c a.length else []
section
variable {a b:List Pf} {w:WvT} {t wv:Int} {ns l:List Int} {i:Nat}
def an_t(hi:i<l.length)(h:nbB wv (l.getD i 0)=true):l.any (nbB wv)=true:=lZ.2 ⟨_,Zk hi,h⟩
theorem an_f(h:∀j,j<l.length->nbB wv (l.getD j 0)=false):l.any (nbB wv)=false:=by rw [jZ];intro x d;obtain⟨j,c,rfl⟩:=gY d;have:=h j c;rw [aC,aH c,eI]at this;rw [this];decide
def pb_1(h:((ns.length:Nat):Int)≠((a.length:Nat):Int)):pbB a ns wv=true:=aD O
def pb_2(h:¬((ns.length:Nat):Int)≠((a.length:Nat):Int)):pbB a ns wv=ns.any (nbB wv):=aF O
theorem pb_f(h:pbB a ns wv=false):ns.length=a.length/\ns.any (nbB wv)=false:=by
 unfold pbB at h;split at h
 .exact⟨by assumption,h⟩
 .cases h
theorem nb_at(h:ns.any (nbB wv)=false)(hi:i<ns.length):0<=ns.getD i 0/\ns.getD i 0<wv:=by have:=jZ.1 h _ (Zk (d:=0) hi);unfold nbB at this;simp only [cL]at this;omega
theorem Zu1{k:Nat}(h:Zao ls=lPs a b w t ns k):ls.length=k:=by have:=aL List.length h;simpa [Zao,lPs]using this
end
section
variable {a b:List Pf} {t gap fl wv:Int} {ns:List Int}
def lPr_t(h:lkE a b (gap,fl,wv) t (pbB a ns wv)=0):lPr a b (gap,fl,wv) t ns=lPs a b (gap,fl,wv) t ns a.length:=aF h
def Yb2(h:lkE a b (gap,fl,wv) t (pbB a ns wv)≠0):lPr a b (gap,fl,wv) t ns=[]:=aD h
end
section
variable {a b:List Pf} {w:WvT} {t wv:Int} {bad:Bool} {ns:List Int}
theorem Zxr(a b:List Pf)(w:WvT)(t:Int)(bad:Bool):Cb w=false\/(Cb w=true/\((a.length:Nat):Int)<1)\/(Cb w=true/\¬((a.length:Nat):Int)<1/\((a.length:Nat):Int)≠((b.length:Nat):Int))\/
  (Cb w=true/\¬((a.length:Nat):Int)<1/\¬((a.length:Nat):Int)≠((b.length:Nat):Int)/\¬(0<=t/\t<=3600000))\/
  (Cb w=true/\¬((a.length:Nat):Int)<1/\¬((a.length:Nat):Int)≠((b.length:Nat):Int)/\(0<=t/\t<=3600000)/\bad=true)\/
  (Cb w=true/\¬((a.length:Nat):Int)<1/\¬((a.length:Nat):Int)≠((b.length:Nat):Int)/\(0<=t/\t<=3600000)/\bad=false):=by
 cases Cb w
 .exact .inl rfl
 .by_cases d:((a.length:Nat):Int)<1
  .exact .inr (.inl ⟨rfl,d⟩)
  .by_cases f:((a.length:Nat):Int)=((b.length:Nat):Int)
   .have c:¬((a.length:Nat):Int)≠((b.length:Nat):Int):=λh=>h f;by_cases e:0<=t/\t<=3600000
    .cases bad
     .exact .inr (.inr (.inr (.inr (.inr ⟨rfl,d,c,e,rfl⟩))))
     .exact .inr (.inr (.inr (.inr (.inl ⟨rfl,d,c,e,rfl⟩))))
    .exact .inr (.inr (.inr (.inl ⟨rfl,d,c,e⟩)))
   .exact .inr (.inr (.inl ⟨rfl,d,f⟩))
def Zc7(h:¬(bad=false/\Cb w=true/\0<a.length/\a.length=b.length/\(0<=t/\t<=3600000)/\a.all Bd=true/\b.all Bd=true)):lkB a b w t bad=false:=
 lS.2 λc=>h (Yby c)
def lkr_t(e:Cb w=true)(h:¬((a.length:Nat):Int)<1)(f:¬((a.length:Nat):Int)≠((b.length:Nat):Int))(m:0<=t/\t<=3600000)(g:bad=false)(d:∀j,j<a.length->Bd (a.getD j Fr)=true/\Bd (b.getD j Fr)=true):lkB a b w t bad=true:=
 Zut g e O f O O (al_t λj c=>(d j c).1) (al_t λj c=>(d j O).2)
theorem nb_3(bm:Bool)(wv n:Int):bm=true\/(bm=false/\n<0)\/(bm=false/\¬n<0):=by
 cases bm
 .by_cases h:n<0
  .exact .inr (.inl ⟨rfl,h⟩)
  .exact .inr (.inr ⟨rfl,h⟩)
 .exact .inl rfl
theorem nb_s{d c:Bool}{k:Nat}(j:bm=(c || (ns.take k).any (nbB wv)))(g:k<ns.length)(h:(bm=true/\d=true)\/(bm=false/\ns.getD k 0<0/\d=true)\/(bm=false/\¬ns.getD k 0<0/\d=decide (ns.getD k 0>=wv))):d=(c || (ns.take (k+1)).any (nbB wv)):=by
 rw [Qb 0 _ g,List.any_append,<-Bool.or_assoc,<-j];rcases h with⟨e,rfl⟩|⟨e,f,rfl⟩|⟨e,f,rfl⟩
 .rw [e];rfl
 .have:nbB wv (ns.getD k 0)=true:=aN (.inl f);simp only [nG,this,Bool.true_or,Bool.or_true]
 .have:nbB wv (ns.getD k 0)=decide (ns.getD k 0>=wv):=dD.2 ⟨λh=>h.resolve_left f,λh=> .inr h⟩;rw [e];simp only [nG,this,List.any_nil,Bool.or_false,nE]
theorem nb_0:decide (((ns.length:Nat):Int)≠((a.length:Nat):Int))=(decide (ns.length≠a.length) || (ns.take 0).any (nbB wv)):=by rw [dY];simp only [List.any_nil,Bool.or_false];exact dD.2 O
theorem nb_e(d:bm=(decide (ns.length≠a.length) || (ns.take ns.length).any (nbB wv))):bm=pbB a ns wv:=by
 rw [d,bM];unfold pbB;by_cases h:ns.length=a.length
 .rw [aF h,aJ (λc=>c h)];rfl
 .rw [aD h,aN h];rfl
theorem ps_len{L:List (List Ca)}(h:Zao ls=L)(c:Zao ms=L):ls.length=ms.length:=by have e:=aL List.length (h.trans c.symm);simpa [Zao]using e
theorem ps_at{L:List (List Ca)}{k:Nat}(h:Zao ls=L)(c:Zao ms=L):(ls.getD k PT0).2.map Mb=(ms.getD k PT0).2.map Mb:=by have e:=aL (λl=>l[k]?) (h.trans c.symm);simp only [Zao,dZ]at e;rw [aC,aC];cases h3:ls[k]?<;>cases h4:ms[k]?<;>rw [h3,h4]at e<;>simp at e ⊢;exact e
end
section
variable {p q:Pf} {gap fl wv t n:Int} {r1 r2 r3:SL×SL×SL}
theorem lgP_11(c:t<t+n*gap)(d:t+n*gap+fl<lnd (gap,fl,wv) t):([] ++ [Gq p p t (t+n*gap) 2 r1] ++ [Gq p q (t+n*gap) (t+n*gap+fl) 0 r2] ++ [Gq q q (t+n*gap+fl) (lnd (gap,fl,wv) t) 2 r3]).map Mb=lpP p q (gap,fl,wv) t n:=by unfold lpP;rw [Zki c,Zki d];simp only [cE,bN,fL,Zlo,Zlp,fD,eW]
theorem lgP_10(c:t<t+n*gap)(d:¬t+n*gap+fl<lnd (gap,fl,wv) t):([] ++ [Gq p p t (t+n*gap) 2 r1] ++ [Gq p q (t+n*gap) (t+n*gap+fl) 0 r2]).map Mb=lpP p q (gap,fl,wv) t n:=by unfold lpP;rw [Zki c,Zkj d];simp only [cE,bN,fL,Zlo,Zlp,fD,eW]
theorem lgP_01(c:¬t<t+n*gap)(d:t+n*gap+fl<lnd (gap,fl,wv) t):([] ++ [Gq p q (t+n*gap) (t+n*gap+fl) 0 r2] ++ [Gq q q (t+n*gap+fl) (lnd (gap,fl,wv) t) 2 r3]).map Mb=lpP p q (gap,fl,wv) t n:=by unfold lpP;rw [Zkj c,Zki d];simp only [cE,bN,fL,Zlo,Zlp,fD,eW]
theorem lgP_00(c:¬t<t+n*gap)(d:¬t+n*gap+fl<lnd (gap,fl,wv) t):([] ++ [Gq p q (t+n*gap) (t+n*gap+fl) 0 r2]).map Mb=lpP p q (gap,fl,wv) t n:=by unfold lpP;rw [Zkj c,Zkj d];simp only [cE,bN,fL,Zlo,Zlp,fD,eW,fE]
end
open Go in
theorem fill36{G H I M N P c d e f g h j m o s u v x y z B D F:Value}:Instr.fill (λi=>some (i*6,6)) ((List.range (3*6)).map ((Value.agg #[G,H,I,M,N,P]).cells[· % (Value.agg #[G,H,I,M,N,P]).cells.size]!)).toArray [(0,.agg #[c,d,e,f,g,h]),(1,.agg #[j,m,o,s,u,v]),(2,.agg #[x,y,z,B,D,F])]=some #[c,d,e,f,g,h,j,m,o,s,u,v,x,y,z,B,D,F]:=by
 simp [Instr.fill,Value.cells,List.range,List.range.loop]
 try rfl
end Go.Sky
namespace Go.Sky
open Go Go.MapKept
variable{o:Oper}{t et:TypeId}{w0:World}{M0:Nat->Prop}{x y:Operand}{b:Nat}{kv:Value}
variable {P:Program} {N:Nat} {sc:Nat->Prop} {env env':Xz} {H H':Hp} {Q Q':Exit->Act->World->Prop} {M:Nat->Prop}
abbrev LkT:=Int×Int×Int×Int
def kv4(k:LkT):Value:= .agg #[.int .i64 k.1,.int .i64 k.2.1,.int .i64 k.2.2.1,.int .i64 k.2.2.2]
structure KeyQ (P:Program) (kt:TypeId):Prop where
 str:∃fs,P.underlying kt=some (.struct fs)
 eq:∀w k k',(Op.equal kt (kv4 k) (kv4 k')).run P w= .ok (decide (k=k')) w
 chk:∀e w k,(Instr.checkKey e 10000 kt (kv4 k)).run P w= .ok () w
def Yhg(a:Array MapEntry)(c:List (LkT×Value)):Prop:=a.toList.map (λe=>(e.key,e.val))=c.map λp=>(kv4 p.1,p.2)
def mpk(b:Nat)(d:List (LkT×Value)):Pc:=
 {own:=true,fp:=λk=>k=b,holds:=λw=>∃a n,w.heap[b]? = some (.map a n)/\Yhg a d
  lt:=λw k h g=>by subst g;obtain⟨_,_,h,_⟩:=h;exact(aO.1 h).1
  stable:=λw j h f=>by obtain⟨a,n,c,e⟩:=h;exact⟨a,n,(f.block b (aO.1 c).1 (λi=>i rfl)).trans c,e⟩ }
def mfk:List (LkT×Value)->LkT->Nat->Option (Nat×Value)
 | [],_,_=>none
 | (a,v)::r,k,i=>if k=a then some (i,v)else mfk r k (i+1)
theorem fa_4{kt:TypeId}(f:KeyQ P kt)(w:World)(k:LkT):∀(l:List MapEntry) (d:List (LkT×Value)) (i:Nat),l.map (λe=>(e.key,e.val))=d.map (λp=>(kv4 p.1,p.2))->(Instr.findAsking kt (kv4 k) l i).run P w= .ok (mfk d k i) w
 | [],[],_,_=>rfl
 | [],_::_,_,h=>by cases h
 | _::_,[],_,h=>by cases h
 | e::l,(a,v)::d,i,h=>by
  simp only [bN,List.cons.injEq,nH]at h;obtain⟨⟨g,j⟩,m⟩:=h;simp only [Instr.findAsking,g,Sem.run_bind,f.eq,Result.andThen_ok,cL,mfk];by_cases c:k=a
  .simp [c,j]
  .simp [c,fa_4 f w k l d (i+1) m]
theorem fk_4{kt:TypeId}(c:KeyQ P kt)(w:World)(k:LkT)(l:List MapEntry)(a:List (LkT×Value))(h:l.map (λe=>(e.key,e.val))=a.map (λp=>(kv4 p.1,p.2))):(Instr.findKey kt (kv4 k) l).run P w= .ok (mfk a k 0) w:=by
 obtain⟨d,f⟩:=c.str;unfold Instr.findKey;simp only [Sem.run_bind,run_underlying f,Result.andThen_ok];cases l with
 | nil=>cases a with
  | nil=>rfl
  | cons _ _=>cases h
 | cons e l=>
  have:Instr.findNow (.struct d) (kv4 k) (e::l) 0=none:=by simp [Instr.findNow,Instr.sameNow]
  rw [this];exact fa_4 c w k _ _ 0 h
theorem t_mmk   {d i:Nat}   (j:o.op= .makeMap t none) (h:o.dst=some d) (f:Nat.blt d N=true)
  (c:lk H 0=some (Yt w0 M0)) (l:∀b,w0.heap.size<=b->sc b) :
  T P N sc M o env H (G:=Nat) (λ_=>True) (λb=>(d,.map (some b))::env) (λb=>(i,mpk b [])::H):=λa w hs K Q e=>by
 have k:(execOp a.eval o).run P w= .ok (.value (.map (some w.heap.size))) (w.alloc (.map #[] 0)):=by simp only [execOp,j,Sem.run_bind,Option.map_none];rfl
 unfold Oper.wp;rw [k];show K (a.put o.dst _) _;rw [h];exact e w.heap.size _ _ aA ((hs.new c l i (mpk w.heap.size []) (.map #[] 0) ⟨#[],0,heap_alloc_new w _,rfl⟩ (λb g=>g)).put d _ f) (Chg.alloc _ _ _)
theorem t_muk (i:Nat)(k:LkT)  {kt:TypeId} {z:Operand}   {v:Value} {d:List (LkT×Value)}   (W:o.op= .mapUpdate t x y z) (S:o.dst=none)
  (hx:ev env x=some (.map (some b))) (hy:ev env y=some kv) (m:kv=kv4 k) (hz:ev env z=some v) (s:lk H i=some (mpk b d)) (r:mfk d k 0=none) (V:P.underlying t=some (.map kt et)) (f:KeyQ P kt)
  (F:lk H 0=some (Yt w0 M0)) (Z:∀b,w0.heap.size<=b->sc b) (R:M b) (l:i≠0:=by decide) :
  T P N sc M o env H (G:=Unit) (λ_=>True) (λ_=>env) (λ_=>(i,mpk b (d ++ [(k,v)]))::H):=λa w hs K Q I=>by
 subst m;obtain⟨c,n,j,B⟩:∃c n,w.heap[b]? = some (.map c n)/\Yhg c d:=hs.hold i _ s;have p:b<w.heap.size:=(aO.1 j).1;have D:=fk_4 f w k _ _ B;rw [r]at D;have Y:(execOp a.eval o).run P w= .ok .skip { w with heap:=w.heap.setIfInBounds b (.map (c.push ⟨kv4 k,v,n⟩) (n+1)) }:=by simp [execOp,W,hs.ev hx,hs.ev hy,hs.ev hz,Instr.mapUpdate,run_underlying V,Go.MapKept.run_getObj_map j,f.chk,D,Go.MapKept.run_setObj_map _ j]
 unfold Oper.wp;rw [Y];show K (a.put o.dst _) _;rw [S];have u:∀g:Nat->Prop,g b->Chg g w { w with heap:=w.heap.setIfInBounds b (.map (c.push ⟨kv4 k,v,n⟩) (n+1)) }:=λg h=>
  ⟨rfl,rfl,rfl,O7,λk f r=>by have:b≠k:=λe=>r (e▸h);simp [gC,this]⟩
 exact I () _ _ aA ((hs.upd s rfl l (q:=mpk b (d ++ [(k,v)])) (u (λk=>k=b) rfl) ⟨_,_,by simp only [gC,p,kG];rfl,by unfold Yhg at *;simp [B]⟩ (λk f=> .inl f) F Z).put_none undef) (u _ R)
def mlv(a:List (LkT×Value))(k:LkT)(z:Value):Value:=match mfk a k 0 with
 | some (_,v)=> .tuple #[v,.bool true]
 | none=> .tuple #[z,.bool false]
theorem d_mlk (i:Nat)(k:LkT)  {kt:TypeId}    {z:Value} {e:List (LkT×Value)} (m:o.op= .lookup t x y true)
  (q:ev env x=some (.map (some b))) (s:ev env y=some kv) (g:kv=kv4 k) (u:lk H i=some (mpk b e)) (l:P.underlying t=some (.map kt et)) (f:KeyQ P kt) (B:∀w,(zeroValue et).run P w= .ok z w)
  : Nf P N sc o env H (mlv e k z):=λa w hs=>by
 subst g;obtain⟨d,n,h,v⟩:∃d n,w.heap[b]? = some (.map d n)/\Yhg d e:=hs.hold i _ u;have c:=fk_4 f w k _ _ v;unfold mlv;cases hf:mfk e k 0 with
 | none=>
  rw [hf]at c;simp [execOp,m,hs.ev q,hs.ev s,Instr.lookup,run_underlying l,Go.MapKept.run_getObj_map h,f.chk,c,B]
 | some p=>
  obtain⟨j,r⟩:=p;rw [hf]at c;simp [execOp,m,hs.ev q,hs.ev s,Instr.lookup,run_underlying l,Go.MapKept.run_getObj_map h,f.chk,c]
end Go.Sky

