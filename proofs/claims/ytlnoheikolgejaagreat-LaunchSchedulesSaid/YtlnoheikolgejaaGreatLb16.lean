/- Rules, arithmetic and contracts: part 17. No conditions but those that each theorem names. -/
import Derived.Test.YtlnoheikolgejaaGreatLb15
set_option linter.all false
set_option maxHeartbeats 4000000
namespace Go.Sky
open Go.RowKit Below
variable {P:Program} {N:Nat} {sc:Nat->Prop} {env env':Pt} {H H':Hp} {Q Q':Exit->Act->World->Prop} {M:Nat->Prop}
def emp:Pc:=⟨false,λ_=>False,λ_=>True,λ_ _ _ h=>h.elim,λ_ _ _ _=>trivial⟩
def l3(z:Zt)(i:Nat):SL×List Int:=Zw i z.2.1 z.2.2.1 z.2.2.2
def Sat.drop{a:Act}{w:World}(h:Sat N sc env H a w)(j:Nat):Sat N sc env ((j,emp)::H) a w:=
 h.add j emp aA (λ_ _ _ _ _ _ b=>b.elim) (λ_ b=>b.elim)
end Go.Sky
namespace Go.Sky
def sR(g:Zt)(t:Rat):Rat:=(t-(g.1.1:Rat))/((g.1.2.1-g.1.1:Int):Rat)
def pzQ(g:Zt)(i:Nat)(s:Rat):Rat:=spX g i s/(g.1.2.2:Rat)
structure Mvd (y:Int) (v:Nat->Rat) (a c:List Zt):Prop where
 len:c.length=a.length
 t1:∀k,k<a.length->(c.getD k G0).1.1=(a.getD k G0).1.1+y
 t2:∀k,k<a.length->(c.getD k G0).1.2.1=(a.getD k G0).1.2.1+y
 ck:∀k,k<a.length->∀fr to,Hb fr to (a.getD k G0)=true->Ze6 (fr+y) (to+y) (c.getD k G0)=Ze6 fr to (a.getD k G0)
 pl:∀k,k<a.length->∀(t:Rat) i,i<3->pzQ (c.getD k G0) i (sR (c.getD k G0) (t+(y:Rat)))=pzQ (a.getD k G0) i (sR (a.getD k G0) t)+v i
section
variable {y:Int} {v w:Nat->Rat} {a b c d:List Zt}
def Mvd.F(h:Mvd y v a c)(e:0<a.length):spF c=spF a+y:=h.t1 0 e
theorem Mvd.L(h:Mvd y v a c)(e:0<a.length):spL c=spL a+y:=by unfold spL;rw [h.len];exact h.t2 _ O
variable (hpa:∀g∈a,Gin g) (hpb:∀g∈b,Gin g) (hba:Xl a=true) (hbb:Xl b=true) (hpc:∀g∈c,Gin g) (hpd:∀g∈d,Gin g) (hbc:Xl c=true) (hbd:Xl d=true)
include hpa hpb hba hbb hpc hpd hbc hbd
end
end Go.Sky
namespace Go.Sky
variable{d:Int}{r:Rat}{m:Nat}
structure QOK (n d:Int) (r:Rat) (m:Nat):Prop where
 p:0<d
 v:(n:Rat)=r*(d:Rat)
 a:bl n.natAbs<=m
 b:bl d.natAbs<=m
theorem QOK.ne{n:Int}(h:QOK n d r m):d≠0:=by have:=h.p;omega
def QOK.mono{n:Int}{k:Nat}(h:QOK n d r m)(a:m<=k):QOK n d r k:=⟨h.p,h.v,aB h.a a,aB h.b a⟩
def QOK.cg{n:Int}{s:Rat}(h:QOK n d r m)(e:r=s):QOK n d s m:=e▸h
section
variable {P:Program} {N:Nat} {sc:Nat->Prop} {env:Pt} {H:Hp}
end
end Go.Sky
namespace Go.Sky
open Go Go.MapKept
variable{o:Oper}{t:TypeId}{w0:World}{M0:Nat->Prop}{es:List (Int×Value)}
variable {P:Program} {N:Nat} {sc:Nat->Prop} {env env':Pt} {H H':Hp} {Q Q':Exit->Act->World->Prop} {M:Nat->Prop}
def mpe(a:Array MapEntry)(es:List (Int×Value)):Prop:=a.toList.map (λe=>(e.key,e.val))=es.map λp=>(Value.int .i64 p.1,p.2)
def mpi(b:Nat)(es:List (Int×Value)):Pc:=
 {own:=true,fp:=λk=>k=b,holds:=λw=>∃a n,w.heap[b]? = some (.map a n)/\mpe a es
  lt:=λw k h f=>by subst f;obtain⟨_,_,h,_⟩:=h;exact(aR.1 h).1
  stable:=λw i h e=>by obtain⟨a,n,c,d⟩:=h;exact⟨a,n,(e.block b (aR.1 c).1 (λg=>g rfl)).trans c,d⟩ }
def mfi:List (Int×Value)->Int->Nat->Option (Nat×Value)
 | [],_,_=>none
 | (a,v)::r,k,i=>if k=a then some (i,v)else mfi r k (i+1)
theorem fn_i(k:Int):∀(l:List MapEntry) (es:List (Int×Value)) (i:Nat),l.map (λe=>(e.key,e.val))=es.map (λp=>(Value.int .i64 p.1,p.2))->Instr.findNow (.int .i64) (.int .i64 k) l i=some (mfi es k i)
 | [],[],_,_=>rfl
 | [],_::_,_,h=>by cases h
 | _::_,[],_,h=>by cases h
 | e::l,(a,v)::es,i,h=>by
  simp only [bH,List.cons.injEq,Prod.mk.injEq]at h;obtain⟨⟨c,d⟩,f⟩:=h;by_cases b:k=a
  .subst b;simp [Instr.findNow,c,d,Instr.sameNow,mfi]
  .have g:(k == a)=false:=by simpa using b
   simp [Instr.findNow,c,Instr.sameNow,g,mfi,b,fn_i k l es (i+1) f]
theorem t_mmi   {d i:Nat}   (j:o.op= .makeMap t none) (h:o.dst=some d) (f:Nat.blt d N=true)
  (c:lk H 0=some (Xt w0 M0)) (l:∀b,w0.heap.size<=b->sc b) :
  T P N sc M o env H (G:=Nat) (λ_=>True) (λb=>(d,.map (some b))::env) (λb=>(i,mpi b [])::H):=λa w hs K Q e=>by
 have k:(execOp a.eval o).run P w= .ok (.value (.map (some w.heap.size))) (w.alloc (.map #[] 0)):=by simp only [execOp,j,Sem.run_bind,Option.map_none];rfl
 unfold Oper.wp;rw [k];show K (a.put o.dst _) _;rw [h];exact e w.heap.size _ _ aA ((hs.new c l i (mpi w.heap.size []) (.map #[] 0) ⟨#[],0,heap_alloc_new w _,rfl⟩ (λb g=>g)).put d _ f) (Chg.alloc _ _ _)
theorem Yh4 (i:Nat)  {kt B:TypeId} {x y z:Operand} {b:Nat} {k:Int} {v:Value}    (V:o.op= .insert t x y z) (R:o.dst=none)
  (Z:ev env x=some (.map (some b))) (hy:ev env y=some (.int .i64 k)) (hz:ev env z=some v) (p:lk H i=some (mpi b es)) (m:mfi es k 0=none) (j:i≠0) (S:P.underlying t=some (.map kt B)) (d:P.underlying kt=some (.int .i64))
  (D:lk H 0=some (Xt w0 M0)) (Y:∀b,w0.heap.size<=b->sc b) (I:M b) :
  T P N sc M o env H (G:=Unit) (λ_=>True) (λ_=>env) (λ_=>(i,mpi b (es ++ [(k,v)]))::H):=λa w hs K Q F=>by
 obtain⟨c,n,h,s⟩:∃c n,w.heap[b]? = some (.map c n)/\mpe c es:=hs.hold i _ p;have l:b<w.heap.size:=(aR.1 h).1;have u:=fn_i k _ _ 0 s;rw [m]at u;have W:(execOp a.eval o).run P w= .ok .skip { w with heap:=w.heap.setIfInBounds b (.map (c.push ⟨.int .i64 k,v,n⟩) (n+1)) }:=by simp [execOp,V,hs.ev Z,hs.ev hy,hs.ev hz,Instr.mapUpdate,run_underlying S,Go.MapKept.run_getObj_map h,run_checkKey d (show IsKey (.int .i64) (.int .i64 k)from rfl),run_findKey d u,Go.MapKept.run_setObj_map _ h]
 unfold Oper.wp;rw [W];show K (a.put o.dst _) _;rw [R];have r:∀f:Nat->Prop,f b->Chg f w { w with heap:=w.heap.setIfInBounds b (.map (c.push ⟨.int .i64 k,v,n⟩) (n+1)) }:=λf g=>
  ⟨rfl,rfl,rfl,O5,λk d m=>by have:b≠k:=λe=>m (e▸g);simp [gR,this]⟩
 exact F () _ _ aA ((hs.upd p rfl j (q:=mpi b (es ++ [(k,v)])) (r (λk=>k=b) rfl) ⟨_,_,by simp only [gR,l,jB];rfl,by unfold mpe at *;simp [s]⟩ (λk d=> .inl d) D Y).put_none undef) (r _ I)
end Go.Sky
namespace Go.Sky
def Ct(a b:Int)(c:List Int):List Int:=a::(if a=b then []else c.map λf=>f*(b-a))
abbrev Zdp:List Int:=[0,0,10,-15,6]
def glC(a b:Int):List Int:=Ct a b Zdp
theorem Zzo{a:Int} : glC a a=[a]:=by unfold glC Ct;rw [aM rfl]
def Zzn{a b:Int}(h:a≠b):glC a b=[a,0,0,10*(b-a),(-15)*(b-a),6*(b-a)]:=by unfold glC Ct;rw [aJ h];simp
theorem Ymm:∀(l:List Int),Lk 1 l=1
 | []=>rfl
 | x::r=>by show Lk ((Int.gcd 1 x:Nat):Int) r=1;rw [Int.gcd_one_left];exact Ymm r
theorem gl_axB{a b:Int}(e:-1048576<=a/\a<=1048576)(f:-1048576<=b/\b<=1048576):axB (glC a b) 1=true:=by
 by_cases h:a=b
 .subst h;rw [Zzo];have d:ctl [a] 0 1=a*60:=by simp [ctl,Yl,w60,Ot]
  have:Zjf [a] 1=true:=Ztm λj c=>by
   obtain rfl:j=0:=by simp at c;omega
   rw [d];omega
  unfold axB;rw [this];simp
 .rw [Zzn h];have d:∀j,j<6->ctl [a,0,0,10*(b-a),(-15)*(b-a),6*(b-a)] j (j+1)=if j<3 then a*60 else b*60:=λj c=>by
   match j,c with
   | 0,_=>simp [ctl,Yl,w60,Ot]
   | 1,_=>simp [ctl,Yl,w60,Ot]
   | 2,_=>simp [ctl,Yl,w60,Ot]
   | 3,_=>simp [ctl,Yl,w60,Ot];omega
   | 4,_=>simp [ctl,Yl,w60,Ot];omega
   | 5,_=>simp [ctl,Yl,w60,Ot];omega
  have:Zjf [a,0,0,10*(b-a),(-15)*(b-a),6*(b-a)] 1=true:=Ztm λj c=>by rw [d j (by simpa using c)];split<;>omega
  unfold axB;rw [this];simp;omega
structure GlS (g:Zt) (T ax ay az bx b2 bz:Int):Prop where
 f:g.1.1=0
 t:g.1.2.1=T
 o:g.1.2.2=1
 x:g.2.1.2=glC ax bx
 y:g.2.2.1.2=glC ay b2
 z:g.2.2.2.2=glC az bz
section
variable {g:Zt} {T ax ay az bx b2 bz:Int} (hg:GlS g T ax ay az bx b2 bz) (hT:1<=T/\T<=3600000) (ha:ptB ax ay az=true) (hb:ptB bx b2 bz=true)
include hg hT ha hb
end
end Go.Sky
namespace Go.Sky
open Go Go.MapKept
variable{b a ax ay az bx b2 bz:Int}{es:List (Int×Value)}{v1 v2:Value}
variable {P:Program} {N:Nat} {sc:Nat->Prop} {env env':Pt} {H H':Hp} {Q Q':Exit->Act->World->Prop} {M:Nat->Prop}
def mro(b:Nat)(es:List (Int×Value)):Pc:={ mpi b es with own:=false }
theorem s_pubm{b:Nat}(i:Nat)(hi:lk H i=some (mpi b es))(h:Nat.beq i 0=false):∀a w,Sat N sc env H a w->Sat N sc env ((i,mro b es)::H) a w:=λa w hs=>by have g:i≠0:=λe=>O11;exact hs.add i _ (show(mpi b es).holds w from hs.hold i _ hi) (λj m k l _ c d f=>hs.sep i j _ m (λe=>k e.symm) hi l rfl c d f) (λc d=>hs.scope i _ g hi c d)
theorem d_mlr {o:Oper} {t kt f:TypeId} {x y:Operand} {i b:Nat} {k:Int}  {r:Value} {j:Nat} (q:o.op= .lookup t x y false)
  (s:ev env x=some (.map (some b))) (u:ev env y=some (.int .i64 k)) (g:lk H i=some (mro b es)) (p:P.underlying t=some (.map kt f)) (e:P.underlying kt=some (.int .i64))
  (m:mfi es k 0=some (j,r)):Mk P N sc o env H r:=λa w hs=>by
 obtain⟨c,n,h,l⟩:∃c n,w.heap[b]? = some _/\mpe c es:=hs.hold i _ g;have d:=fn_i k _ _ 0 l;rw [m]at d;simp [execOp,q,hs.ev s,hs.ev u,Instr.lookup,run_underlying p,Go.MapKept.run_getObj_map h,run_checkKey e (show IsKey _ (.int _ k)from rfl),run_findKey e d]
def rwK(k:Int):List Int:=if k=0 then []else if k=1 then [1]else Zdp
def row3(k:Int)(v1 v2:Value):Value:=if k=0 then .slice none 0 0 else if k=1 then v1 else v2
theorem mf_row{k:Int}(c:k=0\/k=1\/k=2):mfi [(0,.slice none 0 0),(1,v1),(2,v2)] k 0=some (k.toNat,row3 k v1 v2):=by rcases c with rfl|rfl|rfl<;>rfl
theorem s_row{k:Int}(l:k=0\/k=1\/k=2)(f i2 j:Nat)(g:lk H f=some (Ym 1 Yd v1 [1]))(i:lk H i2=some (Ym 1 Yd v2 Zdp))(d:Nat.beq f 0=false)(e:Nat.beq i2 0=false) :
  ∀a w,Sat N sc env H a w->Sat N sc env ((j,Ym 1 Yd (row3 k v1 v2) (rwK k))::H) a w:=λa w hs=>by
 rcases l with rfl|rfl|rfl
 .exact hs.add j _ (Ap 1 _ w) (λ_ _ _ _ _ b c _=>absurd rfl c.1) (λb c=>absurd rfl c.1)
 .exact Zbl f j g d rfl (λw h=>h) (λb c=>c) rfl a w hs
 .exact Zbl i2 j i e rfl (λw h=>h) (λb c=>c) rfl a w hs
theorem Ybi{k:Int} : ∀f∈rwK k,-15<=f/\f<=15:=by unfold rwK;grind
theorem trm_s{c:List Int}{k:Nat}(d:k<c.length):(a::((c.take (k+1)).map λf=>f*(b-a)))=(a::((c.take k).map λf=>f*(b-a))) ++ [c.getD k 0*(b-a)]:=by rw [Qx 0 _ _ d,bN];rfl
theorem trm_e (c:List Int)(h:a=b):Ct a b c=[a]:=by unfold Ct;grind
theorem trm_n{c:List Int}{k:Nat}(h:a≠b)(d:c.length<=k):Ct a b c=a::((c.take k).map λf=>f*(b-a)):=by unfold Ct;rw [aJ h,cC d]
theorem mulB (a:Int)(g:-33554432<=a/\a<=33554432)(h:-33554432<=b/\b<=33554432):-1125899906842624<=a*b/\a*b<=1125899906842624:=by have c:=cY (show 0<=33554432-a by omega) (show 0<=33554432-b by omega);have d:=cY (show 0<=33554432+a by omega) (show 0<=33554432+b by omega);have e:=cY (show 0<=33554432-a by omega) (show 0<=33554432+b by omega);have f:=cY (show 0<=33554432+a by omega) (show 0<=33554432-b by omega);grind
def Zc3(ax ay az bx b2 bz fr c:Int):Bool:=ptB ax ay az && (ptB bx b2 bz && decide (0<=fr/\fr<c/\c<=3600000))
theorem Zwv{fr c:Int}(d:ptB ax ay az=false):Zc3 ax ay az bx b2 bz fr c=false:=by unfold Zc3;grind
theorem Zwu{fr c:Int}(d:ptB bx b2 bz=false):Zc3 ax ay az bx b2 bz fr c=false:=by unfold Zc3;grind
theorem Znp{fr c:Int}(h:¬(0<=fr/\fr<c/\c<=3600000)):Zc3 ax ay az bx b2 bz fr c=false:=by unfold Zc3;grind
theorem Ysd{fr c:Int}(h:Zc3 ax ay az bx b2 bz fr c=true):ptB ax ay az=true/\ptB bx b2 bz=true/\0<=fr/\fr<c/\c<=3600000:=by unfold Zc3 at h;grind
def glG(ax ay az bx b2 bz fr c k:Int)(r:SL×SL×SL):Zt:=((fr,c,1),(r.1,Ct ax bx (rwK k)),(r.2.1,Ct ay b2 (rwK k)),(r.2.2,Ct az bz (rwK k)))
theorem Zyp{k:Int} : (rwK k).length<=5:=by unfold rwK;split;decide;split<;>decide
theorem Zp6{fr c:Int}(d:ptB ax ay az=true)(e:ptB bx b2 bz=true)(f:0<=fr)(g:fr<c):Zc3 ax ay az bx b2 bz fr c=decide (c<=3600000):=by unfold Zc3;grind
theorem Zr9(xs:List Nat)(k:Nat):(xs.map λn:Nat=>(n:Int)).getD k 0=((xs.getD k 0:Nat):Int):=by grind
@[reducible,instance] def roiM {b:Nat} {es:List (Int×Value)} : RoI (mro b es):=⟨rfl⟩
end Go.Sky
namespace Go.Sky
open Go.Proofs.Tryz
open Go.Proofs
set_option synthInstance.maxHeartbeats 0
set_option synthInstance.maxSize 100000
set_option maxRecDepth 20000
set_option linter.unusedSimpArgs false
def Yse:Cal prog 335 #[] [] true (G:=Nat×SL×SL) (λr=>True) (λr=> .map (some r.1)) (λr=>[mro r.1 [(0,.slice none 0 0),(1,Xi r.2.1),(2,Xi r.2.2)],Ym 1 Yd (Xi r.2.1) [1],Ym 1 Yd (Xi r.2.2) Zdp]):=by refine Zg func335 ntmps335 λk j a d=>go 7 ?_;refine tt (t_mmi (i:=1) J J J J a.h) (λh _=>?_);refine tt (Yh4 1 J J J J J J (by simp [mfi]) O3 underlying422 underlying281 J a.h aA) (λ_ _=>?_);refine tt (Yx [(0,_)] 2 (enc:=Yd) ([1]:List Int) J J K2 Ql ti3 J J J J J pZ.cells J J a.h) (λv _=>?_);refine tt (Yh4 1 J J J J J J (by simp [mfi]) O3 underlying422 underlying281 J a.h aA) (λ_ _=>?_);refine tt (Yx [(0,_),(1,_),(2,_),(3,_),(4,_)] 3 (enc:=Yd) ([0,0,10,-15,6]:List Int) J J K10 Ql ti3 J J J J J pZ.cells J J a.h) (λg _=>?_);refine tt (Yh4 1 J J J J J J (by simp [mfi]) O3 underlying422 underlying281 J a.h aA) λ_ _=>go 5 ?_;refine Zn (s_pubm 1 J J)<|Zn (Yz 2 J J pZ)<|Zb4 (Xe 2 J Zm) (λe b=>?_);subst b;refine Zn (Yz 3 J J pZ)<|Zb4 (Xe 3 J Zm) (λf c=>?_);subst c;exact Yq d (_,e,f) results335 J aA (Qy 1 (Qy 2 (Qy 3 Za)))
def Znq(v:Value)(a b:Int)(c:List Int)(t:-4194304<=a/\a<=4194304)(u:-4194304<=b/\b<=4194304)(h:∀f∈c,-15<=f/\f<=15)(x:c.length<=5):Cal prog 336 #[.int .i64 a,.int .i64 b,v] [Ym 1 Yd v c] true (G:=SL) (λr=>True) (λr=>Xi r) (λr=>[Ym 1 Yd (Xi r) (Ct a b c)]):=by
 refine Zg func336 ntmps336 λD z n j=>go 8 ?_;refine tt (Yx [(0,_)] 2 (enc:=Yd) ([a]:List Int) J J K2 Ql ti3 J J J J J pZ.cells J J n.h) λv _=>go 11 ?_;refine Zc J (λg=>?_) (λg=>?_)
 .refine go 8 ?_;refine lp (G:=Nat×Value) [0,1,15,16] [0,1] (λq=>[(17,.int .i64 (q.1:Int)),(7,q.2)]) (λq=>[(2,Oc 1 3 Yd q.2 (a::((c.take q.1).map λf=>f*(b-a))))]) (λq=>q.1<=c.length) (λq=>c.length-q.1) (0,_) O1 K2 K1 ?_;rintro⟨k,B⟩ o;dsimp only at o;dsimp only;refine go 6<|Zc J (λm=>?_) (λm=>?_)
  .refine go 6 ?_;refine dt (Zv 1 k J J J J Zm Ql Mv J)<|go 4 ⟨O,?_⟩;have w:=h _ (Zd (zs:=c) (i:=k) (d:=0) O);have y:=mulB (c.getD k 0) (b:=b-a) ⟨O,O⟩ ⟨O,O⟩;refine go 7 ⟨O,O,?_⟩;refine tt (Yx [(0,_)] 3 (enc:=Yd) ([c.getD k 0*(b-a)]:List Int) J J K2 Ql ti3 J J J J J pZ.cells J J n.h) (λp _=>?_);refine tt (Qr 2 3 8 J J J J J J O3 J (Zo pZ) Ql ti3 J pZ J J J O9 O3 J n.h) (λs _=>?_);refine go 8 ⟨O,?_⟩;exact Yi (k+1,_) O1 O1 K2 ⟨by rw [trm_s O];rfl,aA⟩
  .refine go 12<|Zn (Yz 2 J J pZ) ?_;refine Zb4 (Xe 2 J Zm) (λl e=>?_);subst e;exact Yq j l results336 J aA (Qy 2 Za (aD (Ym 1 Yd (Xi l)) (trm_n g O).symm))
 .refine go 9<|Zn (Yz 2 J J pZ) ?_;refine Zb4 (Xe 2 J Zm) (λl e=>?_);subst e;exact Yq j l results336 J aA (Qy 2 Za (aD (Ym 1 Yd (Xi l)) (trm_e c (a:=a) (b:=b) O).symm))
def gl_leg{c d e f b g fr x k:Int}(v:k=0\/k=1\/k=2)(m:-4194304<=c/\c<=4194304)(n:-4194304<=d/\d<=4194304)(o:-4194304<=e/\e<=4194304)(p:-4194304<=f/\f<=4194304)(h:-4194304<=b/\b<=4194304)(q:-4194304<=g/\g<=4194304):Cal prog 271 #[.agg #[.int .i64 c,.int .i64 d,.int .i64 e],.agg #[.int .i64 f,.int .i64 b,.int .i64 g],.int .i64 fr,.int .i64 x,.int .i64 k] [] true (G:=SL×SL×SL) (λr=>True) (λr=> .agg #[.int .i64 fr,.int .i64 x,.int .i64 1,Xi r.1,Xi r.2.1,Xi r.2.2]) (λr=>[Ym 1 Yd (Xi r.1) (Ct c f (rwK k)),Ym 1 Yd (Xi r.2.1) (Ct d b (rwK k)),Ym 1 Yd (Xi r.2.2) (Ct e g (rwK k))]):=by refine Zg func271 ntmps271 λD B z s=>go 2 ?_;refine Yk (Yf 1) λbq _=>Yk (Yf 2) λt _=>Yk (Yh 3) λu _=>go 4 ?_;refine cl 4 [] Yse λrw _=>go 1 ?_;refine dt (d_mlr (i:=4) J J J J underlying422 underlying281 (mf_row v))<|go 4 ?_;refine Zf (s_row v 5 6 60 J J J J)<|Qe (λ_=>False) [(0,0),(1,0),(2,0),(3,0),(4,0),(5,0),(6,0),(8,0),(9,0),(10,0),(11,0),(12,0),(14,0),(15,0),(16,0),(17,0),(18,0),(7,1),(13,1),(19,1),(20,0),(21,3)]<|go 17<|Ys (Zp 7 [60] (Znq _ c f (rwK k) m p Ybi Zyp)) λy _=>Ys (Zp 8 [60] (Znq _ d b (rwK k) n h Ybi Zyp)) λj _=>Ys (Zp 9 [60] (Znq _ e g (rwK k) o q Ybi Zyp)) λl _=>?_;refine Xb J J (Qa (Qf [(0,_),(1,_),(2,_),(3,_),(4,_),(5,_)] J K12 (λa w hs=>Zd6 ((Zl J) a w hs) ((Zl J) a w hs) ((Zl J) a w hs) ((Pg 7 J Zm) a w hs) ((Pg 8 J Zm) a w hs) ((Pg 9 J Zm) a w hs))))<|go 4 ?_;exact Yq s (y,j,l) results271 J aA (Qy 7 (Qy 8 (Qy 9 Za)))
def Zww{g h i k e l fr m:Int}:Cal prog 237 #[.agg #[.int .i64 g,.int .i64 h,.int .i64 i],.agg #[.int .i64 k,.int .i64 e,.int .i64 l],.int .i64 fr,.int .i64 m] [] true (G:=Unit) (λ_=>True) (λ_=> .bool (Zc3 g h i k e l fr m)) (λ_=>[]):=by
 refine Zg func237 ntmps237 λp o n a=>go 2 ?_;refine Yk (Yf 1) λbq _=>Yk (Yf 2) λj _=>go 6 ?_;refine cl 2 [] (Yht _ _ _) λ_ _=>go 1<|Mb 11 J (λf=>?_) (λf=>?_)
 .refine go 1 ?_;refine Hx 2 [] (Yht _ _ _) λ_ _=>go 2<|Mb 15 J (λb=>?_) (λb=>?_)
  .refine go 4<|Yc 19 J (λc=>?_) (λc=>?_)
   .refine go 5<|Yc 24 J (λd=>?_) (λd=>?_)
    .refine go 7 ?_;exact Yq a () results237 (by first|exact vB (Zwv ‹_›)|exact vB (Zwu ‹_›)|exact vB (Znp O)|exact vB (Zp6 ‹_› ‹_› O O)) aA Za
    .refine go 7 ?_;exact Yq a () results237 (by first|exact vB (Zwv ‹_›)|exact vB (Zwu ‹_›)|exact vB (Znp O)|exact vB (Zp6 ‹_› ‹_› O O)) aA Za
   .refine go 12 ?_;exact Yq a () results237 (by first|exact vB (Zwv ‹_›)|exact vB (Zwu ‹_›)|exact vB (Znp O)|exact vB (Zp6 ‹_› ‹_› O O)) aA Za
  .refine go 16 ?_;exact Yq a () results237 (by first|exact vB (Zwv ‹_›)|exact vB (Zwu ‹_›)|exact vB (Znp O)|exact vB (Zp6 ‹_› ‹_› O O)) aA Za
 .refine go 20 ?_;exact Yq a () results237 (by first|exact vB (Zwv ‹_›)|exact vB (Zwu ‹_›)|exact vB (Znp O)|exact vB (Zp6 ‹_› ‹_› O O)) aA Za
def Zzm{d e f h a i fr j k:Int}(m:k=0\/k=1\/k=2)(l:Zc3 d e f h a i fr j=false):Cal prog 195 #[.agg #[.int .i64 d,.int .i64 e,.int .i64 f],.agg #[.int .i64 h,.int .i64 a,.int .i64 i],.int .i64 fr,.int .i64 j,.int .i64 k] [] true (G:=Unit) (λ_=>True) (λ_=> .tuple #[.slice none 0 0,.int .i64 2]) (λ_=>[]):=by refine Zg func195 ntmps195 λp o n c=>go 2 ?_;refine Yk (Yf 1) λbq _=>Yk (Yf 2) λg _=>go 11 ?_;refine cl 2 [] Zww λ_ _=>?_;refine dt (dT (Qc J J) (aD (λb=>Value.bool (!b)) l))<|go 11 ?_;exact Nb c () results195 J aA Za
def Ymi{e f g h d i fr j k:Int}(D:k=0\/k=1\/k=2)(s:Zc3 e f g h d i fr j=true):Cal prog 195 #[.agg #[.int .i64 e,.int .i64 f,.int .i64 g],.agg #[.int .i64 h,.int .i64 d,.int .i64 i],.int .i64 fr,.int .i64 j,.int .i64 k] [] true (G:=Value×(SL×SL×SL)) (λr=>True) (λr=> .tuple #[r.1,.int .i64 0]) (λr=>[Qb 6 Qt qG r.1 [glG e f g h d i fr j k r.2]]):=by refine Zg func195 ntmps195 λI H F o=>?_;obtain⟨m,n,-,-,-⟩:=Ysd s;obtain⟨t,u,w⟩:=Zrm m;obtain⟨x,y,B⟩:=Zrm n;refine go 2<|Yk (Yf 1) λbq _=>Yk (Yf 2) λp _=>go 11 ?_;refine cl 2 [] Zww λ_ _=>?_;refine dt (dF (Qc J J) (aD (λb=>Value.bool (!b)) s))<|go 12 ?_;refine cl 3 [] (gl_leg D ⟨O,O⟩ ⟨O,O⟩ ⟨O,O⟩ ⟨O,O⟩ ⟨O,O⟩ ⟨O,O⟩) λ⟨l,a,c⟩ _=>?_;refine tt (Yx [(0,_)] 6 (enc:=Qt) [glG e f g h d i fr j k (l,a,c)] J J K2 Mm ti116 J J Zbd J J pG.cells J J F.h) λv _=>go 5 ?_;exact Zn (Yz 6 J J pG)<|Zn (Ya qC 71)<|Zn (Zh (q:=qC) (z:=(glG e f g h d i fr j k (l,a,c)).2.1) 71 3 71 J J J J J)<|Zn (Zh (q:=qC) (z:=(glG e f g h d i fr j k (l,a,c)).2.2.1) 71 4 71 J J J J J)<|Zn (Zh (q:=qC) (z:=(glG e f g h d i fr j k (l,a,c)).2.2.2) 71 5 71 J J J J J)<|Zn (Ya qG 73)<|Zn (Zh (q:=qG) (z:=(glG e f g h d i fr j k (l,a,c))) 73 71 73 J J J J J)<|Zn (Yy 6 73 72 J J J J)<|Nb o (_,l,a,c) results195 J aA (Qy 72 Za)
def Ymh(b c d e a f fr h:Int)(j:Zc3 b c d e a f fr h=true):Cal prog 126 #[.agg #[.int .i64 b,.int .i64 c,.int .i64 d],.agg #[.int .i64 e,.int .i64 a,.int .i64 f],.int .i64 fr,.int .i64 h] [] true (G:=Value×(SL×SL×SL)) (λr=>True) (λr=> .tuple #[r.1,.int .i64 0]) (λr=>[Qb 6 Qt qG r.1 [glG b c d e a f fr h 2 r.2]]):=by refine Zg func126 ntmps126 λm l k g=>go 2 ?_;refine Yk (Yf 1) λbq _=>Yk (Yf 2) λi _=>go 10 ?_;refine cl 3 [] (Ymi (.inr (.inr J)) j) λ⟨v,q⟩ _=>go 7 ?_;exact Nb g (v,q) results126 J aA (Qy 3 Za)
def Zj3(c d e g a h fr i:Int)(j:Zc3 c d e g a h fr i=false):Cal prog 125 #[.agg #[.int .i64 c,.int .i64 d,.int .i64 e],.agg #[.int .i64 g,.int .i64 a,.int .i64 h],.int .i64 fr,.int .i64 i] [] true (G:=Unit) (λ_=>True) (λ_=> .tuple #[.slice none 0 0,.int .i64 2]) (λ_=>[]):=by refine Zg func125 ntmps125 λm l k b=>go 2 ?_;refine Yk (Yf 1) λbq _=>Yk (Yf 2) λf _=>go 10 ?_;refine cl 2 [] (Zzm (.inr (.inl J)) j) λ_ _=>go 7 ?_;exact Nb b () results125 J aA Za
def Yc9(b c d e a f fr h:Int)(j:Zc3 b c d e a f fr h=true):Cal prog 125 #[.agg #[.int .i64 b,.int .i64 c,.int .i64 d],.agg #[.int .i64 e,.int .i64 a,.int .i64 f],.int .i64 fr,.int .i64 h] [] true (G:=Value×(SL×SL×SL)) (λr=>True) (λr=> .tuple #[r.1,.int .i64 0]) (λr=>[Qb 6 Qt qG r.1 [glG b c d e a f fr h 1 r.2]]):=by refine Zg func125 ntmps125 λm l k g=>go 2 ?_;refine Yk (Yf 1) λbq _=>Yk (Yf 2) λi _=>go 10 ?_;refine cl 3 [] (Ymi (.inr (.inl J)) j) λ⟨v,q⟩ _=>go 7 ?_;exact Nb g (v,q) results125 J aA (Qy 3 Za)
def Ymj{a b:Int}(e:-1048576<=a/\a<=1048576)(g:-1048576<=b/\b<=1048576)(k:Int):∀x∈Ct a b (rwK k),Mw x:=by
 intro x c;unfold Ct at c;rcases bD.1 c with rfl|c
 .exact⟨O,O⟩
 .split at c
  .cases c
  .obtain⟨f,d,rfl⟩:=dZ.1 c;have:=Ybi f d;have:=mulB f (b:=b-a) ⟨O,O⟩ ⟨O,O⟩;exact⟨O,O⟩
section
variable {ax ay az bx b2 bz:Int} {D s a T:Nat} (ha:ptB ax ay az=true) (hb:ptB bx b2 bz=true) (hT:1<=T/\T<=3600000)
include ha hb hT
end
end Go.Sky

