/- Rules, arithmetic and contracts: part 19. No conditions but those that each theorem names. -/
import Derived.Test.YtpmihempjefadaaGreatAw17
import Derived.Deep.LoopGhost
import Derived.Sort.LoopGhostIn
set_option linter.all false
set_option maxHeartbeats 4000000
namespace Go.Sky
structure Mvd (y:Int) (v:Nat->Rat) (a c:List Ze):Prop where
 len:c.length=a.length
 t1:∀k,k<a.length->(c.getD k G0).1.1=(a.getD k G0).1.1+y
 t2:∀k,k<a.length->(c.getD k G0).1.2.1=(a.getD k G0).1.2.1+y
 ck:∀k,k<a.length->∀fr to,Li fr to (a.getD k G0)=true->Zgj (fr+y) (to+y) (c.getD k G0)=Zgj fr to (a.getD k G0)
 pl:∀k,k<a.length->∀(t:Rat) i,i<3->pzQ (c.getD k G0) i (sR (c.getD k G0) (t+(y:Rat)))=pzQ (a.getD k G0) i (sR (a.getD k G0) t)+v i
section
variable {y:Int} {v w:Nat->Rat} {a b c d:List Ze}
def Mvd.F(h:Mvd y v a c)(e:0<a.length):spF c=spF a+y:=h.t1 0 e
theorem Mvd.L(h:Mvd y v a c)(e:0<a.length):spL c=spL a+y:=by unfold spL;rw [h.len];exact h.t2 _ O
variable (hpa:∀g∈a,Gin g) (hpb:∀g∈b,Gin g) (hba:Xt a=true) (hbb:Xt b=true) (hpc:∀g∈c,Gin g) (hpd:∀g∈d,Gin g) (hbc:Xt c=true) (hbd:Xt d=true)
include hpa hpb hba hbb hpc hpd hbc hbd
end
end Go.Sky
namespace Go.Sky
variable{a:List Ze}{k m:Nat}{d:Int}{r:Rat}
theorem Yky(c:∀g∈a,Gin g)(b:Xt a=true)(f:k<a.length):spF a<=(a.getD k G0).1.1/\(a.getD k G0).1.2.1<=spL a:=by
 refine⟨?_,Zw7 c b (k:=k) (m:=a.length-1) O O⟩;rcases aV k with e|e
 .subst e;exact fE _
 .obtain⟨m,rfl⟩:∃m,k=m+1:=⟨k-1,O⟩;have:=Yg0 b f;have:=Zw7 c b (k:=0) (m:=m) O O;have:=(Iz (c _ (Zi (d:=G0) (show 0<a.length by omega))) (Cr ((Oh b).1 _ (show 0<a.length by omega)))).t2;unfold spF;omega
structure QOK (n d:Int) (r:Rat) (m:Nat):Prop where
 p:0<d
 v:(n:Rat)=r*(d:Rat)
 a:bl n.natAbs<=m
 b:bl d.natAbs<=m
theorem QOK.ne{n:Int}(h:QOK n d r m):d≠0:=by have:=h.p;omega
def QOK.mono{n:Int}(h:QOK n d r m)(b:m<=k):QOK n d r k:=⟨h.p,h.v,aB h.a b,aB h.b b⟩
def QOK.cg{n:Int}{s:Rat}(h:QOK n d r m)(e:r=s):QOK n d s m:=e▸h
def sq3(f:Nat->Rat):Nat->Rat
 | 0=>0
 | k+1=>sq3 f k+f k*f k
abbrev QzT:=(Int×SL)×(Int×SL)
abbrev encq (z:QzT):Value:= .agg #[.bool (decide (z.1.1<0)),Xo z.1.2,.bool (decide (z.2.1<0)),Xo z.2.2]
abbrev qq (z:QzT):Pc:=Hf qI [z.1,z.2]
abbrev QZ0:QzT:=((0,none,0,0),(1,none,0,0))
def PlQ(g:Ze)(t:Rat)(zs:List QzT)(k:Nat):Prop:=zs.length=k/\∀i,i<k->QOK (zs.getD i QZ0).1.1 (zs.getD i QZ0).2.1 (pzQ g i (sR g t)) 28000
def Plc(ps:List Ze)(t:Rat)(zs:List QzT):Prop:=∃j,j<ps.length/\InG (ps.getD j G0) t/\PlQ (ps.getD j G0) t zs 3
def ClsI(a b:List Ze)(D:Int)(t:Rat)(c:Bool):Prop:=∃j k,j<a.length/\k<b.length/\InG (a.getD j G0) t/\InG (b.getD k G0) t/\(c=true↔dQ (a.getD j G0) (b.getD k G0) (sR (a.getD j G0) t) (sR (b.getD k G0) t)<(D:Rat)*(D:Rat))
section
variable {P:Program} {N:Nat} {sc:Nat->Prop} {env:Qj} {H:Hp}
end
def MvR(ps:List Ze)(v:V3T)(zs:List Ze)(e:Int):Prop:=e=2\/e=3\/e=0/\Xt zs=true/\(∀g∈zs,Gin g)/\zs.map Dn=(ps.map (mvG v)).map Dn
end Go.Sky
namespace Go.Sky
open Go.Proofs.Tryz
open Go.Proofs
set_option synthInstance.maxHeartbeats 0
set_option synthInstance.maxSize 100000
set_option maxRecDepth 20000
set_option linter.unusedSimpArgs false
variable{o:Oper}{t:TypeId}{w0:World}{M0:Nat->Prop}{es:List (Int×Value)}
theorem Ycl{x y z:Int}:Xj prog 128 #[.agg #[.int .i64 x,.int .i64 y,.int .i64 z]] [] (.bool (vcB x y z)):=by refine Zd func128 ntmps128 λw0 d b a=>go 2 ?_;refine Zz (Zu 1) λc _=>go 11 ?_;refine tt (Oe [(0,_),(1,_),(2,_)] 2 (enc:=Xf) ([x,y,z]:List Int) J J K6 Le ti3 J J J J J pZ.cells J J b.h) λv _=>cl 2 [2] (Ycm [x,y,z] 16777216 ⟨O3,O3⟩) λ_ _=>go 4 ?_;exact Yx a () results128 J aA Za
open Go Go.MapKept
variable {P:Program} {N:Nat} {sc:Nat->Prop} {env env':Qj} {H H':Hp} {Q Q':Exit->Act->World->Prop} {M:Nat->Prop}
def mpe(a:Array MapEntry)(es:List (Int×Value)):Prop:=a.toList.map (λe=>(e.key,e.val))=es.map λp=>(Value.int .i64 p.1,p.2)
def mpi(b:Nat)(es:List (Int×Value)):Pc:=
 {own:=true,fp:=λk=>k=b,holds:=λw=>∃a n,w.heap[b]? = some (.map a n)/\mpe a es
  lt:=λw k h f=>by subst f;obtain⟨_,_,h,_⟩:=h;exact(aO.1 h).1
  stable:=λw i h e=>by obtain⟨a,n,c,d⟩:=h;exact⟨a,n,(e.block b (aO.1 c).1 (λg=>g rfl)).trans c,d⟩ }
def mfi:List (Int×Value)->Int->Nat->Option (Nat×Value)
 | [],_,_=>none
 | (a,v)::r,k,i=>if k=a then some (i,v)else mfi r k (i+1)
theorem fn_i(k:Int):∀(l:List MapEntry) (es:List (Int×Value)) (i:Nat),l.map (λe=>(e.key,e.val))=es.map (λp=>(Value.int .i64 p.1,p.2))->Instr.findNow (.int .i64) (.int .i64 k) l i=some (mfi es k i)
 | [],[],_,_=>rfl
 | [],_::_,_,h=>by cases h
 | _::_,[],_,h=>by cases h
 | e::l,(a,v)::es,i,h=>by
  simp only [cQ,List.cons.injEq,Prod.mk.injEq]at h;obtain⟨⟨c,d⟩,f⟩:=h;by_cases b:k=a
  .subst b;simp [Instr.findNow,c,d,Instr.sameNow,mfi]
  .have g:(k == a)=false:=by simpa using b
   simp [Instr.findNow,c,Instr.sameNow,g,mfi,b,fn_i k l es (i+1) f]
theorem t_mmi   {d i:Nat}   (j:o.op= .makeMap t none) (h:o.dst=some d) (f:Nat.blt d N=true)
  (c:lk H 0=some (Zt w0 M0)) (l:∀b,w0.heap.size<=b->sc b) :
  T P N sc M o env H (G:=Nat) (λ_=>True) (λb=>(d,.map (some b))::env) (λb=>(i,mpi b [])::H):=λa w hs K Q e=>by
 have k:(execOp a.eval o).run P w= .ok (.value (.map (some w.heap.size))) (w.alloc (.map #[] 0)):=by simp only [execOp,j,Sem.run_bind,Option.map_none];rfl
 unfold Oper.wp;rw [k];show K (a.put o.dst _) _;rw [h];exact e w.heap.size _ _ aA ((hs.new c l i (mpi w.heap.size []) (.map #[] 0) ⟨#[],0,heap_alloc_new w _,rfl⟩ (λb g=>g)).put d _ f) (Chg.alloc _ _ _)
theorem Ycv (i:Nat)  {kt B:TypeId} {x y z:Operand} {b:Nat} {k:Int} {v:Value}    (V:o.op= .insert t x y z) (R:o.dst=none)
  (Z:ev env x=some (.map (some b))) (hy:ev env y=some (.int .i64 k)) (hz:ev env z=some v) (p:lk H i=some (mpi b es)) (m:mfi es k 0=none) (j:i≠0) (S:P.underlying t=some (.map kt B)) (d:P.underlying kt=some (.int .i64))
  (D:lk H 0=some (Zt w0 M0)) (Y:∀b,w0.heap.size<=b->sc b) (I:M b) :
  T P N sc M o env H (G:=Unit) (λ_=>True) (λ_=>env) (λ_=>(i,mpi b (es ++ [(k,v)]))::H):=λa w hs K Q F=>by
 obtain⟨c,n,h,s⟩:∃c n,w.heap[b]? = some (.map c n)/\mpe c es:=hs.hold i _ p;have l:b<w.heap.size:=(aO.1 h).1;have u:=fn_i k _ _ 0 s;rw [m]at u;have W:(execOp a.eval o).run P w= .ok .skip { w with heap:=w.heap.setIfInBounds b (.map (c.push ⟨.int .i64 k,v,n⟩) (n+1)) }:=by simp [execOp,V,hs.ev Z,hs.ev hy,hs.ev hz,Instr.mapUpdate,run_underlying S,Go.MapKept.run_getObj_map h,run_checkKey d (show IsKey (.int .i64) (.int .i64 k)from rfl),run_findKey d u,Go.MapKept.run_setObj_map _ h]
 unfold Oper.wp;rw [W];show K (a.put o.dst _) _;rw [R];have r:∀f:Nat->Prop,f b->Chg f w { w with heap:=w.heap.setIfInBounds b (.map (c.push ⟨.int .i64 k,v,n⟩) (n+1)) }:=λf g=>
  ⟨rfl,rfl,rfl,O8,λk d m=>by have:b≠k:=λe=>m (e▸g);simp [kV,this]⟩
 exact F () _ _ aA ((hs.upd p rfl j (q:=mpi b (es ++ [(k,v)])) (r (λk=>k=b) rfl) ⟨_,_,by simp only [kV,l,jZ];rfl,by unfold mpe at *;simp [s]⟩ (λk d=> .inl d) D Y).put_none undef) (r _ I)
end Go.Sky
namespace Go.Sky
def Zaj(a b:Int)(c:List Int):List Int:=a::(if a=b then []else c.map λf=>f*(b-a))
abbrev Zys:List Int:=[0,0,10,-15,6]
def glC(a b:Int):List Int:=Zaj a b Zys
def Yga{a:Int} : glC a a=[a]:=by unfold glC Zaj;rw [aF rfl]
def glC_ne{a b:Int}(h:a≠b):glC a b=[a,0,0,10*(b-a),(-15)*(b-a),6*(b-a)]:=by unfold glC Zaj;rw [aD h];simp
abbrev d2V (a b c e d f:Int):Int:=(a-e)*(a-e)+(b-d)*(b-d)+(c-f)*(c-f)
abbrev uNear:Rat:=(1-57735026918962576/100000000000000000)/2
def Ygc:∀(l:List Int),Ll 1 l=1
 | []=>rfl
 | x::r=>by show Ll ((Int.gcd 1 x:Nat):Int) r=1;rw [Int.gcd_one_left];exact Ygc r
def Zvq{a b:Int}(e:-1048576<=a/\a<=1048576)(f:-1048576<=b/\b<=1048576):axB (glC a b) 1=true:=by
 by_cases h:a=b
 .subst h;rw [Yga];have d:ctl [a] 0 1=a*60:=by simp [ctl,Yb,w60,Px]
  have:Zhm [a] 1=true:=Zqh λj c=>by
   obtain rfl:j=0:=by simp at c;omega
   rw [d];omega
  unfold axB;rw [this];simp
 .rw [glC_ne h];have d:∀j,j<6->ctl [a,0,0,10*(b-a),(-15)*(b-a),6*(b-a)] j (j+1)=if j<3 then a*60 else b*60:=λj c=>by
   match j,c with
   | 0,_=>simp [ctl,Yb,w60,Px]
   | 1,_=>simp [ctl,Yb,w60,Px]
   | 2,_=>simp [ctl,Yb,w60,Px]
   | 3,_=>simp [ctl,Yb,w60,Px];omega
   | 4,_=>simp [ctl,Yb,w60,Px];omega
   | 5,_=>simp [ctl,Yb,w60,Px];omega
  have:Zhm [a,0,0,10*(b-a),(-15)*(b-a),6*(b-a)] 1=true:=Zqh λj c=>by rw [d j (by simpa using c)];split<;>omega
  unfold axB;rw [this];simp;omega
structure GlS (g:Ze) (T ax ay az bx b2 bz:Int):Prop where
 f:g.1.1=0
 t:g.1.2.1=T
 o:g.1.2.2=1
 x:g.2.1.2=glC ax bx
 y:g.2.2.1.2=glC ay b2
 z:g.2.2.2.2=glC az bz
section
variable {g:Ze} {T ax ay az bx b2 bz:Int} (hg:GlS g T ax ay az bx b2 bz) (hT:1<=T/\T<=3600000) (ha:ptB ax ay az=true) (hb:ptB bx b2 bz=true)
include hg hT ha hb
end
end Go.Sky
namespace Go.Sky
open Go Go.MapKept
variable{b k a ax ay az bx b2 bz:Int}{es:List (Int×Value)}{v1 v2:Value}
variable {P:Program} {N:Nat} {sc:Nat->Prop} {env env':Qj} {H H':Hp} {Q Q':Exit->Act->World->Prop} {M:Nat->Prop}
def mro(b:Nat)(es:List (Int×Value)):Pc:={ mpi b es with own:=false }
theorem s_pubm{b:Nat}(i:Nat)(hi:lk H i=some (mpi b es))(g:Nat.beq i 0=false):∀a w,Sat N sc env H a w->Sat N sc env ((i,mro b es)::H) a w:=λa w hs=>by
 have h:i≠0:=λe=>by subst e;cases g
 exact hs.add i (mro b es) (show(mpi b es).holds w from hs.hold i _ hi) (λj n l m _ c d f=>hs.sep i j _ n (λe=>l e.symm) hi m rfl c d f) (λc d=>hs.scope i _ h hi c d)
theorem d_mlr {o:Oper} {t kt f:TypeId} {x y:Operand} {i b:Nat}   {r:Value} {j:Nat} (q:o.op= .lookup t x y false)
  (s:ev env x=some (.map (some b))) (u:ev env y=some (.int .i64 k)) (g:lk H i=some (mro b es)) (p:P.underlying t=some (.map kt f)) (e:P.underlying kt=some (.int .i64))
  (m:mfi es k 0=some (j,r)):Mt P N sc o env H r:=λa w hs=>by
 obtain⟨c,n,h,l⟩:∃c n,w.heap[b]? = some (.map c n)/\mpe c es:=hs.hold i _ g;have d:=fn_i k _ _ 0 l;rw [m]at d;simp [execOp,q,hs.ev s,hs.ev u,Instr.lookup,run_underlying p,Go.MapKept.run_getObj_map h,run_checkKey e (show IsKey (.int .i64) (.int .i64 k)from rfl),run_findKey e d]
def rwK(k:Int):List Int:=if k=0 then []else if k=1 then [1]else Zys
def row3(k:Int)(v1 v2:Value):Value:=if k=0 then .slice none 0 0 else if k=1 then v1 else v2
theorem mf_row(c:k=0\/k=1\/k=2):mfi [(0,.slice none 0 0),(1,v1),(2,v2)] k 0=some (k.toNat,row3 k v1 v2):=by rcases c with rfl|rfl|rfl<;>rfl
theorem s_row(l:k=0\/k=1\/k=2)(f i2 j:Nat)(g:lk H f=some (Ys 1 Xf v1 [1]))(i:lk H i2=some (Ys 1 Xf v2 Zys))(d:Nat.beq f 0=false)(e:Nat.beq i2 0=false) :
  ∀a w,Sat N sc env H a w->Sat N sc env ((j,Ys 1 Xf (row3 k v1 v2) (rwK k))::H) a w:=λa w hs=>by
 rcases l with rfl|rfl|rfl
 .exact hs.add j (Ys 1 Xf (.slice none 0 0) []) (Bd 1 Xf w) (λ_ _ _ _ _ b c _=>absurd rfl c.1) (λb c=>absurd rfl c.1)
 .exact Zcd f j g d rfl (λw h=>h) (λb c=>c) rfl a w hs
 .exact Zcd i2 j i e rfl (λw h=>h) (λb c=>c) rfl a w hs
theorem Zxn : ∀f∈rwK k,-15<=f/\f<=15:=by
 unfold rwK;split
 .intro f c;cases c
 .split
  .intro f c;rw [bZ.1 c];decide
  .decide
theorem trm_s{c:List Int}{k:Nat}(d:k<c.length):(a::((c.take (k+1)).map λf=>f*(b-a)))=(a::((c.take k).map λf=>f*(b-a))) ++ [c.getD k 0*(b-a)]:=by rw [Ps 0 _ _ d,eE];rfl
theorem trm_e (c:List Int)(h:a=b):Zaj a b c=[a]:=by unfold Zaj;rw [aF h]
theorem trm_n{c:List Int}{k:Nat}(h:a≠b)(d:c.length<=k):Zaj a b c=a::((c.take k).map λf=>f*(b-a)):=by unfold Zaj;rw [aD h,cC d]
abbrev numV (p:Nat):Value:= .agg #[.int .u64 ((p/U:Nat):Int),.int .u64 ((p%U:Nat):Int)]
def prN(l:List Nat):Nat:=l.foldl (· * ·) 1
def leL:List Nat->List Nat->Prop
 | [],[]=>True
 | x::xs,y::ys=>x<=y/\leL xs ys
 | _,_=>False
def kpQ(q s t:Nat):Bool:=!decide (prN [64,s,s,t,t]<q)
def kqQ(q a t:Nat):Bool:=!decide (prN [3,a,a,t,t,t,t]<q)
def keepsB(d s a t:Nat):Bool:=kpQ (prN [225,d,1000000]) s t && kqQ (prN [100,d,1000000,1000000]) a t
theorem Zse (a:Int)(b:Int)(g:-33554432<=a/\a<=33554432)(h:-33554432<=b/\b<=33554432):-1125899906842624<=a*b/\a*b<=1125899906842624:=by have c:=dS (show 0<=33554432-a by omega) (show 0<=33554432-b by omega);have d:=dS (show 0<=33554432+a by omega) (show 0<=33554432+b by omega);have e:=dS (show 0<=33554432-a by omega) (show 0<=33554432+b by omega);have f:=dS (show 0<=33554432+a by omega) (show 0<=33554432-b by omega);simp only [Int.sub_mul,oJ,lW,kN]at c d e f;constructor<;>omega
def Zew(ax ay az bx b2 bz fr c:Int):Bool:=ptB ax ay az && (ptB bx b2 bz && decide (0<=fr/\fr<c/\c<=3600000))
theorem Zsy{fr d:Int}(c:ptB ax ay az=false):Zew ax ay az bx b2 bz fr d=false:=by unfold Zew;rw [c];rfl
theorem Zsx{fr d:Int}(c:ptB bx b2 bz=false):Zew ax ay az bx b2 bz fr d=false:=by unfold Zew;rw [c,kG,dH]
theorem Zsw{fr c:Int}(h:¬(0<=fr/\fr<c/\c<=3600000)):Zew ax ay az bx b2 bz fr c=false:=by unfold Zew;rw [aK h,dH,dH]
theorem Yl3{fr c:Int}(h:Zew ax ay az bx b2 bz fr c=true):ptB ax ay az=true/\ptB bx b2 bz=true/\0<=fr/\fr<c/\c<=3600000:=by unfold Zew at h;simp only [aQ,cZ]at h;exact⟨h.1,h.2.1,h.2.2⟩
def glG(ax ay az bx b2 bz fr c k:Int)(r:SL×SL×SL):Ze:=((fr,c,1),(r.1,Zaj ax bx (rwK k)),(r.2.1,Zaj ay b2 (rwK k)),(r.2.2,Zaj az bz (rwK k)))
theorem Zu3 : (rwK k).length<=5:=by unfold rwK;split;decide;split<;>decide
theorem Znc{fr c:Int}(d:ptB ax ay az=true)(e:ptB bx b2 bz=true)(f:0<=fr)(g:fr<c):Zew ax ay az bx b2 bz fr c=decide (c<=3600000):=by unfold Zew;rw [d,e,fJ,fJ];exact cF.2 ⟨λh=>h.2.2,λh=>⟨f,g,h⟩⟩
def tmB(ax ay az bx b2 bz d c:Int):Bool:=ptB ax ay az && (ptB bx b2 bz && decide ((1<=d/\d<=10000)/\(1<=c/\c<=10000)))
theorem Ycn{x y z:Int}(h:ptB x y z=true):vcB x y z=true:=by obtain⟨c,d,e⟩:=Zam h;unfold vcB Zmd;simp;omega
@[reducible,instance] def roiM {b:Nat} {es:List (Int×Value)} : RoI (mro b es):=⟨rfl⟩
end Go.Sky
namespace Go.Sky
open Go.Proofs.Tryz
open Go.Proofs
set_option synthInstance.maxHeartbeats 0
set_option synthInstance.maxSize 100000
set_option maxRecDepth 20000
set_option linter.unusedSimpArgs false
open Go.RowKit Below
variable{p:Prop}{a:Act}{w:World}{x y c:Code}{id r:Nat}{K K':Act->World->Prop}{o:Oper}{pre:List Pc}{lbv:List Value}
variable {P:Program} {N:Nat} {sc:Nat->Prop} {env env':Qj} {H H':Hp} {Q Q':Exit->Act->World->Prop} {ds:List Nat}
abbrev mrk (D:Nat):Deferred:={ target:= .collected D,args:=#[] }
def ap(ds:List Nat)(a:Act):Act:={ a with defers:=a.defers ++ ds.map mrk }
theorem Zkc(a:Act)(d:Option Tmp)(v:Value):(ap ds a).put d v=ap ds (a.put d v):=by cases d<;>rfl
def fxs(ds:List Nat):Pc:=
  { own:=true,fp:=λb=>b∈ds,holds:=λw=>ds.Nodup/\∀D∈ds,w.heap[D]? = some (.deferred (some []))
    lt:=λw b h e=>(aO.1 (h.2 b e)).1
    stable:=λw i h f=>⟨h.1,λD d=>(f.block D (aO.1 (h.2 D d)).1 (λg=>g d)).trans (h.2 D d)⟩ }
theorem Ylk{p q:Pc}{i:Nat}(h:lk ((91,p)::H) i=some q):(i=91/\q=p)\/(i≠91/\lk H i=some q):=by
  by_cases b:91=i
  . subst b;rw [Zm]at h;cases h;exact .inl ⟨rfl,rfl⟩
  . rw [Zh b]at h;exact .inr ⟨λe=>b e.symm,h⟩
theorem Zvp{D:Nat}(hs:Sat N sc env H a w)(f:lk H 91=some (fxs ds))(I:w.heap[D]? = some (.deferred (some [])))(t:∀i q,lk H i=some q->¬q.fp D)(u:sc D):Sat N sc env ((91,fxs (D::ds))::H) a w:=by
  have v:=hs.hold 91 _ f;have G:D ∉ ds:=λh=>t 91 _ f h;refine⟨hs.size,hs.defers,hs.env,λi p hi=>?_,λi j p q m hi M z b g d=>?_,λi p s hi b g=>?_⟩
  . rcases Ylk hi with⟨rfl,rfl⟩|⟨_,hi⟩
    . exact⟨kU.2 ⟨G,v.1⟩,λE n=>by
        rcases aZ.1 n with rfl|n
        . exact I
        . exact v.2 E n⟩
    . exact hs.hold i p hi
  . rcases Ylk hi with⟨rfl,rfl⟩|⟨B,k⟩<;>rcases Ylk M with⟨rfl,rfl⟩|⟨F,l⟩
    . exact m rfl
    . rcases aZ.1 g with rfl|g
      . exact t j q l d
      . exact hs.sep 91 j _ q (λe=>F e.symm) f l rfl b g d
    . rcases aZ.1 d with rfl|d
      . exact t i p k g
      . exact hs.sep i 91 p _ B k f z b g d
    . exact hs.sep i j p q m k l z b g d
  . rcases Ylk hi with⟨rfl,rfl⟩|⟨_,hi⟩
    . rcases aZ.1 g with rfl|g
      . exact u
      . exact hs.scope 91 _ O3 f b g
    . exact hs.scope i p s hi b g
def EG(P:Program)(N:Nat)(sc:Nat->Prop)(ds:List Nat)(c:Code)(Q:Exit->Act->World->Prop)(env:Qj)(H:Hp):Prop:=
  ∀a w,Sat N sc env H a w->c.wp P Q (ap ds a) w
def XG(N:Nat)(sc:Nat->Prop)(ds:List Nat)(e:Exit)(Q:Exit->Act->World->Prop)(env:Qj)(H:Hp):Prop:=
  ∀a w,Sat N sc env H a w->Q e (ap ds a) w
def Xc(h:EG P N sc ds x (Exit.then (y.wp P Q) Q) env H):EG P N sc ds (.seq x y) Q env H:=λa w hs=>wp_seq (h a w hs)
def Gz(h:XG N sc ds .normal Q env H):EG P N sc ds .skip Q env H:=λa w hs=>wp_skip (h a w hs)
def Ci(h:XG N sc ds .ret Q env H):EG P N sc ds .ret Q env H:=λa w hs=>wp_ret (h a w hs)
def Zi6(h:XG N sc ds (.exit id) Q env H):EG P N sc ds (.exit id) Q env H:=λa w hs=>wp_exit (h a w hs)
def Kx(h:EG P N sc ds c (Exit.inBlock id Q) env H):EG P N sc ds (.block id c) Q env H:=λa w hs=>wp_block (h a w hs)
def Zlh{x:Operand}{v:Value}(hs:Sat N sc env H a w)(b:ev env x=some v):(ap ds a).eval x=v:=hs.ev b
theorem Zbt{c:Operand}[Decidable p](b:ev env c=some (.bool (decide p)))(e:p->EG P N sc ds x Q env H)(d:¬p->EG P N sc ds y Q env H) :
    EG P N sc ds (.cond c x y) Q env H:=λa w hs=>
  wp_cond_split (Zlh hs b) (λh=>e (by simpa using h) a w hs) (λh=>d (by simpa using h) a w hs)
def Zs9{c:Operand}{b:Bool}(d:ev env c=some (.bool b))(f:b=true->EG P N sc ds x Q env H)(e:b=false->EG P N sc ds y Q env H) :
    EG P N sc ds (.cond c x y) Q env H:=λa w hs=>
  wp_cond_split (Zlh hs d) (λh=>f h a w hs) (λh=>e h a w hs)
def Zga{c:Operand}(b:ev env c=some (.bool true))(d:EG P N sc ds x Q env H):EG P N sc ds (.cond c x y) Q env H:=λa w hs=>
  wp_cond_true (Zlh hs b) (d a w hs)
def Zli{c:Operand}(b:ev env c=some (.bool false))(d:EG P N sc ds y Q env H):EG P N sc ds (.cond c x y) Q env H:=λa w hs=>
  wp_cond_false (Zlh hs b) (d a w hs)
def Ya(h:EG P N sc ds y Q env H):XG N sc ds .normal (Exit.then (y.wp P Q) Q) env H:=h
def Kq(h:XG N sc ds .ret Q env H):XG N sc ds .ret (Exit.then K Q) env H:=h
def Ai(h:XG N sc ds (.exit id) Q env H):XG N sc ds (.exit id) (Exit.then K Q) env H:=h
def Zd7(h:XG N sc ds .normal Q env H):XG N sc ds .normal (Exit.inBlock id Q) env H:=h
def Zd6(h:XG N sc ds .ret Q env H):XG N sc ds .ret (Exit.inBlock id Q) env H:=h
theorem Zw2(h:XG N sc ds .normal Q env H):XG N sc ds (.exit id) (Exit.inBlock id Q) env H:=λa w hs=>by show(if id=id then Q .normal _ w else Q (.exit id) _ w);rw [aF rfl];exact h a w hs
def Bq(hi:∀a w,Sat N sc env H a w->Sat N sc env' H' a w)(h:EG P N sc ds c Q env' H'):EG P N sc ds c Q env H:=λa w hs=>h a w (hi a w hs)
def Znt{e:Exit}(hi:∀a w,Sat N sc env H a w->Sat N sc env' H' a w)(h:XG N sc ds e Q env' H'):XG N sc ds e Q env H:=λa w hs=>h a w (hi a w hs)
def Yml(b:∀a w,Sat N sc env H a w->p)(h:p->EG P N sc ds c Q env H):EG P N sc ds c Q env H:=λa w hs=>h (b a w hs) a w hs
theorem Yk7(g:∀a w,K a w->K' (ap ds a) w)(h:o.wp P a w K noQ):o.wp P (ap ds a) w K' Q:=by
  unfold Oper.wp at h ⊢;show o.upon P _ K' Q ((execOp a.eval o).run P w);generalize (execOp a.eval o).run P w=x at *;cases x with
  | ok n j=>
    cases n<;>simp only [Oper.upon]at h ⊢
    case value=>rw [Zkc];exact g _ _ h
    case skip=>rw [Zkc];exact g _ _ h
    case defer d=>exact(by cases o.dst<;>rfl:ap ds (({ a with defers:=d::a.defers } : Act).put o.dst undef)=({ ap ds a with defers:=d::(ap ds a).defers } : Act).put o.dst undef)▸g _ _ h
    case enter f args=>
      refine h.mono λe i b=>?_;cases e with
      | returned v=>show K' ((ap ds a).put o.dst v) i;rw [Zkc];exact g _ _ b
      | panicked c=>exact b.elim
      | outgrown=>obtain⟨_,_,h⟩:=b;exact h.elim
    case row row args=>exact h.mono λ_ _ b=>by rw [Zkc];exact g _ _ b
  | halt x j=>
    cases x<;>simp only [Oper.upon]at h
    case panic u=>exact h.elim
theorem Yk5(h:o.wp P a w K (Ir Q)):o.wp P a w K noQ:=by
  unfold Oper.wp at h ⊢;revert h;generalize (execOp a.eval o).run P w=x;intro h;cases x with
  | ok n d=>
    cases n<;>simp only [Oper.upon]at h ⊢
    case value=>exact h
    case skip=>exact h
    case defer=>exact h
    case enter f args=>
      refine h.mono λe g b=>?_;cases e with
      | returned v=>exact b
      | panicked c=>exact b
      | outgrown=>exact absurd b Ig
    case row row args=>exact h
  | halt x d=>
    cases x<;>simp only [Oper.upon]at h ⊢
    case panic u=>exact h
theorem Zo9{ops:Array Oper} : ∀(l:List Oper) (a:Act) (w:World),wpList P ops (Ir λe a w=>Q e (ap ds a) w) l a w->wpList P ops Q l (ap ds a) w
  | [],_,_,h=>h
  | o::l,a,w,h=>by
    unfold wpList at h ⊢;split
    . rename_i d;have b:Region.wanted o (yielded ops a.tmps)=true:=d;simp only [b,jZ]at h;have h:=h.resolve_right λh=>Ig h.2;exact .inl (Yk7 (λa w f=>Zo9 l a w f) (Yk5 h))
    . rename_i d;have b:¬Region.wanted o (yielded ops a.tmps)=true:=d;rw [aD b]at h;rw [Zkc];exact Zo9 l _ w h
def Xv{l:List Oper}(h:L P N sc l.toArray l (Ir λe a w=>Q e (ap ds a) w) env H):EG P N sc ds (.region id l.toArray false) Q env H:=λa w hs=>wp_region_lit (Zo9 l a w (h a w hs))
def Oy(h:XG N sc ds .normal Q env H):X N sc .normal (Ir λe a w=>Q e (ap ds a) w) env H:=λa w hs=>h a w hs
def RndG{G:Type}(N:Nat)(sc:Nat->Prop)(cs:Qj)(f:Hp)(dg:G->List Nat)(i:G->Qj)(h:G->Hp)(d:G->Prop)(μ:G->Nat)(g:G):Act->World->Prop:=
  λa w=>∃b,d b/\μ b<μ g/\∃e,a=ap (dg b) e/\Sat N sc (i b ++ cs) (h b ++ f) e w
theorem Zy6  {G:Type} (dg:G->List Nat) (cs:Qj) (j:Hp) (l:G->Qj) (k:G->Hp) (b:G->Prop) (μ:G->Nat) (f:G) (m:dg f=ds) (D:b f) (hs:Sub (l f ++ cs) env) (B:HSub (k f ++ j) H)
    (d:∀g,b g->EG P N sc (dg g) c (Exit.then (RndG N sc cs j dg l k b μ g) Q) (l g ++ cs) (k g ++ j)) :
    EG P N sc ds (.loop c) Q env H:=λa w h=>by
  refine wp_loop_ghost (λn a w=>∃g,b g/\μ g=n/\∃i,a=ap (dg g) i/\Sat N sc (l g ++ cs) (k g ++ j) i w) (μ f) ⟨f,D,rfl,a,by rw [m],h.weaken hs B⟩ ?_;rintro n a w ⟨g,hi,rfl,i,rfl,q⟩;refine Code.wp_mono (λe a w t=>?_) (d g hi i w q);cases e with
  | normal=>obtain⟨s,u,v,z⟩:=t;exact⟨μ s,v,s,u,rfl,z⟩
  | _=>exact t
theorem Zjf{G:Type}{cs:Qj}{h:Hp}{dg:G->List Nat}{j:G->Qj}{i:G->Hp}{e:G->Prop}{μ:G->Nat}{g:G}(b:G)(f:dg b=ds)(k:e b)(l:μ b<μ g)(hs:Sub (j b ++ cs) env)(m:HSub (i b ++ h) H) :
    XG N sc ds .normal (Exit.then (RndG N sc cs h dg j i e μ g) Q) env H:=λa w d=>⟨b,k,l,a,by rw [f],d.weaken hs m⟩
theorem Zs8(h:EG P N sc [] c Q env ((91,fxs [])::H)):E P N sc c Q env H:=λa w hs=>by
  have e:ap [] a=a:=by simp [ap]
  rw [<-e];refine h a w (hs.add 91 (fxs []) ⟨List.nodup_nil,λD f=>by cases f⟩ (λj g _ _ _ b d _=>by cases d) (λb d=>by cases d))
theorem Zhc{fn:Func}{t:Array Value}{R:Ending->World->Prop} : ∀(ds:List Nat) (w:World),(fxs ds).holds w->
    (∀w',(∀k,k ∉ ds->w'.heap[k]? = w.heap[k]?)->w'.os=w.os->w'.tape=w.tape->w'.output=w.output->w.heap.size<=w'.heap.size->LeavesInM Fence.wide 0 P fn t R [] .returning w')->LeavesInM Fence.wide 0 P fn t R (ds.map mrk) .returning w
  | [],w,_,h=>h w (λ_ _=>rfl) rfl rfl rfl (aJ _)
  | D::ds,w,⟨d,h2⟩,h=>by
    obtain⟨f,d⟩:=kU.1 d;refine⟨O8,.inl ⟨D,w.putObj D (.deferred none),rfl,run_takeDeferred (h2 D (cE ..)),Zhc ds _ ⟨d,λE e=>?_⟩ (λw' g i j l m=>?_)⟩⟩
    . rw [World.putObj_heap_other (by rintro rfl;exact f e)];exact h2 E (bM _ e)
    . refine h w' (λk b=>?_) (i.trans rfl) (j.trans rfl) (l.trans rfl) (by simpa using m);rw [aZ,not_or]at b;rw [g k b.2,World.putObj_heap_other b.1]
theorem Fl{fn:Func}{w0:World}{al:Bool}{G:Type}{φ:G->Prop}{val:G->Value}{d:G->List Pc}{e:Exit}(F:e= .ret\/e= .normal)(l:lk H 91=some (fxs ds))(h:X N sc .ret (Zag P fn w0 pre al φ val d) env (drp 91 H)):XG N sc ds e (Zc9 P fn w0 pre al φ val d) env H:=λa w hs=>by
  have D:(ap ds a).defers=ds.map mrk:=by simp [ap,hs.defers]
  have m : LeavesInM Fence.wide 0 P fn a.tmps (λe f => ∃ g, e = .returned (val g) /\ φ g /\ Below w0.heap.size w0 f /\
        ∀p∈d g,p.holds f/\p.own=false/\∀b,p.fp b->w0.heap.size<=b\/(al=true/\∃q∈pre,q.fp b)) (ap ds a).defers .returning w:=by
    rw [D];refine Zhc ds w (hs.hold 91 _ l) λf R V Y Z hz=>?_;have z:Sat N sc env (drp 91 H) a f:=by refine⟨hs.size,hs.defers,hs.env,λi p hi=>?_,λi j p q u hi M=>hs.sep i j p q u (Hx _ _ _ _ hi).2 (Hx _ _ _ _ M).2,λi p n hi=>hs.scope i p n (Hx _ _ _ _ hi).2⟩;obtain⟨s,hi⟩:=Hx _ _ _ _ hi;exact p.stable w f (hs.hold i p hi) ⟨V,Y,Z,hz,λk _ S=>R k λt=>S λI=>hs.sep 91 i _ p (λe=>s e.symm) l hi rfl k t I⟩
    obtain⟨-,v,W,B⟩:=h a f z;exact⟨v,W,B⟩
  rcases F with rfl|rfl
  . exact m
  . exact m
theorem Zvy (pre:List Pc)(w0:World) {ds:List Nat} {g:Operand} {gf:Nat} {ps:List Nat} {assign body:Code}   {α G:Type} {xs:List α} {ys:α->G->List Value} {I:α->G->List Pc} 
    {GG GX:Type} (HH:Nat->GG->Hp) (b5:Nat->GG->Prop) (HX:GX->Hp) (b6:GX->Prop) (c3:GG)
    (hg:ev env g=some (.func (.func gf) #[] lbv.toArray)) (eg:∀args w,(callFunc gf args).run P w= .ok (.enter gf args) w) (hc:Zun P gf lbv pre xs ys I)
    (hp:∀p∈pre,p.own=false/\∃i,lk H i=some p) (h7:∀x M,(ys x M).length=ps.length) (h6:(ps.all λp=>Nat.blt p N)=true)
    (hw:∀b,w0.heap.size<=b->sc b) (h0:lk H 0=some (Zt w0 (λ_=>False)))
    (d1:b5 0 c3) (a8:HSub (HH 0 c3) H) (hk:∀k s,Zbp (HH k s) w0) (f0:∀k s,lk (HH k s) 91=some (fxs ds)) (g7:∀Y,Zbp (HX Y) w0) (d3:∀Y,lk (HX Y) 91=some (fxs ds))
    (b8:∀k x M s,xs[k]? = some x->b5 k s->∀l Mf V a W,Sat N sc (renv ps (ys x M) env) ((92,Zt V Mf)::adds 100 (I x M) (HH k s)) a W->
      assign.wpIn (Fence.wide.inRound l) 0 P (RAn 92 P N sc l Mf (adds 100 (I x M) (HH k s)) body (HH (k+1)) (b5 (k+1)) HX b6 V) a W)
    (hD:∀s D,b5 xs.length s->XG N sc (D::ds) .normal Q env ((91,fxs (D::ds))::HH xs.length s))
    (hX:∀Y D,b6 Y->XG N sc (D::ds) .ret Q env ((91,fxs (D::ds))::HX Y)) :
    EG P N sc ds (.rangeFunc g ps.toArray assign body) Q env H:=λa w hs=>by
  have S:∀i p,lk H i=some p->∀b,p.fp b->b<w.heap.size:=λi p hi b z=>p.lt w b (hs.hold i p hi) z;have f5:w0.heap.size<=w.heap.size:=(hs.hold 0 _ h0).size;refine(wpIn_wide (n:=0)).1 (wpIn_rangeFunc ?_);have e9:∀(F:Hp),lk F 91=some (fxs ds)->∀W:World,Kps sc w (w.heap.size+2) (Es (w.heap.size+2) H) F W->W.heap[w.heap.size]? = some (.deferred (some []))->Sat N sc env ((91,fxs (w.heap.size::ds))::F) { tmps:=a.tmps,defers:=[] } W:=λF f6 W p3 R=>by
    have c5:¬Es (w.heap.size+2) H w.heap.size:=λh=>by
      rcases h with⟨i,q,hq,_,hf⟩|h
      . have:=S i q hq _ hf;omega
      . omega
    exact Zvp (p3.sat (a:={ tmps:=a.tmps,defers:=[] }) hs.size rfl hs.env) f6 R (λi q hq hf=>by
      cases a7:q.own with
      | true=>exact c5 (p3.mf i q hq a7 _ hf)
      | false=>rcases p3.off i q hq a7 _ hf with h|h<;>omega) (hw _ f5)
  intro d8 g5;obtain⟨d,f⟩:∃d:LoopState->Option Code->Loop,d=λst pe=>{ state:=st,pending:=pe,fn:=d8,tmps:=a.tmps,params:=ps.toArray,assign:=assign,body:=body,defers:=w.heap.size }:=⟨_,rfl⟩;obtain⟨W1,b0⟩:∃W1,(w.alloc (.deferred (some []))).alloc (.loop (d .ready none))=W1:=⟨_,rfl⟩;have g1:W1.heap[w.heap.size+1]? = some (.loop (d .ready none)):=by rw [<-b0];have:=World.alloc_heap_new (w.alloc (.deferred (some []))) (.loop (d .ready none));rwa [World.size_alloc]at this
  have g0:W1.heap[w.heap.size]? = some (.deferred (some [])):=by rw [<-b0];exact(Below.heap_alloc _ _ _ O8).trans (World.alloc_heap_new w _)
  have e6:Below w.heap.size w W1:=by rw [<-b0];exact((Below.refl _ w).alloc (aJ _) _).alloc O8 _
  have i5:W1.heap.size=w.heap.size+2:=by rw [<-b0];simp
  have e0:(#[.func (.yield (w.heap.size+1)) #[] #[]] ++ lbv.toArray:Array Value)=(Value.func (.yield (w.heap.size+1)) #[] #[]::lbv).toArray:=O8;refine⟨w.heap.size+1,[{ target:= .collected w.heap.size,args:=#[] }],W1,{ target:= .fn (.func gf) lbv.toArray,args:=#[.func (.yield (w.heap.size+1)) #[] #[]] },W1,gf,
    (Value.func (.yield (w.heap.size+1)) #[] #[]::lbv).toArray,W1,?_,?_,λ_ _=>trivial,?_,λh=>(by cases h),?_⟩
  . rw [<-b0,f];exact run_enterLoop_outer _ _ _ _ _
  . simp only [resolve,Zlh (ds:=ds) hs hg];simp [go_sem]
  . simp [invoke,go_sem,eg]
  have b4:∀(F:Hp) (r:Loop),Zef λW=>W.heap[w.heap.size+1]? = some (.loop r)/\W.heap[w.heap.size]? = some (.deferred (some []))/\W1.heap.size<=W.heap.size/\Kps sc w (w.heap.size+2) (Es (w.heap.size+2) H) F W:=λF r W W' ⟨h1,h2,h3,h4⟩ hB=>
    ⟨(hB.block _ (aO.1 h1).1).trans h1,(hB.block _ (aO.1 h2).1).trans h2,aB h3 hB.size,h4.stays hB⟩
  have h5:¬Es (w.heap.size+2) H (w.heap.size+1):=λh=>by
    rcases h with⟨i,q,hq,_,hf⟩|h
    . have:=S i q hq _ hf;omega
    . omega
  have c5:¬Es (w.heap.size+2) H w.heap.size:=λh=>by
    rcases h with⟨i,q,hq,_,hf⟩|h
    . have:=S i q hq _ hf;omega
    . omega
  have i4:∀(F:Hp) (W:World),Kps sc w (w.heap.size+2) (Es (w.heap.size+2) H) F W->∀(o:Obj),Kps sc w (w.heap.size+2) (Es (w.heap.size+2) H) F (W.putObj w.heap.size o):=λF W h o=>h.put S ⟨aJ _,O⟩;have b7:∀(F:Hp) (W:World),Kps sc w (w.heap.size+2) (Es (w.heap.size+2) H) F W->∀(o:Obj),Kps sc w (w.heap.size+2) (Es (w.heap.size+2) H) F (W.putObj (w.heap.size+1) o):=λF W h o=>h.put S ⟨O,O⟩;refine callsIn_wide.2 ((hc (w.heap.size+1) (λb=>(∃i q,lk H i=some q/\q.own=true/\q.fp b)\/b=w.heap.size+1)
    (λk W=>∃s,b5 k s/\(W.heap[w.heap.size+1]? = some (.loop (d .ready none))/\W.heap[w.heap.size]? = some (.deferred (some []))/\W1.heap.size<=W.heap.size/\Kps sc w (w.heap.size+2) (Es (w.heap.size+2) H) (HH k s) W))
    (λW=>∃Y,b6 Y/\(W.heap[w.heap.size+1]? = some (.loop (d .done (some .ret)))/\W.heap[w.heap.size]? = some (.deferred (some []))/\W1.heap.size<=W.heap.size/\Kps sc w (w.heap.size+2) (Es (w.heap.size+2) H) (HX Y) W)) W1
    ?_ ?_ ?_ ?_ ?_ ?_).mono ?_)
  . intro p B;obtain⟨ho,i,hi⟩:=hp p B;exact p.stable _ _ (hs.hold i p hi) (Chg.of_below e6)
  . rintro p B b z (⟨i,q,hq,a7,h8⟩|rfl)
    . obtain⟨ho,j,hj⟩:=hp p B;exact hs.sep i j q p (λe=>by subst e;rw [hq]at hj;cases hj;rw [ho]at a7;cases a7) hq hj a7 b h8 z
    . obtain⟨ho,j,hj⟩:=hp p B;have:=S j p hj _ z;omega
  . rintro k W W' ⟨s,c9,h⟩ hB;exact⟨s,c9,b4 _ _ W W' h hB⟩
  . rintro W W' ⟨Y,c9,h⟩ hB;exact⟨Y,c9,b4 _ _ W W' h hB⟩
  . refine⟨c3,d1,g1,g0,aJ _,λi it hi=>it.stable _ _ (hs.hold i it (a8.lk i it hi)) (Chg.of_below e6),λi j it jt d5 hi hj=>hs.sep i j it jt d5 (a8.lk i it hi) (a8.lk j jt hj),
      λi it d1 hi=>hs.scope i it d1 (a8.lk i it hi),λi it hi _ b z=> .inl (S i it (a8.lk i it hi) b z),λi it hi ho b z=> .inl ⟨i,it,a8.lk i it hi,ho,z⟩⟩
  . rintro k x M hx W V ⟨s,Z,hl,hd,f4,a2⟩ i6 hB a0;have f1:V.heap[w.heap.size+1]? = some (.loop (d .ready none)):=(hB.block _ O).trans hl;have g3:V.heap[w.heap.size]? = some (.deferred (some [])):=(hB.block _ O).trans hd;have hy:=run_yield (P:=P) (args:=(ys x M).toArray) f1 (by rw [f];simp [h7]);have b2:∀p∈I x M,∀b,p.fp b->w.heap.size+2<=b:=λp hp b z=>by have:=(a0 p hp).2.2 b z;omega
    have s1:Sat N sc env (HH k s) { tmps:=a.tmps,defers:=[] } V:=(a2.stays hB).sat hs.size rfl hs.env;have s2:Sat N sc env (adds 100 (I x M) (HH k s)) { tmps:=a.tmps,defers:=[] } V:=s1.adds (w1:=V) _ _ λp B=>⟨(a0 p B).1,(a0 p B).2.1,λb z=>hw b (by have:=b2 p B b z;omega),λj jt hj ho b z b1=>by have h1:=(a0 p B).2.2 b z;have h2:=jt.lt W b (a2.hold j jt hj) b1;omega⟩
    have b9:∀j q,lk (adds 100 (I x M) (HH k s)) j=some q->(q∈I x M)\/lk (HH k s) j=some q:=λj q h=>Zf1 _ _ _ j q h;have B:∀j q,lk (adds 100 (I x M) (HH k s)) j=some q->∀b,q.fp b->q.own=true->Es (w.heap.size+2) H b:=λj q hj b z ho=>by
      rcases b9 j q hj with h|h
      . rw [(a0 q h).2.1]at ho;cases ho
      . exact a2.mf j q h ho b z
    have c2:∀j q,lk (adds 100 (I x M) (HH k s)) j=some q->∀b,q.fp b->q.own=false->b<w.heap.size\/w.heap.size+2<=b:=λj q hj b z ho=>by
      rcases b9 j q hj with h|h
      . exact .inr (b2 q h b z)
      . exact a2.off j q h ho b z
    have s3:=s2.rounds ps (ys x M) h6;have s4:Sat N sc (renv ps (ys x M) env) ((92,Zt V (Bz sc (w.heap.size+2) H))::adds 100 (I x M) (HH k s)) _ V:=s3.add 92 (Zt V (Bz sc (w.heap.size+2) H)) (Chg.refl _ _) (λj jt d5 hj Lf b z b1=>by
      rcases Lf with h|h
      . cases h
      . exact z.2 (.inl (B j jt hj b b1 h))) (λb z=>cN.1 λhn=>z.2 (.inr hn))
    have d4:¬Bz sc (w.heap.size+2) H (w.heap.size+1):=λh=>h.elim h5 (λhn=>hn (hw _ O));have e1:¬Bz sc (w.heap.size+2) H w.heap.size:=λh=>h.elim c5 (λhn=>hn (hw _ f5));rw [f]at hy;refine⟨d8,_,assign,body,hy,roundIn_of_wpIn g5 ?_⟩;have hr:=b8 k x M s hx Z (w.heap.size+1) (Bz sc (w.heap.size+2) H) V _ V s4;have e3:(ps.toArray.zip (ys x M).toArray).foldl (λt (p,v)=>t.setIfInBounds p v) a.tmps=(ps.zip (ys x M)).foldl (λt pv=>t.setIfInBounds pv.1 pv.2) a.tmps:=O8;have f2:w.heap.size+2<=V.heap.size:=by have:=hB.size;omega
    have g6:∀(F:Hp),Zbp F w0->∀q,lk F 0=some q->q.own=false:=λF h q hq=>by rw [h.1]at hq;cases hq;rfl
    rw [show(ps.toArray.zip (ys x M).toArray).foldl (λt (x:Nat×Value)=>t.setIfInBounds x.1 x.2) a.tmps=(ps.zip (ys x M)).foldl (λt pv=>t.setIfInBounds pv.1 pv.2) a.tmps from e3];refine wpIn_mono hr ?_;rintro e a1 W2 ⟨rfl,d7,H1,f7,e2,f8,a4,c8⟩;have a5:Chg (Bz sc (w.heap.size+2) H) V W2:=a4.hold 92 _ (Zm _ _ _);have g9:W2.heap[w.heap.size+1]? = some (.loop (d .ready none)):=(a5.block _ O d4).trans f1;have g4:W2.heap[w.heap.size]? = some (.deferred (some [])):=(a5.block _ O e1).trans g3;have p1:=a4.ps f7 O3 e2 f2 f8 B c2 S;have i2:V.heap.size<=W2.heap.size:=a5.size;obtain⟨m,u⟩:∃m,W2.putObj (w.heap.size+1) (.loop { d .ready none with state:= .busy })=m:=⟨_,rfl⟩;have i1:Sat N sc d7 ((92,Zt m (Bz sc (w.heap.size+2) H))::H1) a1 m:=by
      have p2:=b7 _ _ p1 (.loop { d .ready none with state:= .busy });rw [u]at p2;refine(p2.sat a4.size a4.defers a4.env).add 92 (Zt m (Bz sc (w.heap.size+2) H)) (Chg.refl _ _) (λj jt d5 hj Lf b z b1=>?_) (λb z=>cN.1 λhn=>z.2 (.inr hn));rcases Lf with h|h
      . cases h
      . exact z.2 (.inl (p2.mf j jt hj h b b1))
    have i0:W2.heap.size=m.heap.size:=by rw [<-u];simp
    have c1:m.heap[w.heap.size+1]? = some (.loop { d .ready none with state:= .busy }):=by rw [<-u];exact World.putObj_heap_same O
    have e8:m.heap[w.heap.size]? = some (.deferred (some [])):=by rw [<-u];exact(World.putObj_heap_other O).trans g4
    refine⟨m,by rw [<-u];exact run_beginRound g9 (by rw [f]),wpIn_mono (c8 m ⟨⟨_,c1⟩,d4⟩ a1 m i1) ?_⟩;have c0:∀(F:Hp) (env':Qj) (a3:Act) (W3:World),Zbp F w0->FpM F (adds 100 (I x M) (HH k s))->Sat N sc env' ((92,Zt m (Bz sc (w.heap.size+2) H))::F) a3 W3->∀(r:Loop),
        W3.heap[w.heap.size+1]? = some (.loop { d .ready none with state:= .busy })/\(((W3.putObj (w.heap.size+1) (.loop r)).heap[w.heap.size+1]? = some (.loop r)/\(W3.putObj (w.heap.size+1) (.loop r)).heap[w.heap.size]? = some (.deferred (some []))/\
          W1.heap.size<=(W3.putObj (w.heap.size+1) (.loop r)).heap.size/\Kps sc w (w.heap.size+2) (Es (w.heap.size+2) H) F (W3.putObj (w.heap.size+1) (.loop r)))/\
          Chg (λb=>((∃i q,lk H i=some q/\q.own=true/\q.fp b)\/b=w.heap.size+1)\/W1.heap.size<=b) V (W3.putObj (w.heap.size+1) (.loop r))):=by
      intro F env' a3 W3 d2 f9 a9 r;have a6:Chg (Bz sc (w.heap.size+2) H) m W3:=a9.hold 92 _ (Zm _ _ _);have b3:=(a6.block _ O d4).trans c1;have R:=(a6.block _ O e1).trans e8;have i3:=a6.size;have p3:=a9.ps d2.2 O3 (g6 F d2) O f9 B c2 S;refine⟨b3,⟨World.putObj_heap_same O,(World.putObj_heap_other O).trans R,O9,b7 _ _ p3 _⟩,?_⟩;have k0:(Zt w0 (λ_=>False)).holds V:=a2.stays hB |>.hold 0 _ (hk k s).1;have k3:(Zt w0 (λ_=>False)).holds W3:=p3.hold 0 _ d2.1;refine⟨?_,?_,?_,O9,λb z hn=>?_⟩
      . exact a6.os.trans ((by rw [<-u];rfl:m.os=W2.os).trans a5.os)
      . exact a6.tape.trans ((by rw [<-u];rfl:m.tape=W2.tape).trans a5.tape)
      . exact a6.output.trans ((by rw [<-u];rfl:m.output=W2.output).trans a5.output)
      . have e7:b≠w.heap.size+1:=λe=>hn (.inl (.inr e));have g2:¬Es (w.heap.size+2) H b:=λh=>by
          rcases h with h|h
          . exact hn (.inl (.inl h))
          . exact hn (.inr O)
        refine(World.putObj_heap_other e7).trans ?_;by_cases f3:sc b
        . have e4:¬Bz sc (w.heap.size+2) H b:=λh=>h.elim g2 (λh=>h f3);refine(a6.block b O e4).trans ?_;have:m.heap[b]? = W2.heap[b]?:=by rw [<-u];exact World.putObj_heap_other e7
          exact this.trans (a5.block b z e4)
        . have e5:b<w0.heap.size:=by
            rcases aX b w0.heap.size with h|h
            . exact h
            . exact absurd (hw b h) f3
          exact(k3.block b e5 (λh=>h)).trans (k0.block b e5 (λh=>h)).symm
    rintro e a3 W3 (⟨rfl,d9,d0,c6,env',a9⟩|⟨rfl,Y,d0,c6,env',a9⟩)
    . obtain⟨b3,c7,c4⟩:=c0 _ env' a3 W3 (hk (k+1) d9) c6 a9 (d .ready none);have:=run_endRound (P:=P) none b3;rw [show({ ({ d .ready none with state:= .busy } : Loop)with state:=if(none:Option Code).isNone then LoopState.ready else .done,pending:=none } : Loop)=d .ready none by rw [f];rfl]at this;exact⟨_,_,this,.inl ⟨rfl,⟨d9,d0,c7⟩,c4⟩⟩
    . obtain⟨b3,c7,c4⟩:=c0 _ env' a3 W3 (g7 Y) c6 a9 (d .done (some .ret));have:=run_endRound (P:=P) (some .ret) b3;rw [show({ ({ d .ready none with state:= .busy } : Loop)with state:=if(some Code.ret).isNone then LoopState.ready else .done,pending:=some .ret } : Loop)=d .done (some .ret) by rw [f];rfl]at this;exact⟨_,_,this,.inr ⟨rfl,⟨Y,d0,c7⟩,c4⟩⟩
  . rintro e W2 ⟨⟨v,rfl⟩,⟨s,Z,hl,hd,f4,d6⟩|⟨Y,Z,hl,hd,f4,d6⟩⟩
    . refine⟨none,_,by have:=run_endLoop (P:=P) hl (by rw [f];simp);rw [f]at this;exact this,?_⟩;have p3:=b7 _ _ d6 (.loop (d .exhausted none));have R:(W2.putObj (w.heap.size+1) (.loop (d .exhausted none))).heap[w.heap.size]? = some (.deferred (some [])):=(World.putObj_heap_other O).trans hd;rw [f]at p3 R;have h9:=hD s w.heap.size Z _ _ (e9 _ (f0 _ s) _ p3 R);simpa [ap,hs.defers]using h9
    . refine⟨some .ret,_,by have:=run_endLoop (P:=P) hl (by rw [f];simp);rw [f]at this;exact this,wpIn_ret ?_⟩;have p3:=b7 _ _ d6 (.loop { d .done (some .ret)with state:= .exhausted });have R:(W2.putObj (w.heap.size+1) (.loop { d .done (some .ret)with state:= .exhausted })).heap[w.heap.size]? = some (.deferred (some [])):=(World.putObj_heap_other O).trans hd;rw [f]at p3 R;have h9:=hX Y w.heap.size Z _ _ (e9 _ (d3 Y) _ p3 R);simpa [ap,hs.defers]using h9
theorem er_lp   {G:Type} (cs:Qj) (i:Hp) (k:G->Qj) (j:G->Hp) (b:G->Prop) (μ:G->Nat) (f:G) (z:b f) (hs:Sub (k f ++ cs) env) (v:HSub (j f ++ i) H)
    (d:∀g,b g->ER P N sc r c (Exit.then (Yi5 N sc cs i k j b μ g) Q) (k g ++ cs) (j g ++ i)):ER P N sc r (.loop c) Q env H:=λa w h=>by
  refine wpIn_loop_ghost (λn a w=>∃g,b g/\μ g=n/\Sat N sc (k g ++ cs) (j g ++ i) a w) (μ f) ⟨f,z,rfl,h.weaken hs v⟩ ?_;rintro n a w ⟨g,hi,rfl,l⟩;refine wpIn_mono (d g hi a w l) (λe a w q=>?_);cases e with
  | normal=>obtain⟨m,s,t,u⟩:=q;exact⟨μ m,t,m,s,rfl,u⟩
  | _=>exact q
def Ymf(h:X N sc (.exit id) Q env H):ER P N sc r (.exit id) Q env H:=λa w hs=>wpIn_exit (h a w hs)
end Go.Sky
namespace Go.Sky
variable{m:Nat}{z:Int}
abbrev Yj:=Int×Int×Int
abbrev Xa (p:Yj):Value:= .agg #[.int .i64 p.1,.int .i64 p.2.1,.int .i64 p.2.2]
abbrev Yr:Yj:=(0,0,0)
abbrev Kk (p:Yj):Bool:=ptB p.1 p.2.1 p.2.2
def sgI(n:Int):Int:=if n<0 then -1 else if n>0 then 1 else 0
theorem sgI_n{n:Int}(h:n<0):sgI n=-1:=by unfold sgI;rw [aF h]
theorem sgI_p{n:Int}(h:n>0):sgI n=1:=by unfold sgI;rw [aD O,aF h]
theorem sgI_0{n:Int}(h:¬n<0)(a:¬n>0):sgI n=0:=by unfold sgI;rw [aD h,aD a]
theorem Zrm(n:Int):-1<=sgI n/\sgI n<=1:=by unfold sgI;split;omega;split<;>omega
def crs2(a b c:Yj):Int:=(b.1-a.1)*(c.2.1-a.2.1)-(b.2.1-a.2.1)*(c.1-a.1)
def trn(a b c:Yj):Int:=sgI (crs2 a b c)
def Zmo(a b c:Yj):-1<=trn a b c/\trn a b c<=1:=Zrm _
def Ag(a b p:Yj):Bool:=decide (trn a b p=0) && (decide (p.1>=min a.1 b.1) && (decide (p.1<=max a.1 b.1) && (decide (p.2.1>=min a.2.1 b.2.1) && decide (p.2.1<=max a.2.1 b.2.1))))
def mtB(a b c d:Yj):Bool:=decide (trn a b c*trn a b d<0) && decide (trn c d a*trn c d b<0)
def Zg9(a b c d:Yj):Bool:=Ag a b c || (Ag a b d || (Ag c d a || (Ag c d b || mtB a b c d)))
theorem Zl1{x y:Int}(a:-1<=x/\x<=1)(b:-1<=y/\y<=1):-1<=x*y/\x*y<=1:=by have:x=-1\/x=0\/x=1:=O;rcases this with rfl|rfl|rfl<;>omega
def flt(p:Yj):Yj:=(p.1,p.2.1,0)
def edg(l:List Yj)(i:Nat):Yj×Yj:=(flt (l.getD i Yr),flt (l.getD ((i+1)%l.length) Yr))
def Pv(l:List Yj):List (Yj×Yj):=(List.range l.length).map (edg l)
theorem De(l:List Yj):(Pv l).length=l.length:=by simp [Pv]
theorem Zta{l:List Yj}{i:Nat}(h:i<l.length):(Pv l)[i]? = some (edg l i):=by simp [Pv,h]
def okE(l:List Yj)(i:Nat):Bool:=!(decide ((l.getD i Yr).1=(l.getD ((i+1)%l.length) Yr).1) && decide ((l.getD i Yr).2.1=(l.getD ((i+1)%l.length) Yr).2.1))
def Zf8(l:List Yj)(i k:Nat):Bool:=
 if k=i+1/\2<l.length then !Ag (l.getD i Yr) (l.getD ((i+1)%l.length) Yr) (l.getD ((k+1)%l.length) Yr) && !Ag (l.getD k Yr) (l.getD ((k+1)%l.length) Yr) (l.getD i Yr)
 else if(k+1)%l.length=i then !Ag (l.getD i Yr) (l.getD ((i+1)%l.length) Yr) (l.getD k Yr) && !Ag (l.getD k Yr) (l.getD ((k+1)%l.length) Yr) (l.getD ((i+1)%l.length) Yr)
 else !Zg9 (l.getD i Yr) (l.getD ((i+1)%l.length) Yr) (l.getD k Yr) (l.getD ((k+1)%l.length) Yr)
def Zj6(l:List Yj)(i:Nat):Bool:=okE l i && (List.range l.length).all λk=>decide (k<=i) || Zf8 l i k
def Kz(l:List Yj):Bool:=decide (3<=l.length/\l.length<=64) && (l.all Kk && (List.range l.length).all (Zj6 l))
theorem Zxc{l:List Yj}(h:Kz l=true):(3<=l.length/\l.length<=64)/\∀p∈l,Kk p=true:=by unfold Kz at h;simp only [aQ,cZ]at h;exact⟨h.1,bF.1 h.2.1⟩
theorem Yde{l:List Yj}(h:¬(3<=l.length/\l.length<=64)):Kz l=false:=by unfold Kz;rw [aK h];rfl
theorem Ydd{l:List Yj}(h:l.all Kk=false):Kz l=false:=by unfold Kz;rw [h,kG,dH]
theorem Qd{l:List Yj}{i:Nat}(hi:i<l.length)(h:Zj6 l i=false):Kz l=false:=by unfold Kz;have:(List.range l.length).all (Zj6 l)=false:=eT.2 ⟨i,dA.2 hi,by rw [h];decide⟩;rw [this,dH,dH]
theorem row_o{l:List Yj}{i:Nat}(h:okE l i=false):Zj6 l i=false:=by unfold Zj6;rw [h];rfl
theorem Qg (k:Nat){l:List Yj}{i:Nat}(b:i<k)(a:k<l.length)(h:Zf8 l i k=false):Zj6 l i=false:=by unfold Zj6;have:((List.range l.length).all λk=>decide (k<=i) || Zf8 l i k)=false:=eT.2 ⟨k,dA.2 a,by rw [h,aK O];decide⟩;rw [this,dH]
theorem Zxq{l:List Yj}{i:Nat}(d:l.length<=m)(h:okE l i=true)(a:∀k,i<k->k<m->Zf8 l i k=true):Zj6 l i=true:=by
 unfold Zj6;rw [h,fJ,bF];intro k c;have:=dA.1 c;by_cases b:k<=i
 .rw [aI b];rfl
 .rw [a k O O,oI]
theorem smp_t{l:List Yj}(d:l.length<=m)(h:3<=l.length/\l.length<=64)(c:l.all Kk=true)(a:∀i,i<m->Zj6 l i=true):Kz l=true:=by unfold Kz;rw [aI h,c,fJ,fJ,bF];intro k b;exact a k (by have:=dA.1 b;omega)
def Zf{l:List Yj}(h:l.all Kk=true){i:Nat}(hi:i<l.length):Kk (l.getD i Yr)=true:=bF.1 h _ (Zi hi)
def Yc{i n:Nat}(h:i<n):(i+1)%n<n:=bO _ O
theorem Hd{l:List Yj}{i k:Nat}(h:k=i+1/\2<l.length):Zf8 l i k=(!Ag (l.getD i Yr) (l.getD ((i+1)%l.length) Yr) (l.getD ((k+1)%l.length) Yr) && !Ag (l.getD k Yr) (l.getD ((k+1)%l.length) Yr) (l.getD i Yr)):=by unfold Zf8;rw [aF h]
theorem Pk{l:List Yj}{i k:Nat}(h:¬(k=i+1/\2<l.length))(a:(k+1)%l.length=i):Zf8 l i k=(!Ag (l.getD i Yr) (l.getD ((i+1)%l.length) Yr) (l.getD k Yr) && !Ag (l.getD k Yr) (l.getD ((k+1)%l.length) Yr) (l.getD ((i+1)%l.length) Yr)):=by unfold Zf8;rw [aD h,aF a]
theorem Lc{l:List Yj}{i k:Nat}(h:¬(k=i+1/\2<l.length))(a:¬(k+1)%l.length=i):Zf8 l i k=!Zg9 (l.getD i Yr) (l.getD ((i+1)%l.length) Yr) (l.getD k Yr) (l.getD ((k+1)%l.length) Yr):=by unfold Zf8;rw [aD h,aD a]
def lcE(p:Yj)(e:Yj×Yj):Bool:=decide (trn e.1 e.2 p=0) && (decide (sgI (e.1.1-p.1)*sgI (e.2.1-p.1)<=0) && decide (sgI (e.1.2.1-p.2.1)*sgI (e.2.2.1-p.2.1)<=0))
def lcD(p:Yj)(e:Yj×Yj):Int:=
 if sgI (e.1.2.1-p.2.1)<=0/\sgI (e.2.2.1-p.2.1)>0/\trn e.1 e.2 p>0 then 1 else if sgI (e.1.2.1-p.2.1)>0/\sgI (e.2.2.1-p.2.1)<=0/\trn e.1 e.2 p<0 then -1 else 0
theorem lcD_b(p:Yj)(e:Yj×Yj):-1<=lcD p e/\lcD p e<=1:=by unfold lcD;split;omega;split<;>omega
def lcW(p:Yj)(a:List (Yj×Yj)):Int:=(a.map (lcD p)).foldl (· + ·) 0
theorem lcW_s{p:Yj}{a:List (Yj×Yj)}{k:Nat}{e:Yj×Yj}(h:a[k]? = some e):lcW p (a.take (k+1))=lcW p (a.take k)+lcD p e:=by unfold lcW;rw [jA,h,nU,eE,kD];rfl
theorem lcW_b(p:Yj):∀(a:List (Yj×Yj)) (k:Nat),-(k:Int)<=lcW p (a.take k)/\lcW p (a.take k)<=k
 | a,0=>by simp [lcW]
 | a,k+1=>by
  have b:=lcW_b p a k;cases h:a[k]? with
  | none=>
   have:a.take (k+1)=a.take k:=by rw [jA,h];simp
   rw [this];omega
  | some e=>rw [lcW_s h];have:=lcD_b p e;omega
def atL(l:List Yj)(p:Yj):Int:=if(Pv l).any (lcE p)=true then 0 else if lcW p (Pv l)≠0 then 1 else -1
theorem atL_e{l:List Yj}{p:Yj}{k:Nat}{e:Yj×Yj}(h:(Pv l)[k]? = some e)(a:lcE p e=true):atL l p=0:=by unfold atL;rw [aF (jJ.2 ⟨e,dU h,a⟩)]
theorem atL_n{l:List Yj}{p:Yj}(g:l.length<=m)(h:∀k e,k<m->(Pv l)[k]? = some e->lcE p e=false):atL l p=if lcW p ((Pv l).take m)≠0 then 1 else -1:=by
 unfold atL;have:¬(Pv l).any (lcE p)=true:=λc=>by obtain⟨e,d,a⟩:=jJ.1 c;obtain⟨k,b⟩:=fI.1 d;have f:=(cI.1 b).1;rw [De]at f;rw [h k e O b]at a;cases a
 rw [aD this,cC (by rw [De];exact g)]
theorem Yex{a b c:Yj}(h:¬trn a b c=0):Ag a b c=false:=by unfold Ag;rw [aK h];rfl
theorem Yew{a b c:Yj}(h:¬c.1>=min a.1 b.1):Ag a b c=false:=by unfold Ag;rw [aK h];simp
theorem Yev{a b c:Yj}(h:¬c.1<=max a.1 b.1):Ag a b c=false:=by unfold Ag;rw [aK h];simp
theorem Yeu{a b c:Yj}(h:¬c.2.1>=min a.2.1 b.2.1):Ag a b c=false:=by unfold Ag;rw [aK h];simp
theorem Yet{a b c:Yj}(d:trn a b c=0)(e:c.1>=min a.1 b.1)(f:c.1<=max a.1 b.1)(g:c.2.1>=min a.2.1 b.2.1):Ag a b c=decide (c.2.1<=max a.2.1 b.2.1):=by unfold Ag;rw [aI d,aI e,aI f,aI g];rfl
theorem Ya8(a b c d:Yj):Ag a b c=true\/(Ag a b c=false/\Ag a b d=true)\/(Ag a b c=false/\Ag a b d=false/\Ag c d a=true)\/(Ag a b c=false/\Ag a b d=false/\Ag c d a=false/\Ag c d b=true)\/
  (Ag a b c=false/\Ag a b d=false/\Ag c d a=false/\Ag c d b=false/\trn a b c*trn a b d<0)\/(Ag a b c=false/\Ag a b d=false/\Ag c d a=false/\Ag c d b=false/\¬trn a b c*trn a b d<0):=by
 cases Ag a b c<;>cases Ag a b d<;>cases Ag c d a<;>cases Ag c d b<;>simp<;>omega
theorem al_f{l:List Yj}{i:Nat}(hi:i<l.length)(h:Kk (l.getD i Yr)=false):l.all Kk=false:=eT.2 ⟨_,Zi hi,by rw [h];exact bD⟩
theorem al_t{l:List Yj}(h:∀j,j<l.length->Kk (l.getD j Yr)=true):l.all Kk=true:=bF.2 λx b=>by obtain⟨j,a,rfl⟩:=eD.1 b;have:=h j a;rwa [aE,aL a]at this
theorem Nf(i n:Nat):((i:Int)+1)%(n:Int)=(((i+1)%n:Nat):Int):=by rw [Int.natCast_emod];rfl
theorem Ygi{p:Yj}(h:Kk p=true):Kk (flt p)=true:=by obtain⟨a,b,c⟩:=Zam h;show ptB p.1 p.2.1 0=true;unfold ptB Zmd;simp;omega
theorem Zlj{l:List Yj}(b:l.all Kk=true){k:Nat}{e:Yj×Yj}(h:(Pv l)[k]? = some e):Kk e.1=true/\Kk e.2=true:=by have a:=(cI.1 h).1;rw [De]at a;rw [Zta a]at h;obtain rfl:edg l k=e:=Option.some.inj h;exact⟨Ygi (Zf b a),Ygi (Zf b (Yc a))⟩
theorem Zvz{l:List Yj}(j:l.all Kk=true){k:Nat}{e:Yj×Yj}(h:(Pv l)[k]? = some e):((-1048576<=e.1.1/\e.1.1<=1048576)/\(-1048576<=e.1.2.1/\e.1.2.1<=1048576))/\((-1048576<=e.2.1/\e.2.1<=1048576)/\(-1048576<=e.2.2.1/\e.2.2.1<=1048576))/\k<l.length:=by obtain⟨g,i⟩:=Zlj j h;obtain⟨b,c,-⟩:=Zam g;obtain⟨d,f,-⟩:=Zam i;have a:=(cI.1 h).1;rw [De]at a;exact⟨⟨b,c⟩,⟨d,f⟩,a⟩
def arD(e:Yj×Yj):Int:=e.1.1*e.2.2.1-e.1.2.1*e.2.1
def ar2(a:List (Yj×Yj)):Int:=(a.map arD).foldl (· + ·) 0
theorem ar2_s{a:List (Yj×Yj)}{k:Nat}{e:Yj×Yj}(h:a[k]? = some e):ar2 (a.take (k+1))=ar2 (a.take k)+arD e:=by unfold ar2;rw [jA,h,nU,eE,kD];rfl
theorem arD_b{l:List Yj}(a:l.all Kk=true){k:Nat}{e:Yj×Yj}(h:(Pv l)[k]? = some e):-2251799813685248<=arD e/\arD e<=2251799813685248:=by obtain⟨⟨b,c⟩,⟨d,f⟩,-⟩:=Zvz a h;have g:=Zse e.1.1 e.2.2.1 ⟨O,O⟩ ⟨O,O⟩;have i:=Zse e.1.2.1 e.2.1 ⟨O,O⟩ ⟨O,O⟩;unfold arD;omega
theorem ar2_b{l:List Yj}(a:l.all Kk=true):∀k:Nat,-(2251799813685248*(k:Int))<=ar2 ((Pv l).take k)/\ar2 ((Pv l).take k)<=2251799813685248*(k:Int)
 | 0=>by simp [ar2]
 | k+1=>by
  have b:=ar2_b a k;cases h:(Pv l)[k]? with
  | none=>
   have:(Pv l).take (k+1)=(Pv l).take k:=by rw [jA,h];simp
   rw [this];omega
  | some e=>rw [ar2_s h];have:=arD_b a h;omega
theorem lcE_t{p:Yj}{e:Yj×Yj}(a:trn e.1 e.2 p=0)(b:sgI (e.1.1-p.1)*sgI (e.2.1-p.1)<=0)(c:sgI (e.1.2.1-p.2.1)*sgI (e.2.2.1-p.2.1)<=0):lcE p e=true:=by unfold lcE;rw [aI a,aI b,aI c];rfl
theorem Ow{p:Yj}{e:Yj×Yj}(a:¬trn e.1 e.2 p=0):lcE p e=false:=by unfold lcE;rw [aK a];rfl
theorem Ov{p:Yj}{e:Yj×Yj}(a:¬sgI (e.1.1-p.1)*sgI (e.2.1-p.1)<=0):lcE p e=false:=by unfold lcE;rw [aK a];simp
theorem Ou{p:Yj}{e:Yj×Yj}(a:¬sgI (e.1.2.1-p.2.1)*sgI (e.2.2.1-p.2.1)<=0):lcE p e=false:=by unfold lcE;rw [aK a];simp
theorem Yfm{p:Yj}{e:Yj×Yj}(h:sgI (e.1.2.1-p.2.1)<=0/\sgI (e.2.2.1-p.2.1)>0/\trn e.1 e.2 p>0):lcD p e=1:=by unfold lcD;rw [aF h]
theorem Zf5{p:Yj}{e:Yj×Yj}(h:sgI (e.1.2.1-p.2.1)>0/\sgI (e.2.2.1-p.2.1)<=0/\trn e.1 e.2 p<0):lcD p e=-1:=by unfold lcD;rw [aD O,aF h]
theorem Kv{p:Yj}{e:Yj×Yj}(h:¬(sgI (e.1.2.1-p.2.1)<=0/\sgI (e.2.2.1-p.2.1)>0/\trn e.1 e.2 p>0))(a:¬(sgI (e.1.2.1-p.2.1)>0/\sgI (e.2.2.1-p.2.1)<=0/\trn e.1 e.2 p<0)):lcD p e=0:=by unfold lcD;rw [aD h,aD a]
def LcI(l:List Yj)(p:Yj)(k:Nat)(z:Int):Prop:=z=lcW p ((Pv l).take k)/\∀j e,j<k->(Pv l)[j]? = some e->lcE p e=false
def lcI_0{l:List Yj}{p:Yj} : LcI l p 0 0:=⟨rfl,λj e h=>absurd h (cK j)⟩
theorem Ot{l:List Yj}{p:Yj}{k:Nat}{y:Int}{e:Yj×Yj}(h:LcI l p k z)(c:(Pv l)[k]? = some e)(f:lcE p e=false)(i:lcD p e=y):LcI l p (k+1) (z+y):=by
 refine⟨by rw [lcW_s c,h.1,i],λj d g a=>?_⟩;rcases aC.1 g with b|b
 .exact h.2 j d b a
 .subst b;rw [c]at a;cases a;exact f
theorem lcI_e{l:List Yj}{p:Yj}(h:LcI l p (Pv l).length z):atL l p=if z≠0 then 1 else -1:=by rw [atL_n (m:=(Pv l).length) (by rw [De];exact aJ _) h.2,<-h.1]
theorem lcI_b{l:List Yj}{p:Yj}{k:Nat}(h:LcI l p k z):-(k:Int)<=z/\z<=k:=by rw [h.1];exact lcW_b ..
@[reducible,instance] def clIF {f:Fn} {a b:Array Value} : ClI (.func f a b) [.func f a b]:=⟨rfl⟩
abbrev Lo:=SL×List Yj
abbrev qPg (z:Lo):Pc:=Ys 3 Xa (Xo z.1) z.2
abbrev Ia:Lo:=((none,0,0),[])
def nmB(e:Yj×Yj)(a:List Yj):Bool:=(Pv a).all λc=>!Zg9 e.1 e.2 c.1 c.2
def ekB(o:List Yj)(a:List (List Yj))(e:Yj×Yj):Bool:=decide (0<=atL o e.1) && a.all (nmB e)
def Az(o:List Yj)(hs:List Lo)(i:Nat):Bool:=Kz (hs.getD i Ia).2 && (Pv (hs.getD i Ia).2).all (ekB o (o::(hs.take i).map Prod.snd))
def Zih(hs:List Lo)(i k:Nat):Bool:=decide (i=k) || decide (atL (hs.getD k Ia).2 ((hs.getD i Ia).2.getD 0 Yr)<0)
def Cd(o:List Yj)(hs:List Lo)(lo hi:Int):Bool:=
 Kz o && (decide (hs.length<=16/\-1048576<=lo/\hi<=1048576/\lo<=hi) && ((List.range hs.length).all (Az o hs) && (List.range hs.length).all λi=>(List.range hs.length).all (Zih hs i)))
section
variable {o:List Yj} {hs:List Lo} {lo hi:Int} {so:SL} {i k:Nat} {e:Yj×Yj}
theorem Zs1(h:Kz o=false):Cd o hs lo hi=false:=by unfold Cd;rw [h];rfl
theorem Zs2(h:¬(hs.length<=16/\-1048576<=lo/\hi<=1048576/\lo<=hi)):Cd o hs lo hi=false:=by unfold Cd;rw [aK h,kG,dH]
theorem Ygg(a:i<hs.length)(h:Az o hs i=false):Cd o hs lo hi=false:=by unfold Cd;have:(List.range hs.length).all (Az o hs)=false:=eT.2 ⟨i,dA.2 a,by rw [h];exact bD⟩;rw [this,kG,dH,dH]
theorem fnc_f(a:i<hs.length)(c:k<hs.length)(h:Zih hs i k=false):Cd o hs lo hi=false:=by unfold Cd;have b:(List.range hs.length).all (Zih hs i)=false:=eT.2 ⟨k,dA.2 c,by rw [h];exact bD⟩;have:((List.range hs.length).all λi=>(List.range hs.length).all (Zih hs i))=false:=eT.2 ⟨i,dA.2 a,by rw [b];exact bD⟩;rw [this,dH,dH,dH]
theorem fnc_t(a:Kz o=true)(b:hs.length<=16/\-1048576<=lo/\hi<=1048576/\lo<=hi)(c:∀i,i<hs.length->Az o hs i=true)(d:∀i,i<hs.length->∀k,k<hs.length->Zih hs i k=true):Cd o hs lo hi=true:=by unfold Cd;rw [a,aI b,fJ,fJ,aQ,bF,bF];exact⟨λi hi=>c i (dA.1 hi),λi hi=>bF.2 λk f=>d i (dA.1 hi) k (dA.1 f)⟩
theorem Cw(h:Cd o hs lo hi=true):Kz o=true/\(hs.length<=16/\-1048576<=lo/\hi<=1048576/\lo<=hi)/\(∀i,i<hs.length->Az o hs i=true)/\∀i,i<hs.length->∀k,k<hs.length->Zih hs i k=true:=by unfold Cd at h;simp only [aQ,cZ,bF,dA]at h;exact⟨h.1,h.2.1,h.2.2.1,h.2.2.2⟩
theorem hole_s(h:Kz (hs.getD i Ia).2=false):Az o hs i=false:=by unfold Az;rw [h];rfl
theorem Yfy(a:(Pv (hs.getD i Ia).2)[k]? = some e)(h:ekB o (o::(hs.take i).map Prod.snd) e=false):Az o hs i=false:=by unfold Az;have:(Pv (hs.getD i Ia).2).all (ekB o (o::(hs.take i).map Prod.snd))=false:=eT.2 ⟨e,dU a,by rw [h];exact bD⟩;rw [this,dH]
def EkI(o:List Yj)(a:List (List Yj))(b:List (Yj×Yj))(k:Nat):Prop:=∀j e,j<k->b[j]? = some e->ekB o a e=true
def ekI_0{a:List (List Yj)}{b:List (Yj×Yj)} : EkI o a b 0:=λj e h=>absurd h (cK j)
theorem ekI_s{b:List (List Yj)}{c:List (Yj×Yj)}(h:EkI o b c k)(l:c[k]? = some e)(g:ekB o b e=true):EkI o b c (k+1):=λj f n a=>by
 rcases aC.1 n with d|d
 .exact h j f d a
 .subst d;rw [l]at a;cases a;exact g
theorem hole_t(b:Kz (hs.getD i Ia).2=true)(h:EkI o (o::(hs.take i).map Prod.snd) (Pv (hs.getD i Ia).2) (Pv (hs.getD i Ia).2).length):Az o hs i=true:=by unfold Az;rw [b,fJ,bF];intro e c;obtain⟨j,a⟩:=fI.1 c;exact h j e (cI.1 a).1 a
theorem Zbq(h:Az o hs i=true):Kz (hs.getD i Ia).2=true:=by unfold Az at h;rw [aQ]at h;exact h.1
def Zyf(so:SL)(o:List Yj)(ts:List Lo):o::ts.map Prod.snd=((so,o)::ts).map Prod.snd:=rfl
theorem ek_a{a:List (List Yj)}(h:atL o e.1<0):ekB o a e=false:=by unfold ekB;rw [aK O];rfl
theorem ek_m{ts:List Lo}(a:m<((so,o)::ts).length)(h:nmB e (((so,o)::ts).getD m Ia).2=false):ekB o (o::ts.map Prod.snd) e=false:=by unfold ekB;rw [Zyf so];have:(((so,o)::ts).map Prod.snd).all (nmB e)=false:=eT.2 ⟨_,eV.2 ⟨_,Zi a,rfl⟩,by rw [h];exact bD⟩;rw [this,dH]
theorem ek_t{ts:List Lo}(h:¬atL o e.1<0)(g:((so,o)::ts).length<=m)(c:∀j,j<m->j<((so,o)::ts).length->nmB e (((so,o)::ts).getD j Ia).2=true):ekB o (o::ts.map Prod.snd) e=true:=by unfold ekB;rw [aI O,fJ,Zyf so,bF];intro a d;obtain⟨z,f,rfl⟩:=eV.1 d;obtain⟨j,b,rfl⟩:=eD.1 f;have:=c j O b;rwa [aE,aL b]at this
theorem nm_f{a:List Yj}{c:Yj×Yj}(b:(Pv a)[k]? = some c)(h:Zg9 e.1 e.2 c.1 c.2=true):nmB e a=false:=
 eT.2 ⟨c,dU b,by rw [h];exact bD⟩
def NmI(e:Yj×Yj)(a:List (Yj×Yj))(k:Nat):Prop:=∀j c,j<k->a[j]? = some c->Zg9 e.1 e.2 c.1 c.2=false
def nmI_0{a:List (Yj×Yj)} : NmI e a 0:=λj c h=>absurd h (cK j)
theorem nmI_s{b:List (Yj×Yj)}{c:Yj×Yj}(h:NmI e b k)(l:b[k]? = some c)(g:Zg9 e.1 e.2 c.1 c.2=false):NmI e b (k+1):=λj f n a=>by
 rcases aC.1 n with d|d
 .exact h j f d a
 .subst d;rw [l]at a;cases a;exact g
theorem nm_t{a:List Yj}(h:NmI e (Pv a) (Pv a).length):nmB e a=true:=bF.2 λc d=>by obtain⟨j,b⟩:=fI.1 d;rw [h j c (cI.1 b).1 b];rfl
theorem Yis(h:i<hs.length):((so,o)::hs.take i) ++ [hs.getD i Ia]=(so,o)::hs.take (i+1):=by rw [Ps Ia _ _ h];rfl
theorem sms_s{xs:List Lo}{z:Lo}(h:∀y∈xs,Kz y.2=true)(c:Kz z.2=true):∀y∈xs ++ [z],Kz y.2=true:=λy b=>by
 rcases cW.1 b with a|a
 .exact h y a
 .rw [bZ.1 a];exact c
def Co{l:List Yj}(h:Kz l=true):l.all Kk=true:=bF.2 (Zxc h).2
def Kl{l:List Yj}(h:Kz l=true):3<=l.length/\l.length<=64:=(Zxc h).1
theorem Zy0(h:i=k\/¬atL (hs.getD k Ia).2 ((hs.getD i Ia).2.getD 0 Yr)>=0):Zih hs i k=true:=by
 unfold Zih;rcases h with h|h
 .rw [aI h];rfl
 .rw [aI (show atL (hs.getD k Ia).2 ((hs.getD i Ia).2.getD 0 Yr)<0 by omega),oI]
theorem far_f(h:¬i=k)(a:atL (hs.getD k Ia).2 ((hs.getD i Ia).2.getD 0 Yr)>=0):Zih hs i k=false:=by unfold Zih;rw [aK h,aK O];rfl
end
def inB(b:List Yj)(a:List Lo)(q:Yj):Bool:=decide (atL b q>=0) && !(a.any λz=>decide (atL z.2 q>0))
def Zk5(c:List Yj)(b:List Lo)(fl a:Int)(q:Yj):Bool:=decide (q.2.2>=fl) && (decide (q.2.2<=a) && inB c b q)
section
variable {po:List Yj} {ph:List Lo} {fl fu:Int} {q:Yj}
theorem in_0(h:¬atL po q>=0):inB po ph q=false:=by unfold inB;rw [aK h];rfl
theorem in_1(h:atL po q>=0):inB po ph q=!(ph.any λz=>decide (atL z.2 q>0)):=by unfold inB;rw [aI h];rfl
theorem Zvn(h:¬q.2.2>=fl):Zk5 po ph fl fu q=false:=by unfold Zk5;rw [aK h];rfl
theorem Zvm(h:¬q.2.2<=fu):Zk5 po ph fl fu q=false:=by unfold Zk5;rw [aK h,kG,dH]
theorem Zvl(h:q.2.2>=fl)(a:q.2.2<=fu):Zk5 po ph fl fu q=inB po ph q:=by unfold Zk5;rw [aI h,aI a];rfl
def any_i{i:Nat}(hi:i<ph.length)(h:atL (ph.getD i Ia).2 q>0):(ph.any λz=>decide (atL z.2 q>0))=true:=jJ.2 ⟨_,Zi hi,aI h⟩
theorem any_n(c:ph.length<=m)(h:∀j,j<m->¬atL (ph.getD j Ia).2 q>0):(ph.any λz=>decide (atL z.2 q>0))=false:=oF.2 λz b=>by obtain⟨j,a,rfl⟩:=eD.1 b;have:=h j O;rw [aE,aL a]at this;simpa using this
theorem Zi2(h:Cd po ph fl fu=true):∀z∈ph,Kz z.2=true:=λz b=>by obtain⟨j,a,rfl⟩:=eD.1 b;have:=Zbq ((Cw h).2.2.1 j a);rwa [aE,aL a]at this
end
end Go.Sky
namespace Go.Sky
open Go.Proofs
def pPt:Enc Tryz.prog 23 3 Xa:=Enc.agg O3 Tryz.sizeOf23 Tryz.isAgg23 (λx=>⟨[.int .i64 x.1,.int .i64 x.2.1,.int .i64 x.2.2],rfl,rfl,O10⟩)
@[reducible,instance] def encPtI:EncT Tryz.prog 23 3 Xa:=⟨pPt⟩
def pPg:Enc Tryz.prog 37 1 (Ob (α:=List Yj)):=Enc.flat Tryz.sizeOf37 Tryz.isAgg37 (λ_=>rfl)
@[reducible,instance] def encPgI:EncT Tryz.prog 37 1 (Ob (α:=List Yj)):=⟨pPg⟩
end Go.Sky

