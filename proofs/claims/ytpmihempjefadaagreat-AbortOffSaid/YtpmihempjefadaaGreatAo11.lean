/- Rules, arithmetic and contracts: part 12. No conditions but those that each theorem names. -/
import Derived.Test.YtpmihempjefadaaGreatAo10
import Derived.MapKept
set_option linter.all false
namespace Go.Sky
open Go Go.MapKept
variable{D d:Int}{a b:List Ze}
variable {P:Program} {N:Nat} {sc:Nat->Prop} {env env':Qi} {H H':Hp} {Q Q':Exit->Act->World->Prop} {M:Nat->Prop}
abbrev PT:=SL×List Ze
abbrev PT0:PT:=((none,0,0),[])
abbrev encP (x:PT):Value:=Xp x.1
abbrev qP (x:PT):Pc:=Qj 6 Of qG (Xp x.1) x.2
def mpc(b:Nat)(c:Array MapEntry)(n:Nat):Pc:=
 {own:=true,fp:=λk=>k=b,holds:=λw=>w.heap[b]? = some (.map c n)
  lt:=λw k h f=>by subst f;exact(aO.1 h).1
  stable:=λw i h e=>by rw [<-h];exact e.block b (aO.1 h).1 (λg=>g rfl) }
def fewsB(m k:Nat)(c:List PT):Bool:=decide (c.length<=m) && c.all λx=>fewB x.2 k
def valsB(c:List PT):Bool:=c.all λx=>Xn x.2
abbrev ClT:=(Int×Int×Int×Int)×Bool×Int
abbrev clE (r:ClT):Value:= .tuple #[.agg #[.int .i64 r.1.1,.int .i64 r.1.2.1,.int .i64 r.1.2.2.1,.int .i64 r.1.2.2.2],.bool r.2.1,.int .i64 r.2.2]
def pth(ps:List PT)(i:Nat):List Ze:=(ps.getD i PT0).2
def clV(D n d:Int)(ps:List PT)(i k:Nat):ClT:=
 (if(Zig (Gm D n d (pth ps i) (pth ps k))).2.2=true then((i:Int),(k:Int),(Zig (Gm D n d (pth ps i) (pth ps k))).1,(Zig (Gm D n d (pth ps i) (pth ps k))).2.1)else(0,0,0,0),(Zig (Gm D n d (pth ps i) (pth ps k))).2.2,Eg (pth ps i) (pth ps k))
def ClA(D n d:Int)(ps:List PT)(i:Nat):Prop:=∀j k,j<k->k<ps.length->j<i->apZ D n d (pth ps j) (pth ps k)=true
def ClB(D n d:Int)(ps:List PT)(i m:Nat):Prop:=∀k,i<k->k<m->apZ D n d (pth ps i) (pth ps k)=true
def ClR(D n d:Int)(ps:List PT)(r:ClT):Prop:=
 (r=((0,0,0,0),false,0)/\ClA D n d ps ps.length)\/∃i k,i<k/\k<ps.length/\ClA D n d ps i/\ClB D n d ps i k/\apZ D n d (pth ps i) (pth ps k)=false/\r=clV D n d ps i k
theorem ap_no{n:Int}(h:(Zig (Gm D n d a b)).2.2=false)(c:Eg a b=0):apZ D n d a b=true:=by unfold apZ;rw [h,aJ c];rfl
theorem ap_is{n:Int}(h:(Zig (Gm D n d a b)).2.2=true):apZ D n d a b=false:=by unfold apZ;rw [h];exact dH _
theorem ap_e{n:Int}(c:Eg a b≠0):apZ D n d a b=false:=by unfold apZ;rw [aK c];rfl
end Go.Sky
namespace Go.Sky
open Go Go.MapKept
variable{o:Oper}{t:TypeId}{w0:World}{M0:Nat->Prop}{es:List (Int×Value)}
variable {P:Program} {N:Nat} {sc:Nat->Prop} {env env':Qi} {H H':Hp} {Q Q':Exit->Act->World->Prop} {M:Nat->Prop}
def mpe(a:Array MapEntry)(es:List (Int×Value)):Prop:=a.toList.map (λe=>(e.key,e.val))=es.map λp=>(Value.int .i64 p.1,p.2)
def mpi(b:Nat)(es:List (Int×Value)):Pc:=
 {own:=true,fp:=λk=>k=b,holds:=λw=>∃a n,w.heap[b]? = some (.map a n)/\mpe a es
  lt:=λw k h f=>by subst f;obtain⟨_,_,h,_⟩:=h;exact(aO.1 h).1
  stable:=λw i h e=>by obtain⟨a,n,c,d⟩:=h;exact⟨a,n,(e.block b (aO.1 c).1 (λg=>g rfl)).trans c,d⟩ }
def mfi:List (Int×Value)->Int->Nat->Option (Nat×Value)
 | [],_,_=>none
 | (a,v)::r,k,i=>if k=a then some (i,v)else mfi r k (i+1)
theorem fn_i(k:Int):∀(l:List MapEntry) (es:List (Int×Value)) (i:Nat),l.map (λe=>(e.key,e.val))=es.map (λp=>(Value.int .i64 p.1,p.2))->Instr.findNow (.int .i64) (.int .i64 k) l i=some (mfi es k i)
 | [],[],_,_=>rfl
 | [],_::_,_,h=>by cases h
 | _::_,[],_,h=>by cases h
 | e::l,(a,v)::es,i,h=>by
  simp only [cQ,List.cons.injEq,Prod.mk.injEq]at h;obtain⟨⟨c,d⟩,f⟩:=h;by_cases b:k=a
  .subst b;simp [Instr.findNow,c,d,Instr.sameNow,mfi]
  .have g:(k == a)=false:=by simpa using b
   simp [Instr.findNow,c,Instr.sameNow,g,mfi,b,fn_i k l es (i+1) f]
theorem t_mmi   {d i:Nat}   (j:o.op= .makeMap t none) (h:o.dst=some d) (f:Nat.blt d N=true)
  (c:lk H 0=some (Zt w0 M0)) (l:∀b,w0.heap.size<=b->sc b) :
  T P N sc M o env H (G:=Nat) (λ_=>True) (λb=>(d,.map (some b))::env) (λb=>(i,mpi b [])::H):=λa w hs K Q e=>by
 have k:(execOp a.eval o).run P w= .ok (.value (.map (some w.heap.size))) (w.alloc (.map #[] 0)):=by simp only [execOp,j,Sem.run_bind,Option.map_none];rfl
 unfold Oper.wp;rw [k];show K (a.put o.dst _) _;rw [h];exact e w.heap.size _ _ aA ((hs.new c l i (mpi w.heap.size []) (.map #[] 0) ⟨#[],0,heap_alloc_new w _,rfl⟩ (λb g=>g)).put d _ f) (Chg.alloc _ _ _)
theorem Yc6 (i:Nat)  {kt B:TypeId} {x y z:Operand} {b:Nat} {k:Int} {v:Value}    (V:o.op= .insert t x y z) (R:o.dst=none)
  (Z:ev env x=some (.map (some b))) (hy:ev env y=some (.int .i64 k)) (hz:ev env z=some v) (p:lk H i=some (mpi b es)) (m:mfi es k 0=none) (j:i≠0) (S:P.underlying t=some (.map kt B)) (d:P.underlying kt=some (.int .i64))
  (D:lk H 0=some (Zt w0 M0)) (Y:∀b,w0.heap.size<=b->sc b) (I:M b) :
  T P N sc M o env H (G:=Unit) (λ_=>True) (λ_=>env) (λ_=>(i,mpi b (es ++ [(k,v)]))::H):=λa w hs K Q F=>by
 obtain⟨c,n,h,s⟩:∃c n,w.heap[b]? = some (.map c n)/\mpe c es:=hs.hold i _ p;have l:b<w.heap.size:=(aO.1 h).1;have u:=fn_i k _ _ 0 s;rw [m]at u;have W:(execOp a.eval o).run P w= .ok .skip { w with heap:=w.heap.setIfInBounds b (.map (c.push ⟨.int .i64 k,v,n⟩) (n+1)) }:=by simp [execOp,V,hs.ev Z,hs.ev hy,hs.ev hz,Instr.mapUpdate,run_underlying S,Go.MapKept.run_getObj_map h,run_checkKey d (show IsKey (.int .i64) (.int .i64 k)from rfl),run_findKey d u,Go.MapKept.run_setObj_map _ h]
 unfold Oper.wp;rw [W];show K (a.put o.dst _) _;rw [R];have r:∀f:Nat->Prop,f b->Chg f w { w with heap:=w.heap.setIfInBounds b (.map (c.push ⟨.int .i64 k,v,n⟩) (n+1)) }:=λf g=>
  ⟨rfl,rfl,rfl,O8,λk d m=>by have:b≠k:=λe=>m (e▸g);simp [kU,this]⟩
 exact F () _ _ aA ((hs.upd p rfl j (q:=mpi b (es ++ [(k,v)])) (r (λk=>k=b) rfl) ⟨_,_,by simp only [kU,l,jY];rfl,by unfold mpe at *;simp [s]⟩ (λk d=> .inl d) D Y).put_none undef) (r _ I)
end Go.Sky
namespace Go.Sky
def Zak(a b:Int)(c:List Int):List Int:=a::(if a=b then []else c.map λf=>f*(b-a))
abbrev Zy3:List Int:=[0,0,10,-15,6]
def glC(a b:Int):List Int:=Zak a b Zy3
def Ygm{a:Int} : glC a a=[a]:=by unfold glC Zak;rw [aF rfl]
def glC_ne{a b:Int}(h:a≠b):glC a b=[a,0,0,10*(b-a),(-15)*(b-a),6*(b-a)]:=by unfold glC Zak;rw [aD h];simp
abbrev d2V (a b c e d f:Int):Int:=(a-e)*(a-e)+(b-d)*(b-d)+(c-f)*(c-f)
abbrev uNear:Rat:=(1-57735026918962576/100000000000000000)/2
def Ygo:∀(l:List Int),Ln 1 l=1
 | []=>rfl
 | x::r=>by show Ln ((Int.gcd 1 x:Nat):Int) r=1;rw [Int.gcd_one_left];exact Ygo r
def Zvv{a b:Int}(e:-1048576<=a/\a<=1048576)(f:-1048576<=b/\b<=1048576):axB (glC a b) 1=true:=by
 by_cases h:a=b
 .subst h;rw [Ygm];have d:ctl [a] 0 1=a*60:=by simp [ctl,Yb,w60,Py]
  have:Zho [a] 1=true:=Zqj λj c=>by
   obtain rfl:j=0:=by simp at c;omega
   rw [d];omega
  unfold axB;rw [this];simp
 .rw [glC_ne h];have d:∀j,j<6->ctl [a,0,0,10*(b-a),(-15)*(b-a),6*(b-a)] j (j+1)=if j<3 then a*60 else b*60:=λj c=>by
   match j,c with
   | 0,_=>simp [ctl,Yb,w60,Py]
   | 1,_=>simp [ctl,Yb,w60,Py]
   | 2,_=>simp [ctl,Yb,w60,Py]
   | 3,_=>simp [ctl,Yb,w60,Py];omega
   | 4,_=>simp [ctl,Yb,w60,Py];omega
   | 5,_=>simp [ctl,Yb,w60,Py];omega
  have:Zho [a,0,0,10*(b-a),(-15)*(b-a),6*(b-a)] 1=true:=Zqj λj c=>by rw [d j (by simpa using c)];split<;>omega
  unfold axB;rw [this];simp;omega
structure GlS (g:Ze) (T ax ay az bx b2 bz:Int):Prop where
 f:g.1.1=0
 t:g.1.2.1=T
 o:g.1.2.2=1
 x:g.2.1.2=glC ax bx
 y:g.2.2.1.2=glC ay b2
 z:g.2.2.2.2=glC az bz
section
variable {g:Ze} {T ax ay az bx b2 bz:Int} (hg:GlS g T ax ay az bx b2 bz) (hT:1<=T/\T<=3600000) (ha:ptB ax ay az=true) (hb:ptB bx b2 bz=true)
include hg hT ha hb
end
end Go.Sky
namespace Go.Sky
open Go.RowKit Below
variable {P:Program} {N:Nat} {sc:Nat->Prop} {env env':Qi} {H H':Hp} {Q Q':Exit->Act->World->Prop} {M:Nat->Prop}
end Go.Sky
namespace Go.Sky
variable{p q x y z x2 y2 z2:List Int}{a b:List Ze}{D ov ov2:Int}{zs:List GpT}{t:TypeId}{kd:IntKind}
theorem Zes(h:Tr p):Yk p 1=p:=by
 unfold Yk;have:p.map (· * (1:Int))=p:=by rw [show(λx:Int=>x*1)=id from oO λx=>iD x,nA]
 rw [this,Zai h]
def dk_one{a b:Int} : dfK p q a b 1=dfP p q a b:=Zes (Qq _)
theorem Ykg{a b:Int} : sqK p q a b 1=sqP p q a b:=by unfold sqK sqP;rw [dk_one]
theorem ng_one(D ov ov2:Int):ngC [D,1,ov,ov2] 4=ngC [D,ov,ov2] 3:=by
 have c:ngC [D,1,ov,ov2] 1=ngC [D,ov,ov2] 1:=rfl;have t1:Tr (ngC [D,ov,ov2] 1):=(Zo3 _ 1).2.2;have d:ngC [D,1,ov,ov2] 2=ngC [D,ov,ov2] 1:=by show Yk (Yk (ngC [D,1,ov,ov2] 1) 1) 1=_;rw [c,Zes t1,Zes t1]
 have e:ngC [D,1,ov,ov2] 3=ngC [D,ov,ov2] 2:=by show Yk (Yk (ngC [D,1,ov,ov2] 2) ov) ov=Yk (Yk (ngC [D,ov,ov2] 1) ov) ov;rw [d]
 show Yk (Yk (ngC [D,1,ov,ov2] 3) ov2) ov2=Yk (Yk (ngC [D,ov,ov2] 2) ov2) ov2;rw [e]
def fqS(ov ov2:Int)(x y z x2 y2 z2:List Int)(i:Nat):List Int:=sqP (Ye i x y z) (Ye i x2 y2 z2) ov ov2
def smS(D ov ov2:Int)(x y z x2 y2 z2:List Int)(i:Nat):List Int:=smP (ngC [D,ov,ov2] 3) (fqS ov ov2 x y z x2 y2 z2) i
def Yd5(i:Nat):Ye i (1:Int) 1 1=1:=Bm (p:=λk:Int=>k=1) rfl rfl rfl
theorem fsZ(D ov ov2:Int)(x y z x2 y2 z2:List Int):fmZ D 1 1 ov ov2 x y z x2 y2 z2=Yi (smS D ov ov2 x y z x2 y2 z2 3):=by
 have c:fqZ 1 1 ov ov2 x y z x2 y2 z2=fqS ov ov2 x y z x2 y2 z2:=oO λi=>by unfold fqZ fqS;rw [Yd5,Ykg]
 unfold fmZ smZ smS cnZ;rw [c,ng_one]
def dsB(D:Int):Bool:=decide (0<=D) && decide (D<=4194304)
theorem ds_b(h:dsB D=true):0<=D/\D<=4194304:=by unfold dsB at h;rw [aQ,cT,cT]at h;exact h
structure FsX (D ov ov2:Int) (x y z x2 y2 z2:List Int):Prop where
 X:∀i,FmX (Ye i x y z) (Ye i x2 y2 z2) ov ov2 1
 N:∀i,i<=3->NgX [D,ov,ov2] i
 Q:SmX (ngC [D,ov,ov2] 3) (fqS ov ov2 x y z x2 y2 z2)
theorem fsX{fr w d h:Int}(f:Sgo fr w ov x y z)(c:Sgo d h ov2 x2 y2 z2)(m:∀i,Ab KA (tzl (Ye i x y z)))(e:∀i,Ab KA (tzl (Ye i x2 y2 z2)))(o:dsB D=true):FsX D ov ov2 x y z x2 y2 z2:=by
 obtain⟨F,B⟩:=ds_b o;have r:=f.o1;have s:=f.o2;have u:=c.o1;have v:=c.o2;have g:∀i,FmX (Ye i x y z) (Ye i x2 y2 z2) ov ov2 1:=λi=>fmX (m i) (e i) (f.lc i).2 (c.lc i).2 ⟨r,s⟩ ⟨u,v⟩ ⟨O3,O3⟩;have n:∀i,([D,ov,ov2].getD i 0).natAbs<=4294967296:=λi=>by
  match i with
  | 0=>show D.natAbs<=_;omega
  | 1=>show ov.natAbs<=_;omega
  | 2=>show ov2.natAbs<=_;omega
  | i+3=>show(0:Int).natAbs<=_;decide
 refine⟨g,λi hi=>ngX n (aB hi O3),?_⟩;obtain⟨j,k,l⟩:=Zo3 [D,ov,ov2] 3;refine smX (j.mono ?_) k l (λi=>(g i).ab8) (λi=>(g i).l8);show 1*D.natAbs*D.natAbs*ov.natAbs*ov.natAbs*ov2.natAbs*ov2.natAbs<=2^190;refine aB (aY (aY (aY (aY (aY (aY (aI 1) (show D.natAbs<=4194304 by omega)) (show D.natAbs<=4194304 by omega)) (show ov.natAbs<=4294967296 by omega)) (show ov.natAbs<=4294967296 by omega)) (show ov2.natAbs<=4294967296 by omega)) (show ov2.natAbs<=4294967296 by omega)) O7
theorem Ymn(h:FsX D ov ov2 x y z x2 y2 z2):Cvd (fmZ D 1 1 ov ov2 x y z x2 y2 z2):=by rw [fsZ];exact h.Q.d
theorem cvd_gs(i:∀g∈a,Gin g)(j:∀g∈b,Gin g)(c:Xn a=true)(d:Xn b=true)(I:dsB D=true){xs ys:List Ze}(o:xs.map Ds=Iu a b a)(s:ys.map Ds=Iu a b b):∀g∈Gm D 1 1 a b,Cvd g.2.2:=λg n=>by
 unfold Gm at n;obtain⟨k,F,e⟩:=eD.1 n;rw [List.getElem_zipWith]at e;subst e;rw [nF]at F;have f:k<(Iu a b a).length:=O;have h:k<(Iu a b b).length:=O;have M:(Iu a b a)[k]∈xs.map Ds:=by rw [o];exact fX f
 have N:(Iu a b b)[k]∈ys.map Ds:=by rw [s];exact fX h
 obtain⟨q,G,w⟩:=eV.1 M;obtain⟨r,H,B⟩:=eV.1 N;obtain⟨u,l⟩:=Zp8 i c o q G;obtain⟨v,m⟩:=Zp8 j d s r H;rw [<-w,<-B];simp only [gpZ,Ds];exact Ymn (fsX (Ig u l) (Ig v m) (Zoe l) (Zoe m) I)
theorem cvd_as(e:∀g∈a,Gin g)(f:∀g∈b,Gin g)(c:Xn a=true)(d:Xn b=true)(l:dsB D=true)(h:zs.map unP=Gm D 1 1 a b){k:Nat}(i:k<zs.length):Cvd (zs.getD k Gp0).2.2:=by
 have j:unP (zs.getD k Gp0)∈Gm D 1 1 a b:=by rw [<-h];exact eV.2 ⟨_,Zi i,rfl⟩
 exact cvd_gs e f c d l (un_mk (Iu a b a)) (un_mk (Iu a b b)) _ j
section
variable {P:Program} {N:Nat} {sc:Nat->Prop} {env:Qi} {H:Hp}
theorem d_ix3i {o:Oper} {x y:Operand} {e:TypeId} {i:Nat}  {m d f g:Int} (n:o.op= .index t x y) (s:ev env x=some (.agg #[.int .i64 d,.int .i64 f,.int .i64 g])) (u:ev env y=some (.int kd m))
  (r:P.underlying t=some (.array 3 e)) (k:∀w,(sizeOf e).run P w= .ok 1 w) (j:∀w,(isAgg e).run P w= .ok false w) (c:m=(i:Int)) (l:i<3):Ms P N sc o env H (.int .i64 ([d,f,g].getD i 0)):=λa w hs=>by
 subst c;have h:i=0\/i=1\/i=2:=O;rcases h with rfl|rfl|rfl<;>simp [execOp,n,hs.ev s,hs.ev u,Instr.index,asIntOf,run_underlying r,k,j,asAgg,part]
end
theorem df_sel{X Y Z:List Int}(i:Nat)(c:X=dfP x x2 ov ov2)(d:Y=dfP y y2 ov ov2)(e:Z=dfP z z2 ov ov2):Ye i X Y Z=dfP (Ye i x y z) (Ye i x2 y2 z2) ov ov2:=by subst c d e;unfold Ye;split<;>rfl
end Go.Sky
namespace Go.Sky
open Go.RowKit Below
variable{ops:Array Oper}{o:Oper}{rest:List Oper}{d i:Nat}{x:Operand}{ops':List Operand}{tys:Array TypeId}{w0:World}{M:Nat->Prop}{Jx:World->Prop}{pre:List Pc}
variable {P:Program} {N:Nat} {sc:Nat->Prop} {env env':Qi} {H H':Hp} {Q Q':Exit->Act->World->Prop}
def fctP(p:Prop):Pc:={ own:=false,fp:=λ_=>False,holds:=λ_=>p,lt:=λ_ _ _ h=>h.elim,stable:=λ_ _ h _=>h }
theorem wtd{j e:Nat}{b:Bool}(h:o.guard=some (j,b))(k:(ops[j]?).bind (·.dst)=some e)(g:lk env e=some (.bool b))(c:Nat.blt e N=true):∀a w,Sat N sc env H a w->Region.wanted o (yielded ops a.tmps)=true:=λa w hs=>by have f:=hs.yielded k g c;simp [Region.wanted,h,f]
theorem Mj{v:Value}(f:Ms P N sc o env H v)(e:∀a w,Sat N sc env H a w->Region.wanted o (yielded ops a.tmps)=true)(c:o.dst=some d)(b:Nat.blt d N=true)(h:LI P N sc ops rest Q ((d,v)::env) H):LI P N sc ops (o::rest) Q env H:=λa w hs=>by unfold wpListIn;rw [aF (e a w hs)];refine⟨λ_ _=>trivial,?_⟩;show o.uponIn Fence.wide 0 P a _ Q ((execOp a.eval o).run P w);rw [f a w hs];show wpListIn Fence.wide 0 P ops Q rest (a.put o.dst v) w;rw [c];exact h _ w (hs.put d v b)
theorem Zdt (vs:List Value)(pre:List Pc)    {l:Nat}     {W:World}  {J:Nat->World->Prop}  {α G:Type} {xs:List α} {ys:α->G->List Value} {D:α->G->List Pc} 
  {k:Nat} (y:α) (g:G) (hY:YJI P w0 l M J Jx xs ys D) (hy:xs[k]? = some y) (hJ:J k W) (hW:w0.heap.size<=W.heap.size) (m:∀p∈pre,∀b,p.fp b->b<w0.heap.size/\¬M b)
  (ho:o.op= .call { callee:= .value x,args:=ops'.toArray,argTypes:=tys }) (hg:∀a w,Sat N sc env H a w->Region.wanted o (yielded ops a.tmps)=true) (hd:o.dst=some d) (Z:Nat.blt d N=true) (hx:ev env x=some (.func (.yield l) #[] #[])) (r:EvL env ops' vs) (S:vs=ys y g)
  (h0:lk H 0=some (Zt W (λ_=>False))) (u:∀p∈D y g,p.own=false/\(∀b,p.fp b->W.heap.size<=b)/\∃i I,lk H i=some I/\∀w,I.holds w->p.holds w)
  (v:AllRo pre) (n:HSub (Yg 1 pre) H)
  (ht:∀c,J (k+1) c->w0.heap.size<=c.heap.size->LI P N sc ops rest Q ((d,.bool true)::env) ((0,Zt c (λ_=>False))::Yg 1 pre))
  (hf:∀c,Jx c->w0.heap.size<=c.heap.size->LI P N sc ops rest Q ((d,.bool false)::env) ((0,Zt c (λ_=>False))::Yg 1 pre)):LI P N sc ops (o::rest) Q env H:=λa w hs=>by
 subst S;have Y:=Iy (hs.hold 0 _ h0);obtain⟨fn,F,f,s,z,j⟩:=hY k y g hy W w hJ hW Y (λp hp=>by obtain⟨h1,h2,i,I,hi,hh⟩:=u p hp;exact⟨hh w (hs.hold i I hi),h1,h2⟩)
 have R:(o.semAt Fence.wide.round a.eval).run P w= .ok (.round l fn F f s) w:=by show(execOp a.eval o).run P w=_;have hm:=r.map hs;have V:=hs.ev hx;simp [execOp,ho,resolve,invoke,Deferred.ofValue,hm,V,z,Sem.run_bind]
 unfold wpListIn;rw [aF (hg a w hs)];refine⟨λ_ _=>trivial,?_⟩;rw [R];refine⟨λh=>(by cases h),j.mono ?_⟩;have B:w0.heap.size<=w.heap.size:=aB hW Y.size;rintro e c (⟨rfl,q,t⟩|⟨rfl,q,t⟩)
 .show wpListIn Fence.wide 0 P ops Q rest (a.put o.dst _) c;rw [hd];exact ht c q (aB B t.size) _ c ((hs.base m v n t).put d _ Z)
 .show wpListIn Fence.wide 0 P ops Q rest (a.put o.dst _) c;rw [hd];exact hf c q (aB B t.size) _ c ((hs.base m v n t).put d _ Z)
theorem Zi3{α:Type}{ps:List α}{p:α->Bool}{d:α}(hi:i<ps.length)(b:p (ps.getD i d)=true):(ps.filter p)[((ps.take i).filter p).length]? = some (ps.getD i d):=by
 have h:=fH i ps;have a:ps.drop i=ps.getD i d::ps.drop (i+1):=by rw [aE,aM hi,fC];exact eG hi
 conv=>lhs;arg 1;rw [<-h,a]
 rw [fO,eR b];simp
theorem Zy7{α:Type}{ps:List α}{p:α->Bool}{d:α}(hi:i<ps.length)(a:p (ps.getD i d)=true):((ps.take (i+1)).filter p).length=((ps.take i).filter p).length+1:=by rw [Ps d _ _ hi,fO,eR a,bE];rfl
theorem Zy8{α:Type}{ps:List α}{p:α->Bool}{d:α}(hi:i<ps.length)(a:p (ps.getD i d)=false):((ps.take (i+1)).filter p).length=((ps.take i).filter p).length:=by rw [Ps d _ _ hi,fO,gF (by rw [a];exact bD),bE];rfl
theorem Zga{φ:Prop}{n:Nat}{H:Hp}{k:Pc}(h:φ)(c:lk H 0=some k):∀p∈[fctP φ],p.own=false/\(∀b,p.fp b->n<=b)/\∃i a,lk H i=some a/\∀w,a.holds w->p.holds w:=λp f=>by rw [bZ.1 f];exact⟨rfl,λb e=>e.elim,0,k,c,λ_ _=>h⟩
theorem fk_of{fn:Func}{al:Bool}{G:Type}{φ:G->Prop}{val:G->Value}{b:G->List Pc}(h:X N sc .ret (Zah P fn w0 pre al φ val b) env H):X N sc .ret (Zdc P fn w0 pre al φ val b) env H:=λa w hs=>by obtain⟨e,v,f,c⟩:=h a w hs;show LeavesInM Fence.wide 0 P fn a.tmps _ a.defers .returning w;rw [e];exact⟨v,f,c⟩
end Go.Sky
namespace Go.Sky
variable{D x:Int}{a b:List Ze}{zs:List GpT}
theorem Ym6(e:∀g∈a,Gin g)(f:∀g∈b,Gin g)(c:Xn a=true)(d:Xn b=true)(l:dsB D=true)(h:zs.map unP=Gm D 1 1 a b):∀z∈zs,Cvd z.2.2:=λz j=>by obtain⟨k,i,rfl⟩:=kV j;have:=cvd_as e f c d l h i;rwa [aE,aM i]at this
def nbF(z:GpT):Bool:=Zd6 z.2.2
theorem Yn0{n d:Int}(h:zs.map unP=Gm D n d a b)(c:¬Eg a b≠0)(e:(zs.filter λz=>Zd6 z.2.2).length=0):apZ D n d a b=true:=by
 refine ap_no ?_ (fT.1 c);rw [fst_no h λi hi=>?_];cases hn:Zd6 (zs.getD i Gp0).2.2 with
 | false=>rfl
 | true=>
  have:zs.getD i Gp0∈zs.filter λz=>Zd6 z.2.2:=fL.2 ⟨Zi hi,hn⟩;rw [aG e]at this;cases this
theorem Yiu{n d:Int}{k:Nat}{x:GpT}(h:zs.map unP=Gm D n d a b)(f:(zs.filter λz=>Zd6 z.2.2)[k]? = some x):apZ D n d a b=false:=by
 have c:=(fL.1 (dU f));refine ap_is ?_;cases hf:(Zig (Gm D n d a b)).2.2 with
 | true=>rfl
 | false=>
  exfalso;have e:Ymm (Gm D n d a b)=none:=by
   cases he:Ymm (Gm D n d a b)with
   | none=>rfl
   | some g=>unfold Zig at hf;rw [he]at hf;cases hf
  have:=nS.1 e (unP x) (by rw [<-h];exact eV.2 ⟨x,c.1,rfl⟩);exact this c.2
open Go.RowKit Below
section
variable {P:Program} {N:Nat} {sc:Nat->Prop} {env:Qi} {H:Hp}
end
theorem rn_one(g:Mw x):Ho x 1=x/\Iq x 1=1:=by
 have d:Mp x 1=1:=by rw [Zpc O3,show Int.gcd x 1=1 from by simp];rfl
 have f:¬La x 1:=by unfold La;rw [d,nY];have:=Db g;have c:bl (1/1:Int).natAbs<=1:=O3;omega
 obtain⟨c,e,-⟩:=Zap f;rw [c,e,d];exact⟨nY x,O3⟩
abbrev wtM (z:GpT) (u:R2):R2:=(Ho (u.1*(z.1.2-z.1.1)) (u.2*1),Iq (u.1*(z.1.2-z.1.1)) (u.2*1))
abbrev wtT (z:GpT) (u:R2):R2:=(Ho ((wtM z u).1*1+z.1.1*(wtM z u).2) ((wtM z u).2*1),Iq ((wtM z u).1*1+z.1.1*(wtM z u).2) ((wtM z u).2*1))
abbrev wtV (g:R2×Int):Value:= .tuple #[.agg #[.bool (decide (g.1.1<0)),.string (Xo (g.1.1).natAbs),.bool (decide (g.1.2<0)),.string (Xo (g.1.2).natAbs)],.int .i64 g.2]
theorem Yio{g:Int}(h:g∣x)(d:g≠0):bl (x/g).natAbs<=bl x.natAbs:=by refine Ll ?_;obtain⟨c,rfl⟩:=h;rw [fK _ d,cH];exact mF _ O
theorem nrf{y:Int}(k:bl x.natAbs<=65536)(l:bl y.natAbs<=65536)(d:0<y):¬La x y/\bl (Ho x y).natAbs<=bl x.natAbs/\bl (Iq x y).natAbs<=bl y.natAbs/\0<Iq x y:=by
 have e:Mp x y≠0:=Zyt O;have i:Mp x y∣x:=by rw [Zpc d];exact iJ ..
 have j:Mp x y∣y:=by rw [Zpc d];exact gE ..
 have f:=Yio i e;have g:=Yio j e;have c:¬La x y:=λh=>by unfold La at h;omega
 refine⟨c,?_,?_,Zo2 c d⟩
 .rw [(Zap c).1];exact f
 .rw [(Zap c).2.1];exact g
def WtP(D:Int)(a b:List Ze)(g:R2×Int):Prop:=
 (Eg a b≠0/\g=((0,0),Eg a b))\/(Eg a b=0/\apZ D 1 1 a b=true/\g=((0,0),9))\/
  (Eg a b=0/\apZ D 1 1 a b=false/\g.2=0/\∃z:GpT,unP z∈Gm D 1 1 a b/\∃u,Fnd z.2.2 (qv (0,1)) (qv (1,1)) u/\g.1=wtT z u)
def prow(n i:Nat):List (Nat×Nat):=(List.range (n-(i+1))).map λj=>(i,i+1+j)
def prU(n:Nat):Nat->List (Nat×Nat)
 | 0=>[]
 | i+1=>prU n i ++ prow n i
abbrev prs (n:Nat):List (Nat×Nat):=prU n n
def lx(p q:Nat×Nat):Prop:=p.1<q.1\/(p.1=q.1/\p.2<q.2)
def PrI(D:Int)(c:List PT)(k:Nat):Prop:=∀j p,j<k->(prs c.length)[j]? = some p->apZ D 1 1 (pth c p.1) (pth c p.2)=true
end Go.Sky
namespace Go.Sky
def dfA(p q:List Int)(b a:Int)(t:Rat):Rat:=Zb p t*(a:Rat)-Zb q t*(b:Rat)
def fvE(D n d b a:Int)(x y z c e f:List Int)(t:Rat):Rat:=
 ((d:Rat)*dfA x c b a t)*((d:Rat)*dfA x c b a t)+((d:Rat)*dfA y e b a t)*((d:Rat)*dfA y e b a t)+((n:Rat)*dfA z f b a t)*((n:Rat)*dfA z f b a t)
  - ((D:Rat)*(d:Rat)*(b:Rat)*(a:Rat))*((D:Rat)*(d:Rat)*(b:Rat)*(a:Rat))
def fvU(D n d:Int)(g h:Zht)(t:Rat):Rat:=fvE D n d g.1.2.2 h.1.2.2 g.2.1 g.2.2.1 g.2.2.2 h.2.1 h.2.2.1 h.2.2.2 t
def gZ(o:Int)(l:List Int):Nat->Int
 | 0=>o
 | i+1=>(Int.gcd (gZ o l i) (cf l i):Int)
def plC(a d:Int)(x y z:List Int)(t:Nat):Int:=pl (Ye t x y z) a d
def lowL(o:Int)(l:List Int):List Int:=mk 3 λt=>cf l t/gZ o l 3
def me_no{g h:Ze}(a:h.1.1≠g.1.2.1):meG g h=false:=by unfold meG Zkv;rw [aK (λe=>a e.symm)];rfl
def lastB(ps:List Ze)(t:Int):Bool:=decide (spF ps<=t) && decide (t<=spL ps)
def exI(ps:List Ze)(t:Int):Nat:=ps.findIdx λg=>decide (t<=g.1.2.1)
def Yhc{ps:List Ze}(b:Xn ps=true){i:Nat}(hi:i+1<ps.length):(ps.getD (i+1) G0).1.1=(ps.getD i G0).1.2.1:=by have h:=(Oi b).1 (i+1) hi;have a:=Zki (Cv h) (mG i);rw [h]at a;refine bJ λc=>?_;have:=me_no (g:=ps.getD i G0) (h:=ps.getD (i+1) G0) c;rw [show i+1-1=i from rfl,this]at a;cases a
def exA(ps:List Ze)(t:Int):Int:=t-(ps.getD (exI ps t) G0).1.1
def exD(ps:List Ze)(t:Int):Int:=(ps.getD (exI ps t) G0).1.2.1-(ps.getD (exI ps t) G0).1.1
def exO(ps:List Ze)(t:Int):Int:=(ps.getD (exI ps t) G0).1.2.2*exD ps t^5/gS (ps.getD (exI ps t) G0).1.2.2 (exA ps t) (exD ps t) (ps.getD (exI ps t) G0).2.1.2 (ps.getD (exI ps t) G0).2.2.1.2 (ps.getD (exI ps t) G0).2.2.2.2 3
def exL(ps:List Ze)(t:Int):List Int:=lowL ((ps.getD (exI ps t) G0).1.2.2*exD ps t^5) (mk 3 (plC (exA ps t) (exD ps t) (ps.getD (exI ps t) G0).2.1.2 (ps.getD (exI ps t) G0).2.2.1.2 (ps.getD (exI ps t) G0).2.2.2.2))
section
variable {P:Program} {N:Nat} {sc:Nat->Prop} {env:Qi} {H:Hp}
end
end Go.Sky
namespace Go.Sky
def Zxd{ps:List Ze}(d:∀g∈ps,Gin g)(b:Xn ps=true){k m:Nat}(l:k<=m)(a:m<ps.length):(ps.getD k G0).1.2.1<=(ps.getD m G0).1.2.1:=by
 induction m with
 | zero=>
   obtain rfl:k=0:=O;exact fE _
 | succ m e=>
  rcases aX m k with h|h
  .obtain rfl:k=m+1:=O;exact fE _
  .have f:=e h O;have i:=Yhc b a;have c:SgG (ps.getD (m+1) G0):=Ig (d _ (Zi a)) (Cv ((Oi b).1 _ a));have j:=c.t2;omega
def exC(ps:List Ze)(t:Int)(c:List Int):Int:=pl c (exA ps t) (exD ps t)/gS (ps.getD (exI ps t) G0).1.2.2 (exA ps t) (exD ps t) (ps.getD (exI ps t) G0).2.1.2 (ps.getD (exI ps t) G0).2.2.1.2 (ps.getD (exI ps t) G0).2.2.2.2 3
def spX(g:Ze)(i:Nat)(s:Rat):Rat:=Zb (Ye i g.2.1.2 g.2.2.1.2 g.2.2.2.2) s
def exN(ps:List Ze)(t:Int)(i:Nat):Int:=exC ps t (Ye i (ps.getD (exI ps t) G0).2.1.2 (ps.getD (exI ps t) G0).2.2.1.2 (ps.getD (exI ps t) G0).2.2.2.2)
def rdN(ps:List Ze)(t:Int)(i:Nat):Int:=(exN ps t i+exN ps t i+exO ps t)/(exO ps t+exO ps t)
def rdL(ps:List Ze)(t:Int):Nat->List Int
 | 0=>[0,0,0]
 | i+1=>(rdL ps t i).set i (rdN ps t i)
structure AtB (n o:Int):Prop where
 b1:bl n.natAbs<=30000
 b2:bl o.natAbs<=30000
 n2:bl (n+n).natAbs<=30000
 o2:bl (o+o).natAbs<=30000
 s:bl (n+n+o).natAbs<=30000
 z:o+o≠0
 q:((n+n+o)/(o+o)).natAbs<=9223372036854775807
section
variable {P:Program} {N:Nat} {sc:Nat->Prop} {env:Qi} {H:Hp}
end
end Go.Sky
namespace Go.Sky
def SmP(g:Ze)(s:Rat)(h:Ze)(u:Rat):Prop:=∀i,i<3->spX g i s*(h.1.2.2:Rat)=spX h i u*(g.1.2.2:Rat)
def SmP.symm{g h:Ze}{s u:Rat}(e:SmP g s h u):SmP h u g s:=λi hi=>(e i hi).symm
def SmP.trans{g h k:Ze}{s u v:Rat}(a:(h.1.2.2:Rat)≠0)(e:SmP g s h u)(f:SmP h u k v):SmP g s k v:=λi hi=>by
 have b:=e i hi;have c:=f i hi;have:(spX g i s*(k.1.2.2:Rat)-spX k i v*(g.1.2.2:Rat))*(h.1.2.2:Rat)=0:=O4;rcases fB.1 this with q|q
 .grind
 .exact absurd q a
def sTm(g:Ze)(t:Int):Rat:=((t-g.1.1:Int):Rat)/((g.1.2.1-g.1.1:Int):Rat)
section
variable {D n d:Int} {a b:List Ze} (hpa:∀g∈a,Gin g) (hpb:∀g∈b,Gin g) (hba:Xn a=true) (hbb:Xn b=true) (hz:znB D n d=true)
include hpa hpb hba hbb hz
end
end Go.Sky
namespace Go.Sky
def NrP(a b:List Ze)(g:Int×Int):Prop:=
 (Eg a b≠0/\g=(0,Eg a b))\/(Eg a b=0/\Gm 0 1 1 a b=[]/\g=(0,9))\/
  (Eg a b=0/\Gm 0 1 1 a b≠[]/\g.2=0/\0<=g.1/\g.1<=4194304/\∀k,1<=k->k<=4194304->apZ k 1 1 a b=decide (k<=g.1))
section
variable {a b:List Ze} (hpa:∀g∈a,Gin g) (hpb:∀g∈b,Gin g) (hba:Xn a=true) (hbb:Xn b=true)
include hpa hpb hba hbb
end
def NrS(a b:List Ze)(r:Nat):Prop:=r<=4194304/\(∀k,k<r->apZ ((k:Int)+1) 1 1 a b=true)/\∀k,r<=k->k<4194304->apZ ((k:Int)+1) 1 1 a b=false
theorem ds_in{k:Int}(c:0<=k)(d:k<=4194304):dsB k=true:=by unfold dsB;rw [aJ c,aJ d];rfl
section
variable {a b:List Ze} (hpa:∀g∈a,Gin g) (hpb:∀g∈b,Gin g) (hba:Xn a=true) (hbb:Xn b=true)
include hpa hpb hba hbb
end
def Yl1(fr j d e f h c i k:Int)(s:SL×SL×SL):Ze:=((fr,j,1),(s.1,tmL d h k),(s.2.1,tmL e c k),(s.2.2,tmL f i k))
def gv0(s:SL×SL×SL):Ze:=Yl1 0 1000 0 0 0 1000 0 0 1 s
def gv1(s:SL×SL×SL):Ze:=Yl1 0 1000 1000 300 0 0 300 0 1 s
def gv2(s:SL×SL×SL):Ze:=Yl1 500 2000 0 700 0 0 700 0 2 s
def gvL(s:SL×SL×SL):Ze:=Yl1 1000 2000 0 0 0 1000 0 0 1 s
section
variable (s t:SL×SL×SL)
end
end Go.Sky
namespace Go.Sky
def shG(b:Int)(g:Ze):Ze:=((g.1.1+b,g.1.2.1+b,g.1.2.2),g.2)
def shK(b:Int)(ps:List Ze)(k:Nat):List Ze:=(ps.take k).map (shG b) ++ ps.drop k
abbrev shA (b:Int) (x:Ze):Ze:=((x.1.1+b,x.1.2.1,x.1.2.2),x.2)
abbrev shB (b:Int) (x:Ze):Ze:=((x.1.1,x.1.2.1+b,x.1.2.2),x.2)
def Ydn{ps:List Ze}(b:∀g∈ps,Gin g)(a:Xn ps=true):0<=spF ps/\spF ps<=3600000/\0<=spL ps/\spL ps<=3600000:=by have d:=(Oi a).2.1;have s:SgG (ps.getD 0 G0):=Ig (b _ Zi) (Cv ((Oi a).1 _ O));have t:SgG (ps.getD (ps.length-1) G0):=Ig (b _ Zi) (Cv ((Oi a).1 _ O));have c:=s.t1;have e:=s.t2;have f:=s.t3;have t1:=t.t1;have t2:=t.t2;have t3:=t.t3;unfold spF spL;exact⟨c,O,O,t3⟩
def ShR(ps:List Ze)(y:Int)(zs:List Ze)(e:Int):Prop:=(e=3/\(y < -(spF ps)\/y>3600000-spL ps))\/(e=0/\¬y < -(spF ps)/\¬y>3600000-spL ps/\zs.map Ds=(ps.map (shG y)).map Ds)
end Go.Sky

